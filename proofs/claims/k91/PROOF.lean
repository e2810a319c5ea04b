import PyProof.Rows.All
import Wide.All
import OpenK.AllK
import Wide.FinOn
import KE.KStateDown
import HandS.ForMost
import HandS.Defaults
import HandS.Codes
import HandS.Conv
import HandS.OwnEq
import HandS.Property
import HandS.IsInst
import HandS.TupAny
import HandS.TupLen
import HandS.DictTup
import HandS.DictComp
import HandS.Deep
import HandS.SortRule
import HandS.Strs
import HandS.Flow
import HandS.Zip
import HandS.Wide
import HandS.Steps
import HandS.Walk
import HandS.Nested
import HandS.Text
import HandS.SortOrd
import KE.GoesEnum
import KE.GoesMore
import KE.KDictWalk
import HandS.Finally
import HandS.Head0
import HandS.Head1
import HandS.Head2
import HandS.HeadHook1
import HandS.HeadHook2
import HandS.HeadHook3
import HandS.HeadHook4
import HandS.HeadWalk
import KE.KDictKeyed
import KE.KDictOf
import PyProof.InstNe
import PySem.Challenge.RW_onlyheard_k91_fixed_play_edits
set_option Elab.async false
set_option linter.all false
set_option maxRecDepth 100000
set_option maxHeartbeats 4000000
namespace Oh
open PySem PySem.Spec PyProof.Rows L2
open C8 (Cal Met Mak pe_c pe_mk pe_mt pe_mt0 pe_gc InsC call_isC tCut pss_cut fnBody fnArgs fnScope)
/-! ### a def of the text, by its name -/
structure Has (K : PySem.W.Frag) (mg : Str → Option Value) (x : Str) (st : Stmt) (dvs : List V) : Prop where
  ex : ∃ f fd, FunD K x x (fnArgs st) (fnBody st) (fnScope st) dvs [] f fd ∧ mg x = some (.ref f)
section
variable {P : Program} {w : World} {K : PySem.W.Frag} {mg : Str → Option Value} {base : Heap} {x : Str} {st : Stmt} {dvs dv : List V} {N ps : List Str} {k : Nat} {sp : Sp}
theorem Has.cal (h : Has K mg x st dvs) (S : FnScope N ps (fnScope st))
    (b : ∀ {f fd}, FunD K x x (fnArgs st) (fnBody st) (fnScope st) dvs [] f fd → ∃ ds, Vals dv ds ∧ Binds K fd ps ds)
    (len : ∀ vs H Q E, sp vs H Q E → vs.length = ps.length)
    (hb : ∀ (f : Addr) (cdv : Value) (A : Around) (outer : List Env) (s : Shared) (H : Hp) (vs : List V) (Q : VK) (E : XK), Room k (A.deeper (envOfC x (fnScope st) s.heap.objs.size f cdv)) → sp vs H Q E →
      ∃ t, PSs (cxOf C8.CX0 P w K mg base N x (fnScope st) f cdv A outer s H E).nox (fnBody st) t ∧ t { nx := fun _ H' => Q .non H', rt := Q } (L2.start N vs) H) : Cal P w K mg base (k + 1) x sp dv := by
  obtain ⟨f, fd, F, hm⟩ := h.ex
  obtain ⟨ds, d, bd⟩ := b F
  refine ⟨f, fd, ps, ds, F.ok S len fun cdv A outer s H vs Q E hr hsp => ?_, hm, F.kp, bd, d⟩
  obtain ⟨t, h1, h2⟩ := hb f cdv A outer s H vs Q E hr hsp
  exact ⟨t, h1.nox, h2⟩
end
/-- a method of a class, by its name -/
structure HasM (K : PySem.W.Frag) (C : Addr) (m qual : Str) (st : Stmt) (dvs : List V) : Prop where
  ex : ∃ f fd, Cls K C ∧ Meth K C m f ∧ FunD K m qual (fnArgs st) (fnBody st) (fnScope st) dvs [] f fd
/-- what makes an instance -/
structure HasI (K : PySem.W.Frag) (mg : Str → Option Value) (x : Str) (C : Addr) (qual : Str) (st : Stmt) (dvs : List V) : Prop where
  ex : ∃ f fd, Mk K C f ∧ FunD K "__init__" qual (fnArgs st) (fnBody st) (fnScope st) dvs [] f fd ∧ mg x = some (.ref C)
section
variable {P : Program} {w : World} {K : PySem.W.Frag} {mg : Str → Option Value} {base : Heap} {x m qual : Str} {C : Addr} {st : Stmt} {dvs dv : List V} {N ps : List Str} {k : Nat} {sp : Sp}
theorem HasM.met (h : HasM K C m qual st dvs) (S : FnScope N ps (fnScope st))
    (b : ∀ {f fd}, FunD K m qual (fnArgs st) (fnBody st) (fnScope st) dvs [] f fd → ∃ ds, Vals dv ds ∧ Binds K fd ps ds)
    (len : ∀ vs H Q E, sp vs H Q E → vs.length = ps.length)
    (hb : ∀ (f : Addr) (cdv : Value) (A : Around) (outer : List Env) (s : Shared) (H : Hp) (vs : List V) (Q : VK) (E : XK), Room k (A.deeper (envOfC qual (fnScope st) s.heap.objs.size f cdv)) → sp vs H Q E →
      ∃ t, PSs (cxOf C8.CX0 P w K mg base N qual (fnScope st) f cdv A outer s H E).nox (fnBody st) t ∧ t { nx := fun _ H' => Q .non H', rt := Q } (L2.start N vs) H) : Met P w K mg base (k + 1) C m sp dv := by
  obtain ⟨f, fd, c, me, F⟩ := h.ex
  obtain ⟨ds, d, bd⟩ := b F
  refine ⟨f, fd, ps, ds, c, me, F.ok S len fun cdv A outer s H vs Q E hr hsp => ?_, bd, d⟩
  obtain ⟨t, h1, h2⟩ := hb f cdv A outer s H vs Q E hr hsp
  exact ⟨t, h1.nox, h2⟩
theorem HasI.mak (h : HasI K mg x C qual st dvs) (S : FnScope N ps (fnScope st))
    (b : ∀ {f fd}, FunD K "__init__" qual (fnArgs st) (fnBody st) (fnScope st) dvs [] f fd → ∃ ds, Vals dv ds ∧ Binds K fd ps ds)
    (len : ∀ vs H Q E, sp vs H Q E → vs.length = ps.length)
    (hb : ∀ (f : Addr) (cdv : Value) (A : Around) (outer : List Env) (s : Shared) (H : Hp) (vs : List V) (Q : VK) (E : XK), Room k (A.deeper (envOfC qual (fnScope st) s.heap.objs.size f cdv)) → sp vs H Q E →
      ∃ t, PSs (cxOf C8.CX0 P w K mg base N qual (fnScope st) f cdv A outer s H E).nox (fnBody st) t ∧ t { nx := fun _ H' => Q .non H', rt := Q } (L2.start N vs) H) : Mak P w K mg base (k + 1) x C sp dv := by
  obtain ⟨f, fd, M, F, hm⟩ := h.ex
  obtain ⟨ds, d, bd⟩ := b F
  refine ⟨f, fd, ps, ds, M, F.ok S len fun cdv A outer s H vs Q E hr hsp => ?_, hm, bd, d⟩
  obtain ⟨t, h1, h2⟩ := hb f cdv A outer s H vs Q E hr hsp
  exact ⟨t, h1.nox, h2⟩
end
/-- more room, a stronger demand -/
theorem cal_mono {P : Program} {w : World} {K : PySem.W.Frag} {mg : Str → Option Value} {base : Heap} {x : Str} {dv : List V} {j k : Nat} {sp sp' : Sp} (c : Cal P w K mg base j x sp dv) (h : j ≤ k) (hs : ∀ vs H Q E, sp' vs H Q E → sp vs H Q E) : Cal P w K mg base k x sp' dv := by
  obtain ⟨f, fd, ps, ds, F, a, b, c, d⟩ := c.ex
  exact ⟨f, fd, ps, ds, (F.mono h).imp hs, a, b, c, d⟩
/-! ### heaps: all but one object as it was -/
def SB (p : Addr) (H H' : Hp) : Prop := ∀ b o, H b = some o → b ≠ p → H' b = some o
theorem SB.refl (p : Addr) (H : Hp) : SB p H H := fun _ _ h _ => h
theorem SB.trans {p : Addr} {H H1 H2 : Hp} (a : SB p H H1) (b : SB p H1 H2) : SB p H H2 := fun c o h n => b c o (a c o h n) n
theorem SB.of {p : Addr} {H H' : Hp} (a : Same H H') : SB p H H' := fun b o h _ => a b o h
theorem SB.upd {p : Addr} {H : Hp} {o : HO} : SB p H (L2.upd H p o) := fun b u h n => by rw [upd_ne n]; exact h
theorem same_new {H : Hp} {p : Addr} {o : HO} (h : H p = none) : Same H (upd H p o) := fun b u e => by rw [upd_ne (ne_of_none e h)]; exact e
/-- a new object, changed later, is outside of what stood -/
theorem Same.late {H H' : Hp} {p : Addr} {o : HO} (e : Same H H') (h : H p = none) : Same H (upd H' p o) := fun b u g => by rw [upd_ne (ne_of_none g h)]; exact e b u g
theorem SB.same {p : Addr} {H H1 H2 : Hp} (e : Same H H1) (h : H p = none) (s : SB p H1 H2) : Same H H2 := fun b o g => s b o (e b o g) (ne_of_none g h)
/-! ### tuples that stay -/
def TL (H H' : Hp) : Prop := ∀ a xs, Rd H a (.tup xs) → Rd H' a (.tup xs)
theorem TL.refl (H : Hp) : TL H H := fun _ _ h => h
theorem TL.trans {H H1 H2 : Hp} (a : TL H H1) (b : TL H1 H2) : TL H H2 := fun c xs h => b c xs (a c xs h)
theorem Same.rd {H H' : Hp} (e : Same H H') {a : Addr} {u : HO} (h : Rd H a u) : Rd H' a u := h.elim (fun h => .inl (e _ _ h)) fun ⟨o, h⟩ => .inr ⟨o, e _ _ h⟩
theorem Same.tl {H H' : Hp} (e : Same H H') : TL H H' := fun _ _ h => Same.rd e h
theorem sqt_tl {K : PySem.W.Frag} {H H' : Hp} {a : Addr} {xs : List V} (e : TL H H') (h : SqT K H a xs) : SqT K H' a xs := h.elim (fun h => .inl (e _ _ h)) .inr
theorem Same.sqt {K : PySem.W.Frag} {H H' : Hp} {a : Addr} {xs : List V} (e : Same H H') (h : SqT K H a xs) : SqT K H' a xs := sqt_tl (Same.tl e) h
/-- what is no tuple -/
def NoTup (o : Option HO) : Prop := ∀ xs, o ≠ some (.tup xs) ∧ ∀ ob, o ≠ some (.frz ob (.tup xs))
theorem notup_lst {xs : List V} : NoTup (some (.lst xs)) := fun _ => ⟨(fun z => by cases z), fun _ z => by cases z⟩
theorem tl_sb {p : Addr} {H H' : Hp} (h : SB p H H') (n : NoTup (H p)) : TL H H' := fun a xs r => by
  have na : a ≠ p := by
    rintro rfl
    rcases r with r | ⟨o, r⟩
    · exact (n xs).1 r
    · exact (n xs).2 o r
  rcases r with r | ⟨o, r⟩
  · exact .inl (h _ _ r na)
  · exact .inr ⟨o, h _ _ r na⟩
/-! ### data: None, flags, ints, texts, tuples of data -/
mutual
inductive Td (K : PySem.W.Frag) (H : Hp) : V → PyData → Prop
  | non : Td K H .non .none
  | bl (b : Bool) : Td K H (.bl b) (.bool b)
  | int (i : Int) : Td K H (.int i) (.int i)
  | str (x : Str) : Td K H (.str x) (.str x)
  | tup {a : Addr} {xs : List V} {ds : List PyData} : SqT K H a xs → TdA K H xs ds → Td K H (.ref a) (.tuple ds)
inductive TdA (K : PySem.W.Frag) (H : Hp) : List V → List PyData → Prop
  | nil : TdA K H [] []
  | cons {v : V} {vs : List V} {d : PyData} {ds : List PyData} : Td K H v d → TdA K H vs ds → TdA K H (v :: vs) (d :: ds)
end
section
variable {K : PySem.W.Frag} {H H' : Hp}
mutual
theorem Td.tl (e : TL H H') : ∀ {d : PyData} {v : V}, Td K H v d → Td K H' v d
  | _, _, .non => .non
  | _, _, .bl b => .bl b
  | _, _, .int i => .int i
  | _, _, .str x => .str x
  | _, _, .tup h a => .tup (sqt_tl e h) (TdA.tl e a)
theorem TdA.tl (e : TL H H') : ∀ {ds : List PyData} {vs : List V}, TdA K H vs ds → TdA K H' vs ds
  | _, _, .nil => .nil
  | _, _, .cons h t => .cons (h.tl e) (TdA.tl e t)
end
mutual
theorem Td.dp : ∀ {d : PyData} {v : V}, Td K H v d → Dp K H v d
  | _, _, .non => .non
  | _, _, .bl b => .bl b
  | _, _, .int i => .int i
  | _, _, .str x => .str x
  | _, _, .tup h a => .tup h a.dp
theorem TdA.dp : ∀ {ds : List PyData} {vs : List V}, TdA K H vs ds → DpAll K H vs ds
  | _, _, .nil => .nil
  | _, _, .cons h t => .cons h.dp t.dp
end
theorem Td.same (e : Same H H') {d : PyData} {v : V} (h : Td K H v d) : Td K H' v d := h.tl (Same.tl e)
theorem TdA.same (e : Same H H') {ds : List PyData} {vs : List V} (h : TdA K H vs ds) : TdA K H' vs ds := h.tl (Same.tl e)
theorem TdA.len {ds : List PyData} {vs : List V} (h : TdA K H vs ds) : vs.length = ds.length := by
  induction ds generalizing vs with
  | nil => cases h; rfl
  | cons d ds ih => cases h with | cons a b => simp [ih b]
theorem TdA.get : ∀ {ds : List PyData} {vs : List V} {i : Nat} {d : PyData}, TdA K H vs ds → ds[i]? = some d → ∃ v, vs[i]? = some v ∧ Td K H v d
  | [], _, _, _, .nil, e => by simp at e
  | _ :: _, _ :: _, 0, d, .cons a b, e => by simp at e; subst e; exact ⟨_, rfl, a⟩
  | _ :: ds, _ :: vs, i + 1, d, .cons a b, e => by
    obtain ⟨v, h1, h2⟩ := TdA.get (i := i) (d := d) b (by simpa using e)
    exact ⟨v, by simpa using h1, h2⟩
theorem TdA.getV : ∀ {ds : List PyData} {vs : List V} {i : Nat} {v : V}, TdA K H vs ds → vs[i]? = some v → ∃ d, ds[i]? = some d ∧ Td K H v d
  | [], _, _, _, .nil, e => by simp at e
  | _ :: _, _ :: _, 0, v, .cons a b, e => by simp at e; subst e; exact ⟨_, rfl, a⟩
  | _ :: ds, _ :: vs, i + 1, v, .cons a b, e => by
    obtain ⟨d, h1, h2⟩ := TdA.getV (i := i) (v := v) b (by simpa using e)
    exact ⟨d, by simpa using h1, h2⟩
theorem TdA.append : ∀ {ds es : List PyData} {vs us : List V}, TdA K H vs ds → TdA K H us es → TdA K H (vs ++ us) (ds ++ es)
  | _, _, _, _, .nil, h => h
  | _, _, _, _, .cons a b, h => .cons a (TdA.append b h)
theorem Td.tupE {v : V} {ds : List PyData} (h : Td K H v (.tuple ds)) : ∃ a xs, v = .ref a ∧ SqT K H a xs ∧ TdA K H xs ds := by
  cases h with
  | tup a b => exact ⟨_, _, rfl, a, b⟩
theorem Td.intE {v : V} {i : Int} (h : Td K H v (.int i)) : v = .int i := by cases h; rfl
theorem Td.strE {v : V} {x : Str} (h : Td K H v (.str x)) : v = .str x := by cases h; rfl
theorem SqT.tyx {a : Addr} {xs : List V} (h : SqT K H a xs) : TyX K H (.ref a) (.type "tuple") := by
  rcases h with (h | ⟨o, h⟩) | ⟨o, its, n, h, c, d, _⟩
  · exact .base (.tup h)
  · exact .fTuple h
  · exact .kTuple h c
end
end Oh
set_option maxHeartbeats 4000000
namespace Oh
open PySem PySem.Spec PyProof.Rows L2
open C8 (Cal Met Mak pe_c pe_mk pe_mt pe_mt0 pe_gc InsC call_isC tCut pss_cut fnBody fnArgs fnScope)
/-! ### frames: what may change, what holds of it -/
def PlainO (o : HO) : Prop := (∃ xs, o = .lst xs) ∨ (∃ k, o = .dK k) ∨ (∃ k, o = .dT k) ∨ (∃ C dx fs, o = .ins C dx fs) ∨ ∃ x, o = .own x
structure Fm where
  sp : Addr → Prop
  G : Hp → Prop
  alloc : ∀ H a, G H → sp a → H a ≠ none
  ext : ∀ H H', G H → Same H H' → G H'
  notup : ∀ H a, G H → sp a → NoTup (H a)
  chg : ∀ H l o o', G H → ¬ sp l → H l = some o → PlainO o → G (upd H l o')
def Fm.L (F : Fm) (H H' : Hp) : Prop := (∀ a o, H a = some o → ¬ F.sp a → H' a = some o) ∧ F.G H'
/-- nothing changes -/
def F0 : Fm := ⟨fun _ => False, fun _ => True, fun _ _ _ h => h.elim, fun _ _ _ _ => trivial, fun _ _ _ h => h.elim, fun _ _ _ _ _ _ _ _ => trivial⟩
namespace Fm
variable {F : Fm} {H H1 H2 H' : Hp} {p l a : Addr} {o o' : HO}
theorem L.good (e : F.L H H') : F.G H' := e.2
theorem L.refl (g : F.G H) : F.L H H := ⟨fun _ _ h _ => h, g⟩
theorem L.trans (e : F.L H H1) (e' : F.L H1 H2) : F.L H H2 := ⟨fun a o h n => e'.1 a o (e.1 a o h n) n, e'.2⟩
theorem L.of (g : F.G H) (e : Same H H') : F.L H H' := ⟨fun a o h _ => e a o h, F.ext _ _ g e⟩
theorem L.new (g : F.G H) (h : H p = none) : F.L H (upd H p o) := L.of g (same_new h)
theorem nosp (g : F.G H) (h : H p = none) : ¬ F.sp p := fun z => F.alloc _ _ g z h
theorem L.late (g : F.G H) (e : F.L H H') (h : H l = none) (h' : H' l = some o) (po : PlainO o) : F.L H (upd H' l o') :=
  ⟨fun b u hb n => by rw [upd_ne (ne_of_none hb h)]; exact e.1 b u hb n, F.chg _ _ _ _ e.2 (nosp g h) h' po⟩
theorem L.tl (g : F.G H) (e : F.L H H') : TL H H' := fun a xs r => by
  have na : ¬ F.sp a := fun z => by
    rcases r with r | ⟨o, r⟩
    · exact (F.notup _ _ g z xs).1 r
    · exact (F.notup _ _ g z xs).2 o r
  rcases r with r | ⟨o, r⟩
  · exact .inl (e.1 _ _ r na)
  · exact .inr ⟨o, e.1 _ _ r na⟩
theorem L.same (e : F0.L H H') : Same H H' := fun a o h => e.1 a o h fun z => z
theorem L.of0 (e : Same H H') : F0.L H H' := ⟨fun a o h _ => e a o h, trivial⟩
end Fm
theorem fresh_back {H H' : Hp} {p : Addr} (e : Same H H') (h : H' p = none) : H p = none := by
  cases q : H p with
  | none => rfl
  | some o => rw [e _ _ q] at h; cases h
/-! ### types of values -/
structure VP (F : Fm) where
  p : V → Hp → Prop
  st : ∀ v H H', F.G H → F.L H H' → p v H → p v H'
section
variable {F : Fm} {K : PySem.W.Frag}
def VP.eq (x : V) : VP F := ⟨fun v _ => v = x, fun _ _ _ _ _ h => h⟩
def VP.int (φ : Int → Prop) : VP F := ⟨fun v _ => ∃ i, v = .int i ∧ φ i, fun _ _ _ _ _ h => h⟩
def VP.bl (φ : Bool → Prop) : VP F := ⟨fun v _ => ∃ i, v = .bl i ∧ φ i, fun _ _ _ _ _ h => h⟩
def VP.str (φ : Str → Prop) : VP F := ⟨fun v _ => ∃ i, v = .str i ∧ φ i, fun _ _ _ _ _ h => h⟩
def VP.any : VP F := ⟨fun _ _ => True, fun _ _ _ _ _ h => h⟩
abbrev DT := PyData → Prop
def VP.dt (K : PySem.W.Frag) (τ : DT) : VP F := ⟨fun v H => ∃ d, τ d ∧ Td K H v d, fun _ _ _ g e ⟨d, a, b⟩ => ⟨d, a, b.tl (e.tl g)⟩⟩
/-- a list of data, unchanged -/
def VP.ls (K : PySem.W.Frag) (τ : List PyData → Prop) : VP F := ⟨fun v H => ∃ a xs ds, v = .ref a ∧ ¬ F.sp a ∧ H a = some (.lst xs) ∧ TdA K H xs ds ∧ τ ds,
  fun _ _ _ g e ⟨a, xs, ds, h1, h2, h3, h4, h5⟩ => ⟨a, xs, ds, h1, h2, e.1 _ _ h3 h2, h4.tl (e.tl g), h5⟩⟩
def All2 : List (VP F) → List V → Hp → Prop
  | [], [], _ => True
  | p :: ps, v :: vs, H => p.p v H ∧ All2 ps vs H
  | _, _, _ => False
theorem All2.st {H H' : Hp} (g : F.G H) (e : F.L H H') : ∀ {ps : List (VP F)} {vs : List V}, All2 ps vs H → All2 ps vs H'
  | [], [], _ => trivial
  | p :: _, _ :: _, h => ⟨p.st _ _ _ g e h.1, All2.st g e h.2⟩
  | [], _ :: _, h => h.elim
  | _ :: _, [], h => h.elim
/-- data types, one behind the other -/
def AllD : List DT → List PyData → Prop
  | [], [] => True
  | p :: ps, v :: vs => p v ∧ AllD ps vs
  | _, _ => False
def tupT (τs : List DT) : DT := fun d => ∃ ds, d = .tuple ds ∧ AllD τs ds
theorem all2_dt {H : Hp} : ∀ {τs : List DT} {vs : List V}, All2 (F := F) (τs.map (VP.dt K)) vs H → ∃ ds, AllD τs ds ∧ TdA K H vs ds
  | [], [], _ => ⟨[], trivial, .nil⟩
  | _ :: _, _ :: _, ⟨⟨d, a, b⟩, t⟩ => by
    obtain ⟨ds, c, e⟩ := all2_dt t
    exact ⟨d :: ds, ⟨a, c⟩, .cons b e⟩
  | [], _ :: _, h => h.elim
  | _ :: _, [], h => h.elim
end
/-! ### what a reading gives -/
section
variable (F : Fm)
def Ev (te : TE) (σ : L2.St) (H : Hp) (T : VP F) : Prop := ∀ H1, F.L H H1 → ∀ Q : VK, (∀ v H2, F.L H1 H2 → T.p v H2 → Q v H2) → te σ H1 Q
def EvT (tt : TT) (σ : L2.St) (H : Hp) (φ : Bool → Prop) : Prop := ∀ H1, F.L H H1 → ∀ Q : Bool → Hp → Prop, (∀ b H2, F.L H1 H2 → φ b → Q b H2) → tt σ H1 Q
def EvA (ta : TA) (σ : L2.St) (H : Hp) (Ts : List (VP F)) : Prop := ∀ H1, F.L H H1 → ∀ Q : List V → Hp → Prop, (∀ vs H2, F.L H1 H2 → All2 Ts vs H2 → Q vs H2) → ta σ H1 Q
def EvO (to : TO) (σ : L2.St) (H : Hp) (φ : Option Int → Prop) : Prop := ∀ H1, F.L H H1 → ∀ Q : Option Int → Hp → Prop, (∀ o H2, F.L H1 H2 → φ o → Q o H2) → to σ H1 Q
end
section
variable {F : Fm} {K : PySem.W.Frag} {σ : L2.St} {H H' : Hp} {ta tb te : TE} {t u : TT} {T T1 T2 : VP F} {v : V}
theorem Ev.mono (e : F.L H H') (h : Ev F te σ H T) : Ev F te σ H' T := fun H1 a Q q => h H1 (e.trans a) Q q
theorem EvA.mono {t : TA} {Ts : List (VP F)} (e : F.L H H') (h : EvA F t σ H Ts) : EvA F t σ H' Ts := fun H1 a Q q => h H1 (e.trans a) Q q
theorem EvT.mono {φ : Bool → Prop} (e : F.L H H') (h : EvT F t σ H φ) : EvT F t σ H' φ := fun H1 a Q q => h H1 (e.trans a) Q q
theorem Ev.sub (h : Ev F te σ H T) (w : ∀ v H', F.L H H' → T.p v H' → T1.p v H') : Ev F te σ H T1 := fun H1 a Q q => h H1 a Q fun v H2 e p => q v H2 e (w v H2 (a.trans e) p)
theorem EvT.sub {φ ψ : Bool → Prop} (h : EvT F t σ H φ) (w : ∀ b, φ b → ψ b) : EvT F t σ H ψ := fun H1 a Q q => h H1 a Q fun v H2 e p => q v H2 e (w v p)
theorem ev_var {i : Nat} (g : F.G H) (h : σ[i]? = some (some v)) (p : T.p v H) : Ev F (tVar i) σ H T := fun H1 e Q q => ⟨v, h, q v H1 (.refl e.good) (T.st _ _ _ g e p)⟩
theorem ev_c (g : F.G H) (p : T.p v H) : Ev F (tC v) σ H T := fun H1 e Q q => q v H1 (.refl e.good) (T.st _ _ _ g e p)
theorem ev_op {r : R2} (ha : Ev F ta σ H T1) (hb : Ev F tb σ H T2) (hr : ∀ x y H1, F.L H H1 → T1.p x H1 → T2.p y H1 → ∀ Q : VK, (∀ v H2, F.L H1 H2 → T.p v H2 → Q v H2) → r x y H1 Q) : Ev F (tOp r ta tb) σ H T := fun H1 e Q q =>
  ha H1 e _ fun x H2 e2 p => hb H2 (e.trans e2) _ fun y H3 e3 p3 => hr x y H3 ((e.trans e2).trans e3) (T1.st _ _ _ e2.good e3 p) p3 Q fun v H4 e4 p4 => q v H4 ((e2.trans e3).trans e4) p4
theorem ea_nil : EvA F tNil σ H [] := fun H1 e Q q => q [] H1 (.refl e.good) trivial
theorem ea_cons {tr : TA} {Ts : List (VP F)} (h : Ev F te σ H T) (hr : EvA F tr σ H Ts) : EvA F (tCons te tr) σ H (T :: Ts) := fun H1 e Q q =>
  h H1 e _ fun v H2 e2 p => hr H2 (e.trans e2) _ fun vs H3 e3 p3 => q (v :: vs) H3 (e2.trans e3) ⟨T.st _ _ _ e2.good e3 p, p3⟩
theorem ev_cb {r : List V → Hp → VK → Prop} {t : TA} {Ts : List (VP F)} (h : EvA F t σ H Ts) (hr : ∀ vs H1, F.L H H1 → All2 Ts vs H1 → ∀ Q : VK, (∀ v H2, F.L H1 H2 → T.p v H2 → Q v H2) → r vs H1 Q) : Ev F (tCB r t) σ H T := fun H1 e Q q =>
  h H1 e _ fun vs H2 e2 p => hr vs H2 (e.trans e2) p Q fun v H3 e3 p3 => q v H3 (e2.trans e3) p3
theorem ev_call {sp : Sp} {dvs : List V} {E : XK} {t : TA} {Ts : List (VP F)} (h : EvA F t σ H Ts) (hr : ∀ vs H1, F.L H H1 → All2 Ts vs H1 → ∀ Q : VK, (∀ v H2, F.L H1 H2 → T.p v H2 → Q v H2) → sp (vs ++ dvs) H1 Q E) : Ev F (tCall sp dvs E t) σ H T := fun H1 e Q q =>
  h H1 e _ fun vs H2 e2 p => hr vs H2 (e.trans e2) p Q fun v H3 e3 p3 => q v H3 (e2.trans e3) p3
/-- a tuple of data -/
theorem ev_tup {t : TA} {τs : List DT} (h : EvA F t σ H (τs.map (VP.dt K))) (hl : τs.length ≤ sizeLine) : Ev F (tTup t) σ H (.dt K (tupT τs)) := fun H1 e Q q =>
  h H1 e _ fun vs H2 e2 p => by
    obtain ⟨ds, a, b⟩ := all2_dt p
    have hlen : ∀ {τs : List DT} {ds : List PyData}, AllD τs ds → ds.length = τs.length := by
      intro τs
      induction τs with
      | nil => intro ds h; cases ds with
        | nil => rfl
        | cons _ _ => exact h.elim
      | cons _ _ ih => intro ds h; cases ds with
        | nil => exact h.elim
        | cons _ _ => simp [ih h.2]
    refine ⟨by rw [b.len, hlen a]; exact hl, fun p hp => ?_⟩
    have en : F.L H2 (upd H2 p (.tup vs)) := .new e2.good hp
    exact q _ _ (e2.trans en) ⟨.tuple ds, ⟨ds, rfl, a⟩, .tup (.of upd_same) (b.tl (en.tl e2.good))⟩
/-- statements -/
theorem s_asg {D : Ends} {i : Nat} (g : F.G H) (h : Ev F te σ H T) (k : ∀ v H1, F.L H H1 → T.p v H1 → D.nx (σ.set i (some v)) H1) : tAsg te (gName i) D σ H := h H (.refl g) _ fun v H1 e p => k v H1 e p
theorem s_ret {D : Ends} (g : F.G H) (h : Ev F te σ H T) (k : ∀ v H1, F.L H H1 → T.p v H1 → D.rt v H1) : tRet te D σ H := h H (.refl g) _ fun v H1 e p => k v H1 e p
theorem s_if {D : Ends} {tu tw : TS} {φ : Bool → Prop} (g : F.G H) (h : EvT F t σ H φ) (h1 : φ true → ∀ H1, F.L H H1 → tu D σ H1) (h2 : φ false → ∀ H1, F.L H H1 → tw D σ H1) : tIfS t tu tw D σ H := h H (.refl g) _ fun b H1 e p => by
  cases b with
  | true => exact h1 p H1 e
  | false => exact h2 p H1 e
end
/-! ### a promise: what is asked, what is given; all that stands stays -/
def spS {α : Type} (pre : α → List V → Hp → Prop) (post : α → V → Hp → Prop) : Sp := fun vs H Q _ => ∃ x : α, pre x vs H ∧ ∀ v H', Same H H' → post x v H' → Q v H'
end Oh
set_option maxHeartbeats 4000000
namespace Oh
open PySem PySem.Spec PyProof.Rows L2
open C8 (Cal Met Mak pe_c pe_mk pe_mt pe_mt0 pe_gc InsC call_isC tCut pss_cut fnBody fnArgs fnScope)
/-! ### readings with one answer; bodies that return -/
section
variable (F : Fm) (K : PySem.W.Frag)
def EvV (te : TE) (σ : L2.St) (H : Hp) (v : V) : Prop := Ev F te σ H (.eq v)
def EvB (t : TT) (σ : L2.St) (H : Hp) (b : Bool) : Prop := EvT F t σ H (· = b)
def EvD (te : TE) (σ : L2.St) (H : Hp) (d : PyData) : Prop := Ev F te σ H (.dt K (· = d))
/-- a body that returns -/
def RunS (t : TS) (σ : L2.St) (H : Hp) (R : VP F) : Prop := ∀ H1, F.L H H1 → ∀ D : Ends, (∀ v H2, F.L H1 H2 → R.p v H2 → D.rt v H2) → t D σ H1
end
section
variable {F : Fm} {K : PySem.W.Frag} {σ : L2.St} {H H' : Hp} {ta tb tc te : TE} {t u : TT} {T T1 R : VP F} {v x y : V} {b c : Bool} {d : PyData} {ds : List PyData} {tu tw rest : TS} {i : Nat}
theorem evv_var (g : F.G H) (h : σ[i]? = some (some v)) : EvV F (tVar i) σ H v := ev_var g h rfl
theorem evv_c (g : F.G H) : EvV F (tC v) σ H v := ev_c g rfl
theorem evd_var (g : F.G H) (h : σ[i]? = some (some v)) (p : Td K H v d) : EvD F K (tVar i) σ H d := ev_var g h ⟨d, rfl, p⟩
theorem evd_str {z : Str} (g : F.G H) : EvD F K (tC (.str z)) σ H (.str z) := ev_c g ⟨_, rfl, .str z⟩
theorem evd_int {z : Int} (g : F.G H) : EvD F K (tC (.int z)) σ H (.int z) := ev_c g ⟨_, rfl, .int z⟩
theorem evd_s {z : Str} (h : EvD F K te σ H (.str z)) : EvV F te σ H (.str z) := h.sub fun v H1 _ ⟨d, e, p⟩ => by subst e; exact p.strE
theorem evd_i {z : Int} (h : EvD F K te σ H (.int z)) : EvV F te σ H (.int z) := h.sub fun v H1 _ ⟨d, e, p⟩ => by subst e; exact p.intE
theorem evv_ds {z : Str} (h : EvV F te σ H (.str z)) : EvD F K te σ H (.str z) := h.sub fun v H1 _ e => ⟨_, rfl, by rw [show v = V.str z from e]; exact .str z⟩
theorem evv_di {z : Int} (h : EvV F te σ H (.int z)) : EvD F K te σ H (.int z) := h.sub fun v H1 _ e => ⟨_, rfl, by rw [show v = V.int z from e]; exact .int z⟩
theorem evv_is (h : EvV F te σ H x) (e : x = y) : EvV F te σ H y := e ▸ h
theorem evb_is (h : EvB F t σ H b) (e : b = c) : EvB F t σ H c := e ▸ h
theorem tda_atI {vs : List V} {z : Int} (h : TdA K H vs ds) (e : atI ds z = some d) : ∃ v, atI vs z = some v ∧ Td K H v d := by
  unfold atI at e ⊢
  rw [h.len]
  cases q : ixN ds.length z with
  | none => rw [q] at e; cases e
  | some j =>
    rw [q] at e
    exact h.get (show ds[j]? = some d from e)
theorem evd_ix {z : Int} (g : F.G H) (h : EvD F K ta σ H (.tuple ds)) (hb : EvV F tb σ H (.int z)) (e : atI ds z = some d) : EvD F K (tOp (rIxT K) ta tb) σ H d :=
  ev_op h hb fun x y H1 e1 ⟨d0, e0, p⟩ py Q q => by
    subst e0
    subst py
    obtain ⟨a, xs, rfl, hs, hd⟩ := p.tupE
    obtain ⟨v, e2, p2⟩ := tda_atI hd e
    exact ⟨a, xs, z, v, rfl, rfl, hs, e2, q _ _ (.refl e1.good) ⟨_, rfl, p2⟩⟩
theorem evv_I0 {f : Int → Int → V} {m n : Int} (ha : EvV F ta σ H (.int m)) (hb : EvV F tb σ H (.int n)) : EvV F (tOp (rI0 f) ta tb) σ H (f m n) :=
  ev_op ha hb fun x y H1 e1 px py Q q => by
    subst px
    subst py
    exact ⟨m, n, rfl, rfl, q _ _ (.refl e1.good) rfl⟩
theorem evv_eq (ha : EvV F ta σ H x) (hb : EvV F tb σ H y) (hs : scal x y = true) : EvV F (tOp rEq ta tb) σ H (.bl (decide (x = y))) :=
  ev_op ha hb fun x y H1 e1 px py Q q => by
    subst px
    subst py
    exact ⟨hs, q _ _ (.refl e1.good) rfl⟩
theorem evv_ne (ha : EvV F ta σ H x) (hb : EvV F tb σ H y) (hs : scal x y = true) : EvV F (tOp rNe ta tb) σ H (.bl (!decide (x = y))) :=
  ev_op ha hb fun x y H1 e1 px py Q q => by
    subst px
    subst py
    exact ⟨hs, q _ _ (.refl e1.good) rfl⟩
theorem evv_chain {p p' : Int → Int → Bool} {m n k : Int} (ha : EvV F ta σ H (.int m)) (hb : EvV F tb σ H (.int n)) (hc : EvV F tc σ H (.int k)) : EvV F (tChain (rI0 fun i j => .bl (p i j)) (rI0 fun i j => .bl (p' i j)) ta tb tc) σ H (.bl (p m n && p' n k)) := by
  intro H1 e Q q
  refine ha H1 e _ fun x H2 e2 px => ?_
  refine hb H2 (e.trans e2) _ fun y H3 e3 py => ?_
  have px : x = V.int m := px
  have py : y = V.int n := py
  rw [px, py]
  refine ⟨m, n, rfl, rfl, p m n, rfl, ?_⟩
  cases hp : p m n with
  | true =>
    refine hc H3 ((e.trans e2).trans e3) _ fun z H4 e4 pz => ?_
    have pz : z = V.int k := pz
    rw [pz]
    refine ⟨n, k, rfl, rfl, q _ _ ((e2.trans e3).trans e4) ?_⟩
    show _ = _
    rw [hp] <;> rfl
  | false =>
    refine q _ _ (e2.trans e3) ?_
    show _ = _
    rw [hp] <;> rfl
/-- the name of a type -/
def tyN : PyData → String
  | .none => "NoneType"
  | .bool _ => "bool"
  | .int _ => "int"
  | .str _ => "str"
  | .tuple _ => "tuple"
  | _ => ""
theorem Td.ty {d : PyData} (h : Td K H v d) : TyX K H v (.type (tyN d)) := by
  cases h with
  | non => exact .base .non
  | bl b => exact .base (.bl b)
  | int i => exact .base (.int i)
  | str i => exact .base (.str i)
  | tup a b => exact SqT.tyx a
theorem evv_isi {n : String} (h : EvD F K ta σ H d) (e : kitB (tyN d) n = some b) (g : F.G H) : EvV F (tCB (rIsi K) (tCons ta (tCons (tC (.ty n)) tNil))) σ H (.bl b) :=
  ev_cb (ea_cons h (ea_cons (ev_c (v := .ty n) (T := .eq (.ty n)) g rfl) ea_nil)) fun vs H1 e1 p Q q => by
    match vs, p with
    | [x, y], ⟨⟨d0, e0, p0⟩, p1, _⟩ =>
      subst e0
      obtain rfl : y = V.ty n := p1
      exact ⟨x, .ty n, _, _, b, rfl, .ty n, p0.ty, kit_ty e, q _ _ (.refl e1.good) rfl⟩
abbrev rLenQ (K : PySem.W.Frag) : List V → Hp → VK → Prop := fun xs H Q => ∃ p ys, xs = [.ref p] ∧ (SqL K H p ys ∨ SqT K H p ys) ∧ Q (.int ys.length) H
theorem evv_len (h : EvD F K ta σ H (.tuple ds)) : EvV F (tCB (rLenQ K) (tCons ta tNil)) σ H (.int ds.length) :=
  ev_cb (ea_cons h ea_nil) fun vs H1 e1 p Q q => by
    match vs, p with
    | [x], ⟨⟨d0, e0, p0⟩, _⟩ =>
      subst e0
      obtain ⟨a, xs, rfl, hs, hd⟩ := p0.tupE
      refine ⟨a, xs, rfl, .inr hs, q _ _ (.refl e1.good) ?_⟩
      rw [hd.len] <;> rfl
theorem tda_strs {ss : List Str} {vs : List V} (h : TdA K H vs (ss.map .str)) : vs = ss.map .str := by
  induction ss generalizing vs with
  | nil => cases h; rfl
  | cons s ss ih =>
    cases h with
    | cons a b => rw [a.strE, ih b] <;> rfl
theorem tda_ints {ss : List Int} {vs : List V} (h : TdA K H vs (ss.map .int)) : vs = ss.map .int := by
  induction ss generalizing vs with
  | nil => cases h; rfl
  | cons s ss ih =>
    cases h with
    | cons a b => rw [a.intE, ih b] <;> rfl
theorem inV_strs {z : Str} {ss : List Str} : inV (.str z) (ss.map .str) = ss.contains z := by
  unfold inV
  induction ss with
  | nil => rfl
  | cons s ss ih =>
    rw [List.map_cons, List.any_cons, ih, List.contains_cons]
    have e : eqV (V.str s) (V.str z) = (z == s) := by
      unfold eqV
      first | rfl | (rw [Bool.beq_comm]) | simp [eq_comm]
    rw [e]
theorem evv_in {z : Str} {ss : List Str} {neg : Bool} (h : EvV F ta σ H (.str z)) (hb : EvD F K tb σ H (.tuple (ss.map .str))) : EvV F (tOp (rIn K neg) ta tb) σ H (.bl (if neg then !ss.contains z else ss.contains z)) :=
  ev_op h hb fun x y H1 e1 px ⟨d0, e0, p0⟩ Q q => by
    subst px
    subst e0
    obtain ⟨a, xs, rfl, hs, hd⟩ := p0.tupE
    have e := tda_strs hd
    subst e
    refine ⟨a, _, rfl, .inr hs, rfl, by simp [flatV], ?_⟩
    rw [inV_strs]
    exact q _ _ (.refl e1.good) rfl
def AllDs : List PyData → List DT := List.map fun d => (· = d)
theorem allD_eq : ∀ {ds es : List PyData}, AllD (AllDs ds) es → es = ds
  | [], [], _ => rfl
  | d :: ds, e :: es, h => by rw [show e = d from h.1, allD_eq h.2]
  | [], _ :: _, h => h.elim
  | _ :: _, [], h => h.elim
def EvDA (F : Fm) (K : PySem.W.Frag) (ta : TA) (σ : L2.St) (H : Hp) (ds : List PyData) : Prop := EvA F ta σ H ((AllDs ds).map (VP.dt K))
theorem eda_nil : EvDA F K tNil σ H [] := ea_nil
theorem eda_cons {tr : TA} (h : EvD F K te σ H d) (hr : EvDA F K tr σ H ds) : EvDA F K (tCons te tr) σ H (d :: ds) := ea_cons h hr
theorem evd_tup {t : TA} (h : EvDA F K t σ H ds) (hl : ds.length ≤ 100000) : EvD F K (tTup t) σ H (.tuple ds) := (ev_tup (τs := AllDs ds) h (by unfold AllDs; rw [List.length_map]; exact Nat.le_trans hl (by decide))).sub fun v H1 _ ⟨d, ⟨es, e1, e2⟩, p⟩ => ⟨d, by rw [e1, allD_eq e2], p⟩
/-! tests -/
theorem et_test (h : EvV F te σ H (.bl b)) : EvB F (tTest te) σ H b := fun H1 e Q q => h H1 e _ fun v H2 e2 p => ⟨b, p, q b H2 e2 rfl⟩
theorem et_B (h : EvV F te σ H (.bl b)) : EvB F (tB te) σ H b := fun H1 e Q q => h H1 e _ fun v H2 e2 p => ⟨b, p, q b H2 e2 rfl⟩
theorem et_not (h : EvB F t σ H b) : EvB F (tNot t) σ H (!b) := fun H1 e Q q => h H1 e _ fun v H2 e2 p => q _ H2 e2 (by rw [show v = b from p])
theorem et_or (h : EvB F t σ H b) (h2 : b = false → EvB F u σ H c) : EvB F (tOr t u) σ H (b || c) := fun H1 e Q q => h H1 e _ fun v H2 e2 p => by
  obtain rfl : v = b := p
  cases v with
  | true => exact q _ _ e2 rfl
  | false => exact h2 rfl H2 (e.trans e2) _ fun w H3 e3 p3 => q w H3 (e2.trans e3) (by rw [show w = c from p3]; rfl)
theorem et_and (h : EvB F t σ H b) (h2 : b = true → EvB F u σ H c) : EvB F (tAnd t u) σ H (b && c) := fun H1 e Q q => h H1 e _ fun v H2 e2 p => by
  obtain rfl : v = b := p
  cases v with
  | false => exact q _ _ e2 rfl
  | true => exact h2 rfl H2 (e.trans e2) _ fun w H3 e3 p3 => q w H3 (e2.trans e3) (by rw [show w = c from p3]; rfl)
theorem evv_and (h : EvV F ta σ H (.bl b)) (h2 : b = true → EvV F tb σ H (.bl c)) : EvV F (tAndV ta tb) σ H (.bl (b && c)) := fun H1 e Q q => h H1 e _ fun v H2 e2 p => by
  obtain rfl : v = V.bl b := p
  refine ⟨b, rfl, ?_⟩
  cases b with
  | false => exact q _ _ e2 rfl
  | true => exact h2 rfl H2 (e.trans e2) _ fun w H3 e3 p3 => q w H3 (e2.trans e3) (by rw [show w = V.bl c from p3]; rfl)
theorem evv_or (h : EvV F ta σ H (.bl b)) (h2 : b = false → EvV F tb σ H (.bl c)) : EvV F (tOrV ta tb) σ H (.bl (b || c)) := fun H1 e Q q => h H1 e _ fun v H2 e2 p => by
  obtain rfl : v = V.bl b := p
  refine ⟨b, rfl, ?_⟩
  cases b with
  | true => exact q _ _ e2 rfl
  | false => exact h2 rfl H2 (e.trans e2) _ fun w H3 e3 p3 => q w H3 (e2.trans e3) (by rw [show w = V.bl c from p3]; rfl)
theorem evv_not (h : EvV F ta σ H (.bl b)) : EvV F (tNotV ta) σ H (.bl (!b)) := fun H1 e Q q => h H1 e _ fun v H2 e2 p => ⟨b, p, q _ H2 e2 rfl⟩
theorem et_truth (h : EvD F K ta σ H (.tuple ds)) : EvB F (fun σ H Q => ta σ H fun x H' => ∃ k, TruV K x H' k ∧ Q k H') σ H (!ds.isEmpty) := fun H1 e Q q => h H1 e _ fun v H2 e2 ⟨d0, e0, p0⟩ => by
  subst e0
  obtain ⟨a, xs, rfl, hs, hd⟩ := p0.tupE
  refine ⟨!ds.isEmpty, .inr (.inl ⟨xs, hs, ?_⟩), q _ _ e2 rfl⟩
  cases hd <;> rfl
/-! bodies -/
theorem run_go {nx : L2.St → Hp → Prop} {Q : VK} {ts : TS} {R : VP F0} (h : RunS F0 ts σ H R) (q : ∀ v H2, Same H H2 → R.p v H2 → Q v H2) : ts { nx := nx, rt := Q } σ H := h H (.refl trivial) _ fun v H2 e p => q v H2 e.same p
theorem run_ret (h : Ev F te σ H R) : RunS F (tRet te) σ H R := fun H1 e D q => h H1 e _ fun v H2 e2 p => q v H2 e2 p
theorem run_retV (h : EvV F te σ H v) (p : ∀ H1, F.L H H1 → R.p v H1) : RunS F (tRet te) σ H R := run_ret (h.sub fun w H1 e q => by rw [show w = v from q]; exact p H1 e)
theorem run_ifT (h : EvB F t σ H b) (e : b = true) (k : RunS F tu σ H R) : RunS F (tIfS t tu tw) σ H R := fun H1 e1 D q => h H1 e1 _ fun v H2 e2 p => by
  rw [show v = true from p.trans e]
  exact k H2 (e1.trans e2) D fun w H3 e3 => q w H3 (e2.trans e3)
theorem run_ifF (h : EvB F t σ H b) (e : b = false) (k : RunS F tw σ H R) : RunS F (tIfS t tu tw) σ H R := fun H1 e1 D q => h H1 e1 _ fun v H2 e2 p => by
  rw [show v = false from p.trans e]
  exact k H2 (e1.trans e2) D fun w H3 e3 => q w H3 (e2.trans e3)
theorem run_whenT (h : EvB F t σ H b) (e : b = true) (k : RunS F tu σ H R) : RunS F (tSeq (tIfS t tu tw) rest) σ H R := fun H1 e1 D q => run_ifT h e k H1 e1 { D with nx := rest D } q
theorem run_whenF (h : EvB F t σ H b) (e : b = false) (k : RunS F rest σ H R) : RunS F (tSeq (tIfS t tu tNext) rest) σ H R := fun H1 e1 D q => h H1 e1 _ fun v H2 e2 p => by
  rw [show v = false from p.trans e]
  exact k H2 (e1.trans e2) D fun w H3 e3 => q w H3 (e2.trans e3)
theorem run_asgV (h : EvV F te σ H v) (k : RunS F rest (σ.set i (some v)) H R) : RunS F (tSeq (tAsg te (gName i)) rest) σ H R := fun H1 e1 D q => h H1 e1 _ fun w H2 e2 p => by
  rw [show w = v from p]
  exact k H2 (e1.trans e2) D fun w H3 e3 => q w H3 (e2.trans e3)
theorem run_asg (h : Ev F te σ H T) (k : ∀ v H1, F.L H H1 → T.p v H1 → RunS F rest (σ.set i (some v)) H1 R) : RunS F (tSeq (tAsg te (gName i)) rest) σ H R := fun H1 e1 D q => h H1 e1 _ fun w H2 e2 p =>
  k w H2 (e1.trans e2) p H2 (.refl e2.good) D fun w H3 e3 => q w H3 (e2.trans e3)
theorem RunS.sub {ts : TS} (h : RunS F ts σ H R) (w : ∀ v H1, F.L H H1 → R.p v H1 → T.p v H1) : RunS F ts σ H T := fun H1 e D q => h H1 e D fun v H2 e2 p => q v H2 e2 (w v H2 (e.trans e2) p)
/-! lists that are made here and grow -/
/-- a list of texts, new since H -/
def VP.nstr (H0 : Hp) (φ : List Str → Prop) : VP F := ⟨fun v H' => ∃ p ss, v = .ref p ∧ H0 p = none ∧ ¬ F.sp p ∧ H' p = some (.lst (ss.map V.str)) ∧ φ ss, by
  rintro v H H' g e ⟨p, ss, h1, h2, h3, h4, h5⟩
  exact ⟨p, ss, h1, h2, h3, e.1 _ _ h4 h3, h5⟩⟩
/-- a list of data, new since H -/
def VP.nls (K : PySem.W.Frag) (H0 : Hp) (τ : List PyData → Prop) : VP F := ⟨fun v H' => ∃ p xs ds, v = .ref p ∧ H0 p = none ∧ ¬ F.sp p ∧ H' p = some (.lst xs) ∧ TdA K H' xs ds ∧ τ ds,
  fun _ _ _ g e ⟨p, xs, ds, h1, h2, h3, h4, h5, h6⟩ => ⟨p, xs, ds, h1, h2, h3, e.1 _ _ h4 h3, h5.tl (e.tl g), h6⟩⟩
theorem L_back {p : Addr} (e : F.L H H') (h : H' p = none) : H p = none := by
  by_cases hs : F.sp p
  · exact (F.alloc _ _ e.good hs h).elim
  · cases q : H p with
    | none => rfl
    | some o => rw [e.1 _ _ q hs] at h; cases h
theorem sqt_upd {a l : Addr} {xs ys zs : List V} (h : SqT K H a xs) (hl : H l = some (.lst ys)) : SqT K (upd H l (.lst zs)) a xs := by
  refine sqt_tl (fun b us r => ?_) h
  have nb : b ≠ l := by
    rintro rfl
    rcases r with r | ⟨o, r⟩ <;> rw [hl] at r <;> cases r
  rcases r with r | ⟨o, r⟩
  · exact .inl (by rw [upd_ne nb]; exact r)
  · exact .inr ⟨o, by rw [upd_ne nb]; exact r⟩
theorem tl_upd {l : Addr} {ys : List V} {o : HO} (hl : H l = some (.lst ys)) : TL H (upd H l o) := fun b us r => by
  have nb : b ≠ l := by
    rintro rfl
    rcases r with r | ⟨o, r⟩ <;> rw [hl] at r <;> cases r
  rcases r with r | ⟨o, r⟩
  · exact .inl (by rw [upd_ne nb]; exact r)
  · exact .inr ⟨o, by rw [upd_ne nb]; exact r⟩
theorem L_upd {l : Addr} {xs ys : List V} (g : F.G H) (e : F.L H H') (h : H l = none) (hl : H' l = some (.lst xs)) : F.L H (upd H' l (.lst ys)) := .late g e h hl (.inl ⟨_, rfl⟩)
theorem tda_drop {vs : List V} (h : TdA K H vs ds) : ∀ n : Nat, TdA K H (vs.drop n) (ds.drop n) := by
  intro n
  induction n generalizing vs ds with
  | zero => simpa using h
  | succ n ih =>
    cases h with
    | nil => simpa using TdA.nil
    | cons a b => simpa using ih b
theorem tda_take {vs : List V} (h : TdA K H vs ds) : ∀ n : Nat, TdA K H (vs.take n) (ds.take n) := by
  intro n
  induction n generalizing vs ds with
  | zero => simpa using TdA.nil
  | succ n ih =>
    cases h with
    | nil => simpa using TdA.nil
    | cons a b => simpa using TdA.cons a (ih b)
/-! a body's turn; loops over tuples of data that change slots alone -/
def RunN (F : Fm) (ts : TS) (σ : L2.St) (H : Hp) (σ' : L2.St) : Prop := ∀ H1, F.L H H1 → ∀ D : Ends, (∀ H2, F.L H1 H2 → D.nx σ' H2) → ts D σ H1
theorem runN_skip (h : EvB F t σ H b) (e : b = false) : RunN F (tIfS t tu tNext) σ H σ := fun H1 e1 D q => h H1 e1 _ fun v H2 e2 p => by
  rw [show v = false from p.trans e]
  exact q _ e2
theorem runN_ifT {σ' : L2.St} (h : EvB F t σ H b) (e : b = true) (k : RunN F tu σ H σ') : RunN F (tIfS t tu tw) σ H σ' := fun H1 e1 D q => h H1 e1 _ fun v H2 e2 p => by
  rw [show v = true from p.trans e]
  exact k H2 (e1.trans e2) D fun H3 e3 => q H3 (e2.trans e3)
theorem runN_ifF {σ' : L2.St} (h : EvB F t σ H b) (e : b = false) (k : RunN F tw σ H σ') : RunN F (tIfS t tu tw) σ H σ' := fun H1 e1 D q => h H1 e1 _ fun v H2 e2 p => by
  rw [show v = false from p.trans e]
  exact k H2 (e1.trans e2) D fun H3 e3 => q H3 (e2.trans e3)
theorem runN_asgV (h : EvV F te σ H v) : RunN F (tAsg te (gName i)) σ H (σ.set i (some v)) := fun H1 e1 D q => h H1 e1 _ fun w H2 e2 p => by
  rw [show w = v from p]
  exact q _ e2
theorem runN_seq {σ' σ'' : L2.St} (h : RunN F tu σ H σ') (k : RunN F tw σ' H σ'') : RunN F (tSeq tu tw) σ H σ'' := fun H1 e1 D q => h H1 e1 { D with nx := tw D } fun H2 e2 => k H2 (e1.trans e2) D fun H3 e3 => q H3 (e2.trans e3)
theorem runN_seqS {σ' : L2.St} (h : RunN F tu σ H σ') (k : RunS F tw σ' H R) : RunS F (tSeq tu tw) σ H R := fun H1 e1 D q => h H1 e1 { D with nx := tw D } fun H2 e2 => k H2 (e1.trans e2) D fun v H3 e3 => q v H3 (e2.trans e3)
theorem runN_for {tb : TS} {j : Nat} (g : F.G H) (h : EvD F K te σ H (.tuple ds)) (Pv : Nat → L2.St → Prop) (h0 : Pv 0 σ)
    (hs : ∀ i d σ' x H1, ds[i]? = some d → Pv i σ' → F.L H H1 → Td K H1 x d → ∃ σ'', Pv (i + 1) σ'' ∧ RunN F tb (σ'.set j (some x)) H1 σ'') (k : ∀ σ', Pv ds.length σ' → RunS F rest σ' H R) : RunS F (tSeq (tFor (iTup K te) (gName j) tb) rest) σ H R := fun H1 e1 D q =>
  h H1 e1 _ fun v H2 e2 ⟨d0, e0, p⟩ => by
    subst e0
    obtain ⟨a, xs, rfl, hsq, hx⟩ := p.tupE
    refine ⟨a, rfl, ⟨xs, hsq⟩, for_tup (xs := xs) (fun i σ' H3 => F.L H2 H3 ∧ Pv i σ') ⟨.refl e2.good, h0⟩ (fun i σ' H3 _ z => sqt_tl (z.1.tl e2.good) hsq) ?_ ?_⟩
    · rintro i x σ' H3 hi ⟨e3, hp⟩
      obtain ⟨d, hd, hxd⟩ := hx.getV hi
      obtain ⟨σ'', hp2, hr⟩ := hs i d σ' x H3 hd hp ((e1.trans e2).trans e3) (hxd.tl (e3.tl e2.good))
      exact hr H3 (.refl e3.good) _ fun H4 e4 => ⟨e3.trans e4, hp2⟩
    · rintro σ' H3 ⟨e3, hp⟩
      rw [hx.len] at hp
      exact k σ' hp H3 ((e1.trans e2).trans e3) D fun v H4 e4 => q v H4 ((e2.trans e3).trans e4)
end
end Oh
set_option maxHeartbeats 4000000
namespace Oh
open PySem PySem.Spec PyProof.Rows L2
open C8 (Cal Met Mak pe_c pe_mk pe_mt pe_mt0 pe_gc InsC call_isC tCut pss_cut fnBody fnArgs fnScope)
/-! ### for i, x in enumerate(t), t a tuple -/
theorem meetsEnum1 {v : Value} {o : Obj} {HH : Heap → Prop} (B : Begins v o HH) :
    Meets (Builtin.«enumerate.__new__» ⟨[.type "enumerate", v], []⟩) (fun _ R s => HH s.heap ∧
      R (.ok (.ret (.ref (s.heap.push o).objs.size))) { s with heap := (s.heap.push o).push { cls := .type "enumerate", data := .fields #[.none, .bool false, .ref s.heap.objs.size, rawInt 0, .none, .none] } }) :=
  .of_wp fun prog w A R s h => by
    obtain ⟨hp, g, d, tk, os⟩ := s
    obtain ⟨h1, h⟩ := h
    have hsub := sub_enumerate
    have q1 : ∀ {A1 : Around} {E1 : Value → Shared → Prop} {Q1 : Value → Shared → Prop}, Q1 (.ref hp.objs.size) ⟨hp.push o, g, d, tk, os⟩ → wpAny (model prog w) A1 (pyIter v) Q1 E1 ⟨hp, g, d, tk, os⟩ :=
      fun q => B.iter prog w _ _ ⟨hp, g, d, tk, os⟩ _ h1 q
    wp_walk using q1
    refine wpAny_stack_any fun st => wpAny_pure ?_
    split
    · rename_i c _ _ _ _ _
      cases (c == Value.type "enumerate") <;> (wp_walk using q1; exact ⟨_, rfl, h⟩)
    · wp_walk using q1
      exact ⟨_, rfl, h⟩
theorem callEnum1 {prog : Program} {w : World} {A : Around} {E : Value → Shared → Prop} {s : Shared} {v : Value} {o : Obj} {HH : Heap → Prop} {Q : Value → Shared → Prop} (B : Begins v o HH) (h1 : HH s.heap)
    (h : ∀ h', IsEnum h' (s.heap.objs.size + 1) s.heap.objs.size 0 .none → h'.get? s.heap.objs.size = some o → h'.objs.size = s.heap.objs.size + 2 →
      (∀ b o, s.heap.get? b = some o → h'.get? b = some o) → Q (.ref (s.heap.objs.size + 1)) { s with heap := h' }) :
    wpAny (model prog w) A (call (.type "enumerate") [v]) Q E s := by
  refine callType_new F.called_enumerate (by decide) (F.typeCall_enumerate_1 _) (F.newCall_enumerate_1 _) (fun obj => F.args_object_init_2 obj _) F.entry_enumerate_new (meetsEnum1 B) ⟨h1, ?_⟩
  have hz : (s.heap.push o).objs.size = s.heap.objs.size + 1 := Heap.size_push ..
  show _ ∧ _
  rw [hz]
  have he : IsEnum ((s.heap.push o).push { cls := .type "enumerate", data := .fields #[.none, .bool false, .ref s.heap.objs.size, rawInt 0, .none, .none] }) (s.heap.objs.size + 1) s.heap.objs.size 0 .none := by
    have q := Heap.get?_push_size (s.heap.push o) (o := { cls := .type "enumerate", data := .fields #[.none, .bool false, .ref s.heap.objs.size, rawInt 0, .none, .none] }) rfl
    rw [hz] at q
    exact q
  exact ⟨⟨_, he, rfl⟩, h _ he (Heap.get?_push_of_some _ (Heap.get?_push_size _ B.free)) (by rw [Heap.size_push, hz]) fun b u x => Heap.get?_push_of_some _ (Heap.get?_push_of_some _ x)⟩
theorem enumEndT {prog : Program} {w : World} {A : Around} {E : Value → Shared → Prop} {s : Shared} {e it l : Addr} {i : Nat} {items : Array Value} {old : Value} {Q : Option Value → Shared → Prop} (hh : A.handled = none)
    (he : IsEnum s.heap e it i old) (hit : s.heap.IsTupleIter it l i) (hl : s.heap.IsTuple l items) (hx : items[i]? = none) (hQ : ∀ h', Heap.ExtBut it s.heap h' → Q none { s with heap := h' }) : wpAny (model prog w) A (pyNext (.ref e)) Q E s := by
  have hT : s.TypeIs (.ref e) "enumerate" := ⟨_, he, rfl⟩
  unfold pyNext
  refine wpAny_bind (wpAny_attempt (wpAny_callSpecial?_slot (name := Str.ofString "__next__") hT F.slot_enumerate_next (wpAny_call_entry F.slot_enumerate_next hT F.entry_enumerate_next ?_ (F.args_enumerate_next_1 _))))
  show wpAny _ _ (field (.ref e) 2 >>= _) _ _ _
  refine wpAny_bind (wpAny_field he rfl (x := .ref it) rfl ?_)
  refine wpAny_bind (wpAny_nextOf_tuple_end hh hit hl hx fun h' x he' hx' => ?_)
  obtain ⟨o, ho, hc⟩ := hx'
  exact wpAny_bind (wpAny_isInstance (T := "StopIteration") (b := true) ⟨o, ho, hc⟩ isSubtype_stop (wpAny_pure (hQ _ he')))
/-- the tuple at a, each item in a new pair -/
def IteT (K : PySem.W.Frag) (a : Addr) : It :=
  ⟨fun i H => ∃ (xs : List V) (x : V), SqT K H a xs ∧ xs[i]? = some x, fun i H v H' => ∃ T x, v = .ref T ∧ H T = none ∧ H' = upd H T (.tup [.int (i : Nat), x]) ∧ ∀ xs, SqT K H a xs → xs[i]? = some x, fun i H => ∃ xs : List V, SqT K H a xs ∧ xs.length ≤ i⟩
theorem turn_enumT {P : Program} {w : World} {K : PySem.W.Frag} {elts : List Expr} {kk : Nat} {tpos : Pos} (a e it : Addr) :
    Turn P w K (.Tuple elts kk tpos) (IteT K a) [e, it] e (fun i h => (∃ old, IsEnum h e it ((i : Nat) : Int) old) ∧ h.IsTupleIter it a i ∧ e ≠ it) where
  mem := by simp
  obj := fun i h st b hb => by
    obtain ⟨⟨old, he⟩, ⟨o, ho, hc, hd⟩, _⟩ := st
    rcases (show b = e ∨ b = it by simpa using hb) with z | z
    · rw [z]; exact ⟨_, he, fun v q => nomatch q⟩
    · rw [z]; exact ⟨o, ho, fun v q => by rw [hd] at q; cases q⟩
  keep := fun i h h' st k => let ⟨⟨old, he⟩, hi, hne⟩ := st; ⟨⟨old, k e (by simp) _ he⟩, hi.at fun o q => k it (by simp) o q, hne⟩
  item := by
    intro X hP hw hK hc i pins s σ H E I hf st hg
    subst hP hw hK
    obtain ⟨⟨old, he⟩, hit, hne⟩ := st
    obtain ⟨xs, x, hq, hx⟩ := hg
    obtain ⟨its, rv, p, hz⟩ := I.tuple hq
    obtain ⟨u, hu, ru⟩ := rv.get hx
    have hel : e < s.heap.objs.size := Heap.lt_size he
    have pT : s.heap.IsTuple a its.toArray := p
    have hae : a ≠ it := by
      intro z
      obtain ⟨o1, e1, c1, _⟩ := pT
      obtain ⟨o2, e2, c2, _⟩ := hit
      rw [z, e2] at e1
      cases e1
      rw [c1] at c2
      exact absurd (Value.type.inj c2) (by decide)
    have hae2 : e ≠ a := by
      intro z
      obtain ⟨o1, e1, c1, _⟩ := pT
      rw [← z, he] at e1
      cases e1
      exact absurd (Value.type.inj c1) (by decide)
    have hlt : i < its.toArray.size := by
      rcases Nat.lt_or_ge i its.length with q | q
      · simpa using q
      · rw [List.getElem?_eq_none q] at hu; cases hu
    refine wpAny_pyNext_enum_itemD (Draws.tuple (A := X.A.in1) (show X.A.in1.handled = none from I.ok.hd hc) it a hae its.toArray) he ⟨hit, pT⟩ hlt hne (by simp [hne, hae2]) fun y h' tk hy ho hst' hT hsz hk => ?_
    have ey : y = u := by
      rw [List.getElem?_toArray, hu] at hy
      exact (Option.some.inj hy).symm
    subst ey
    refine ⟨_, rfl, wpAny_letOwnedTupleGo_enum (s := { s with heap := h', toks := tk + 1 }) ho fun h'' he' sb => ?_⟩
    have hT2 : h''.get? s.heap.objs.size = some { cls := .type "tuple", data := .seq #[.int i tk, y] } := (sb.2 _ (Nat.ne_of_gt hel)).trans hT
    have new : ObjOk X.prog X.w (upd H s.heap.objs.size (.tup [.int (i : Nat), x])) h'' s.heap.objs.size (.tup [.int (i : Nat), x]) :=
      ⟨by show 2 ≤ sizeLine; decide, [.int i tk, y], .cons ⟨_, rfl⟩ (.cons ru .nil), ⟨_, hT2, rfl, _, rfl⟩⟩
    have I1 : Inv X pins σ (upd H s.heap.objs.size (.tup [.int (i : Nat), x])) { s with heap := h'', toks := tk + 1 } :=
      I.turnedNew (ch := [e, it]) (fun b ob hb q => (sb.2 b (fun z => hb (by simp [z]))).trans (hk b ob (fun z => hb (by simp [z])) (fun z => hb (by simp [z])) q)) hf (Nat.le_refl _) new
    refine ⟨.ref s.heap.objs.size, _, I1, rfl, ⟨_, x, rfl, I.hok.fresh (Nat.le_refl _), rfl, fun ys hy => by rw [I.tuple_inj hy hq]; exact hx⟩, ⟨⟨y, ?_⟩, hst'.1.at fun o q => (sb.2 it (Ne.symm hne)).trans q, hne⟩, fun b hb => ?_⟩
    · have e1 : ((i + 1 : Nat) : Int) = (i : Int) + 1 := by omega
      rw [e1]; exact he'
    · have hb' : b < s.heap.objs.size := by
        rcases (show b = e ∨ b = it by simpa using hb) with z | z
        · rw [z]; exact hel
        · rw [z]
          obtain ⟨_, q, _⟩ := hit
          exact Heap.lt_size q
      rw [upd_ne (Nat.ne_of_lt hb')]
      exact (hf b hb).1
  done := by
    intro X hP hw hK hc i pins s σ H E I hf st hg
    subst hP hw hK
    obtain ⟨⟨old, he⟩, hit, hne⟩ := st
    obtain ⟨xs, hq, hx⟩ := hg
    obtain ⟨its, rv, p, hz⟩ := I.tuple hq
    obtain ⟨f0, f1, f2, f3, f4, f5⟩ := hf it (by simp)
    have pT : s.heap.IsTuple a its.toArray := p
    have hl := rv.length
    exact enumEndT (I.ok.hd hc) he hit pT (by simp; omega) fun h' eb => ⟨rfl, I.turned (t' := s.toks) (fun b o hb q => eb b o hb q) f0 f1 f3 f4 f5⟩
  self := fun A i s Q E st h => let ⟨⟨_, he⟩, _⟩ := st; wpAny_pyIter_enum he h
def iEnumT (K : PySem.W.Frag) (ta : TA) : TI := fun σ H R => ta σ H fun vs H1 => ∃ a xs, vs = [.ref a] ∧ SqT K H1 a xs ∧ R (IteT K a) H1
theorem pi_enumT {X : Cx} {e : Expr} {ta : TA} {p pos tpos : Pos} {elts : List Expr} {kk : Nat} (hg : Gl X "enumerate") (hm : X.mg "enumerate" = none) (ha : PA X [e] ta) (hs : starEach [e] X.env = [(false, eval e X.env)] := by rfl) :
    PI X (.Tuple elts kk tpos) (.Call (.Name "enumerate" p) [e] [] pos) (iEnumT X.K ta) := by
  refine ⟨fun pins s σ H R I h => ?_⟩
  refine Call_ (ld_blt I hg hm boot_enumerate (PyProof.Rows.callWith_type1 (thn (ha.run pos pins s σ H _ I h) fun us s1 ⟨vs, H1, I1, r1, q1⟩ => ?_) hs rfl))
  obtain ⟨a, xs, ex, hq, q⟩ := q1
  subst ex
  cases r1 with
  | cons r rr =>
    cases rr
    cases r
    obtain ⟨its, rv, p', hz⟩ := I1.tuple hq
    refine callEnum1 (begins_tuple a its.toArray) (show s1.heap.IsTuple a its.toArray from p') fun h' he hit hsz hk => wpAny_pyIter_enum he ?_
    have I2 : Inv X pins σ H1 { s1 with heap := h' } := I1.kept (t' := s1.toks) hk
    refine ⟨s1.heap.objs.size + 1, [s1.heap.objs.size + 1, s1.heap.objs.size], _, _, H1, rfl, I2, turn_enumT a (s1.heap.objs.size + 1) s1.heap.objs.size, ⟨⟨.none, he⟩, ⟨_, hit, rfl, rfl⟩, Nat.succ_ne_self _⟩, fun b hb => ?_, q⟩
    have hle : s1.heap.objs.size ≤ b := by
      rcases (show b = s1.heap.objs.size + 1 ∨ b = s1.heap.objs.size by simpa using hb) with z | z
      · rw [z]; exact Nat.le_add_right _ _
      · rw [z]; exact Nat.le_refl _
    exact I1.fpOk hle (I1.hok.fresh hle)
theorem walk_enumT {K : PySem.W.Frag} {a : Addr} {xs : List V} : Walk (IteT K a) xs.length (fun H => SqT K H a xs) (YPair (fun i => some (.int (i : Nat))) (fun i => xs[i]?)) := by
  refine ⟨fun i _ hi q => ⟨xs, xs[i], q, by simp [hi]⟩, fun _ q => ⟨xs, q, Nat.le_refl _⟩, fun i H v H' _ q y => ?_⟩
  obtain ⟨T, x, h1, h2, h3, h4⟩ := y
  exact ⟨T, .int (i : Nat), x, h1, h2, h3, rfl, h4 xs q⟩
end Oh
set_option maxHeartbeats 4000000
namespace Oh
open PySem PySem.Spec PyProof.Rows L2
open C8 (Cal Met Mak pe_c pe_mk pe_mt pe_mt0 pe_gc InsC call_isC tCut pss_cut fnBody fnArgs fnScope)
open SrtO
/-! ### sorted of tuples of ints, of any lengths -/
theorem lexLt_asym : ∀ x y : List Int, HT.lexLt x y = true → HT.lexLt y x = false
  | [], [], h => by cases h
  | [], _ :: _, _ => rfl
  | _ :: _, [], h => by cases h
  | a :: x, b :: y, h => by
    rw [HT.lexLt_cons] at h ⊢
    by_cases e : a = b
    · rw [if_pos e] at h
      rw [if_pos e.symm]
      exact lexLt_asym x y h
    · rw [if_neg e] at h
      rw [if_neg fun z => e z.symm]
      have := of_decide_eq_true h
      exact decide_eq_false (by omega)
theorem lexLt_tr : ∀ x y z : List Int, HT.lexLt y x = false → HT.lexLt z y = false → HT.lexLt z x = false
  | [], _, [], _, _ => rfl
  | [], _, _ :: _, _, _ => rfl
  | _ :: _, [], [], h, _ => by cases h
  | _ :: _, _ :: _, [], _, h => by cases h
  | _ :: _, [], _ :: _, h, _ => by cases h
  | a :: x, b :: y, c :: z, h1, h2 => by
    rw [HT.lexLt_cons] at h1 h2 ⊢
    by_cases e1 : b = a
    · rw [if_pos e1] at h1
      by_cases e2 : c = b
      · rw [if_pos e2] at h2
        rw [if_pos (e2.trans e1)]
        exact lexLt_tr x y z h1 h2
      · rw [if_neg e2] at h2
        have := of_decide_eq_false h2
        rw [if_neg (by omega)]
        exact decide_eq_false (by omega)
    · rw [if_neg e1] at h1
      have q1 := of_decide_eq_false h1
      by_cases e2 : c = b
      · rw [if_pos e2] at h2
        rw [if_neg (by omega)]
        exact decide_eq_false (by omega)
      · rw [if_neg e2] at h2
        have := of_decide_eq_false h2
        rw [if_neg (by omega)]
        exact decide_eq_false (by omega)
theorem swo_lexL {α : Type} (k : α → List Int) : Swo fun v u => HT.lexLt (k v) (k u) := ⟨fun x y h => lexLt_asym _ _ h, fun x y z h1 h2 => lexLt_tr _ _ _ h1 h2⟩
def ITup (h : Heap) (v : Value) (ns : List Int) : Prop := ∃ a o its n, v = .ref a ∧ h.get? a = some o ∧ o.cls = .type "tuple" ∧ o.data = .seq its n ∧ IntsAre its.toList ns
theorem ITup.keeps {h h' : Heap} {v : Value} {ns : List Int} (p : ITup h v ns) (k : ∀ b o, h.get? b = some o → o.cls = .type "tuple" → h'.get? b = some o) : ITup h' v ns := by
  obtain ⟨a, o, its, n, e, ho, hc, hd, hi⟩ := p
  exact ⟨a, o, its, n, e, k _ _ ho hc, hc, hd, hi⟩
theorem ints_cons {v : Value} {xs : List Value} {ns : List Int} (h : IntsAre (v :: xs) ns) : ∃ n t ns', v = .int n t ∧ ns = n :: ns' ∧ IntsAre xs ns' := by
  cases h
  exact ⟨_, _, _, rfl, rfl, by assumption⟩
section
variable {prog : Program} {w : World} {A : Around} {E : Value → Shared → Prop} {s : Shared}
theorem kat_ints {Q : Bool → Shared → Prop} {b : Bool} : ∀ (xs ys : List Value) (ns ms : List Int) (i : Nat) (fin : Bool), fin = decide (xs.length < ys.length) → IntsAre xs ns → IntsAre ys ms → Q (HT.lexLt ns ms) s → PySem.W.KatLex prog w A b fin Q (xs.zip ys) i s
  | [], [], ns, ms, i, fin, hf, hx, hy, q => by
    cases hx
    cases hy
    subst hf
    exact PySem.W.kat_nil q
  | [], v :: ys, ns, ms, i, fin, hf, hx, hy, q => by
    cases hx
    have q2 : HT.lexLt [] ms = true := by cases hy; rfl
    subst hf
    rw [q2] at q
    refine PySem.W.kat_nil ?_
    rw [show decide (([] : List Value).length < (v :: ys).length) = true from decide_eq_true (by simp)]
    exact q
  | v :: xs, [], ns, ms, i, fin, hf, hx, hy, q => by
    cases hy
    have q2 : HT.lexLt ns [] = false := by cases hx; rfl
    subst hf
    rw [q2] at q
    refine PySem.W.kat_nil ?_
    rw [show decide ((v :: xs).length < ([] : List Value).length) = false from decide_eq_false (by simp)]
    exact q
  | v :: xs, u :: ys, ns0, ms0, i, fin, hf, hx0, hy0, q => by
    obtain ⟨n, t1, ns, rfl, rfl, hx⟩ := ints_cons hx0
    obtain ⟨m, t2, ms, rfl, rfl, hy⟩ := ints_cons hy0
    rw [List.zip_cons_cons]
    rw [HT.lexLt_cons] at q
    refine PySem.W.kat_cons (SeqAt.EqAt.int_int n _ m _ prog w _ _ ?_)
    refine PySem.W.kat_go (fun e1 => ?_) (fun e1 => ?_)
    · have ex : n = m := by simpa using e1
      rw [if_pos ex] at q
      exact PySem.W.kat_yes (kat_ints xs ys ns ms (i + 1) fin (by rw [hf]; simp) hx hy q)
    · have ex : ¬ n = m := by simpa using e1
      rw [if_neg ex] at q
      exact PySem.W.kat_no (TS.oneLt_ints _ q)
theorem ituple_firsts {h : Heap} : ∀ {vs : List Value}, (∀ v ∈ vs, ∃ ns, ns ≠ [] ∧ ITup h v ns) → ∃ fs : List Value, PySem.W.KatTups h vs fs ∧ fs.length = vs.length ∧ ∀ f ∈ fs, ∃ x t, f = Value.int x t
  | [], _ => ⟨[], PySem.W.KatTups.nil, rfl, fun _ hm => by simp at hm⟩
  | v :: vs, hp => by
    obtain ⟨fs, h1, h2, h3⟩ := ituple_firsts (vs := vs) fun v' hm => hp v' (List.mem_cons_of_mem _ hm)
    obtain ⟨ns, hne, a, o, its, n, e, ho, hc, hd, hi⟩ := hp v (List.mem_cons_self ..)
    subst e
    cases q : its.toList with
    | nil =>
      rw [q] at hi
      cases hi
      exact absurd rfl hne
    | cons f r =>
      obtain ⟨m, t, hy⟩ := hi.all f (by rw [q]; exact List.mem_cons_self ..)
      refine ⟨f :: fs, PySem.W.KatTups.cons ho hc hd ?_ h1, by rw [List.length_cons, List.length_cons, h2], fun g hm => ?_⟩
      · have z := congrArg (fun l : List Value => l[0]?) q
        simpa using z
      · rcases List.mem_cons.mp hm with rfl | hm
        · exact ⟨m, t, hy⟩
        · exact h3 g hm
theorem itup_cmp {vs : List Value} {k : Value → List Int} (hp : ∀ v ∈ vs, ITup s.heap v (k v)) : Cmp prog w A s (tuples' true) (fun p => p.1 ∈ vs) (lt2 fun v u => HT.lexLt (k v) (k u)) := by
  intro p q hm hm'
  have h1 := hp _ hm
  have h2 := hp _ hm'
  show wpAny (model prog w) A (keyLt' (tuples' true) p.1 q.1) (fun r s' => s' = s ∧ r = HT.lexLt (k p.1) (k q.1)) (fun _ _ => False) s
  obtain ⟨a, o, its, n, e, ho, hc, hd, hi⟩ := h1
  obtain ⟨a', o', its', n', e', ho', hc', hd', hi'⟩ := h2
  generalize k p.1 = x at hi ⊢
  generalize k q.1 = y at hi' ⊢
  rw [e, e']
  exact PySem.W.kat_lt ho hd ho' hd' (kat_ints _ _ _ _ 0 _ (by simp) hi hi' ⟨rfl, rfl⟩)
theorem itups_sortable {a : Addr} {vs : List Value} {k : Value → List Int} (h0 : 0 < vs.length) (hp : ∀ v ∈ vs, k v ≠ [] ∧ ITup s.heap v (k v)) (ha : ∀ o, s.heap.get? a = some o → o.cls ≠ .type "tuple") : SortableO prog w A s a vs fun v u => HT.lexLt (k v) (k u) := by
  intro h' keep
  have hp' : ∀ v ∈ vs, ITup h' v (k v) := fun v hm => (hp v hm).2.keeps fun b o e c => keep b o (fun z => by subst z; exact ha o e c) e
  obtain ⟨fs, h1, h2, h3⟩ := ituple_firsts fun v hm => ⟨_, (hp v hm).1, hp' v hm⟩
  refine ⟨tuples' true, fun Q E hq => ?_, itup_cmp hp'⟩
  refine PySem.W.kat_kind (T := .type "int") h1 (by omega) (fun f hm => ?_) (by rfl) ?_
  · obtain ⟨x, t, rfl⟩ := h3 f hm
    exact PySem.W.Looks.now
  · have e : (Value.type "int" != Value.type "tuple") = true := by first | decide +kernel | rfl | decide
    rw [e]
    exact hq
theorem sorted_itups {l : Addr} {vs : List Value} {k : Value → List Int} {Q : Value → Shared → Prop} (hl : s.heap.IsList l vs.toArray) (hz : vs.length ≤ sizeLine) (hp : ∀ v ∈ vs, k v ≠ [] ∧ ITup s.heap v (k v))
    (h : ∀ (h' : Heap) (d : Addr) (out : List Value), Srtd (fun v u => HT.lexLt (k v) (k u)) out → Stb (fun v u => HT.lexLt (k v) (k u)) out vs → (∀ b o, s.heap.get? b = some o → h'.get? b = some o) → s.heap.objs.size ≤ d → (∃ n, h'.get? d = some (seqObj "list" out.toArray n)) → Q (.ref d) { s with heap := h' }) :
    wpAny (model prog w) A (call (.builtin "sorted") [.ref l]) Q E s := by
  refine sorted_ord (swo_lexL k) hl hz (fun h2 h₁ a ha kk => ?_) fun out hs hb => ?_
  · refine itups_sortable (s := { s with heap := h₁ }) (by omega) (fun v hm => ⟨(hp v hm).1, (hp v hm).2.keeps fun b o e _ => (kk b o e).2⟩) fun o e => ?_
    have e' : some o = some (seqObj "list" vs.toArray 0) := e.symm.trans ha
    cases e'
    intro c
    exact absurd (Value.type.inj c) (by decide)
  · exact h _ _ out hs hb (fun b o e => sortedAll_old e) (Nat.le_succ _) (sortedAll_at s.heap vs out.toArray)
end
theorem intsAre_of : ∀ {ns : List Int} {us : List Value}, Vals (ns.map V.int) us → IntsAre us ns := fun h => L2.intsAre_of h
/-- sorted(xs), xs a list of tuples of ints (k says which ones): a new list, sorted -/
def rSortedIT (K : PySem.W.Frag) : List V → Hp → VK → Prop := fun vs H Q => ∃ (a : Addr) (xs : List V) (k : V → List Int), vs = [V.ref a] ∧ SqL K H a xs ∧ (∀ x ∈ xs, ∃ t, x = V.ref t ∧ k x ≠ [] ∧ SqT K H t ((k x).map V.int)) ∧
  ∀ ys p, Srtd (fun x y => HT.lexLt (k x) (k y)) ys → Stb (fun x y => HT.lexLt (k x) (k y)) ys xs → H p = none → Q (.ref p) (upd H p (.lst ys))
theorem cr_sortedIT {X : Cx} : CallR X (.builtin "sorted") (rSortedIT X.K) := by
  intro pins s σ H vs us Q I r h
  obtain ⟨a, xs, k, rfl, hs, hx, q⟩ := h
  obtain ⟨its, rv, hl, hz⟩ := I.list hs
  obtain ⟨u, rfl, ru⟩ := vals1 r
  obtain rfl : u = Value.ref a := ru
  obtain ⟨e1, e2⟩ := refs_back rv fun x m => by
    obtain ⟨t, e, _⟩ := hx x m
    exact ⟨t, e⟩
  refine sorted_itups (k := fun u => k (backV u)) hl.isList (by rw [← rv.length]; exact hz) (fun v hv => ?_) fun h' d out h1 h2 kp hd hn => ?_
  · obtain ⟨t, rfl⟩ := e2 v hv
    have hm : V.ref t ∈ xs := by rw [e1]; exact List.mem_map.mpr ⟨_, hv, rfl⟩
    obtain ⟨t', e, hne, ht⟩ := hx _ hm
    cases e
    obtain ⟨its2, r2, ⟨o, ho, hc, n, hd⟩, _⟩ := I.tuple ht
    exact ⟨hne, t, o, its2.toArray, n, rfl, ho, hc, hd, show IntsAre its2.toArray.toList (k (backV (Value.ref t))) from by rw [List.toList_toArray]; exact L2.intsAre_of r2⟩
  · have h3 : ∀ u ∈ out, ∃ a, u = Value.ref a := fun u hu => e2 u (h2.perm.mem_iff.mp hu)
    obtain ⟨n, hn⟩ := hn
    have hb : Stb (fun x y => HT.lexLt (k x) (k y)) (out.map backV) xs := by
      rw [e1]
      exact Stb.map (swo_lexL k) backV h2
    refine ⟨.ref d, upd H d (.lst (out.map backV)), I.laid (t' := s.toks) kp hd ⟨?_, out, n, vals_back h3, hn⟩, rfl, q _ d (srtd_map h1) hb (I.hok.fresh hd)⟩
    rw [hb.len]
    exact hz
end Oh
set_option maxHeartbeats 4000000
namespace Oh
open PySem PySem.Spec PyProof.Rows L2
open C8 (Cal Met Mak pe_c pe_mk pe_mt pe_mt0 pe_gc InsC call_isC tCut pss_cut fnBody fnArgs fnScope)
open LamX NdefX
/-! ### a function made on the way, handed down, called there -/
/-- what a call of the function object at f promises, in every heap over base -/
structure CV (P : Program) (w : World) (K : PySem.W.Frag) (mg : Str → Option Value) (base : Heap) (k : Nat) (f : Addr) (sp : Sp) : Prop where
  fn : PySem.W.FnAt f base
  run : ∀ (A : Around) (outer : List Env) (s : Shared) (H : Hp) (us : List Value) (vs : List V) (Q : VK) (E : XK), Room k A → Env0 P w K mg base A outer s H → Vals vs us → sp vs H Q E → codeAny (model P w) A (.call (.ref f) ⟨us, []⟩) (CR C8.CX0 outer P w H s Q E) s
theorem fnAt_keeps {f : Addr} {h h' : Heap} (k : ∀ b o, h.get? b = some o → h'.get? b = some o) (x : PySem.W.FnAt f h) : PySem.W.FnAt f h' := by
  obtain ⟨oc, od, fd, sl, e⟩ := x
  exact ⟨oc, od, fd, sl, k _ _ e⟩
/-- x(..), x a parameter that holds such a function -/
theorem pe_choose {X : Cx} {i j k : Nat} {x : Str} {f : Addr} {sp : Sp} {e : Expr} {es : List Expr} {t : TA} {p pos : Pos} (c : CV X.prog X.w X.K X.mg X.base k f sp) (hr : Room j X.A) (hk : k ≤ j) (hN : X.N[i]? = some x) (hv : Vis X.env.scope x) (ha : PA X (e :: es) t)
    (hd : (x == ("__debug__" : Str)) = false := by decide) (hcd : (x == ("__classdict__" : Str)) = false := by decide)
    (he : starEach (e :: es) X.env = (false, eval e X.env) :: starEach es X.env := by rfl) (hpl : (backTo pos (starEach es X.env)).any (·.1) = false := by rfl) :
    PE X (.Call (.Name x p) (e :: es) [] pos) (fun σ H Q => σ[i]? = some (some (.ref f)) ∧ t σ H fun vs H1 => sp vs H1 Q C8.E0) := by
  refine ⟨fun pins s σ H Q I h => ?_⟩
  obtain ⟨hs, ht⟩ := h
  refine wpAny_Call_Name_kw (thn ((pe_var (pos := p) hN hv hd hcd).run pins s σ H (fun v H1 => v = .ref f ∧ H1 = H) I ⟨.ref f, hs, rfl, rfl⟩) fun u s1 ⟨v, H1, I1, r1, q1⟩ => ?_)
  obtain ⟨ev, eH⟩ := q1
  subst ev
  rw [eH] at I1
  obtain rfl : u = Value.ref f := r1
  refine PySem.W.callWith_F (first := []) (fnAt_keeps I1.bk c.fn) (thn (ha.run pos pins s1 σ H _ I1 ht) fun us s2 ⟨vs, H2, I2, r, q⟩ => ⟨fnAt_keeps I2.bk c.fn, ?_⟩) he hpl
  show wpAny _ _ (call (.ref f) us) _ _ _
  refine wpAny_call (codeAny_mono (c.run X.A X.stack s2 H2 us vs Q C8.E0 (hr.mono hk) I2.env0 r q) fun r s' hq => ?_)
  cases r with
  | error e => exact (show False from hq).elim
  | ok fl =>
    cases fl with
    | ret u => exact I2.after hq
    | next => exact False.elim hq
    | brk => exact False.elim hq
    | cont => exact False.elim hq
/-- what the cells hold, told of the base -/
theorem cells_env {P : Program} {w : World} {K : PySem.W.Frag} {mg : Str → Option Value} {base : Heap} {A : Around} {outer : List Env} {s : Shared} {H : Hp} {cl : List (Str × Addr)} {fr : List Str} {ws : List (Option V)} (C : CellsAt cl fr ws base (fun _ => none)) (e0 : Env0 P w K mg base A outer s H) : CellsAt cl fr ws s.heap H := by
  have kp : ∀ c v, base.IsCell c v → s.heap.IsCell c v ∧ H c = none := fun c v ⟨o, ho, hd⟩ => ⟨⟨o, (e0.bs c o ho).1, hd⟩, (e0.bs c o ho).2⟩
  refine ⟨C.len, fun y c e => ?_, C.inj, fun i y e => ?_⟩
  · obtain ⟨_, v, z⟩ := C.all y c e
    exact ⟨(kp c _ z).2, v, (kp c _ z).1⟩
  · obtain ⟨c, hc, hv⟩ := C.has i y e
    refine ⟨c, hc, fun v ev => ?_⟩
    obtain ⟨u, r, z⟩ := hv v ev
    exact ⟨u, r, (kp c _ z).1⟩
/-- a lambda by its body -/
theorem cv_lam {P : Program} {w : World} {K : PySem.W.Frag} {mg : Str → Option Value} {base : Heap} {k : Nat} {f c' : Addr} {q : Str} {params : Arguments} {body : Expr} {scope : Scope} {cl : List (Str × Addr)} {pm ctv : Value} {N ps fr : List Str} {ws : List (Option V)} {sp : Sp}
    (hf : base.get? f = some (PySem.W.kla_obj "<lambda>" q params body scope cl pm c' ctv)) (S : NScope N ps fr scope) (C : CellsAt cl fr ws base (fun _ => none))
    (hb : ∀ us : List Value, us.length = ps.length → bindArgs (PySem.W.kla_fn "<lambda>" q params body scope cl pm (.ref c') ctv) ⟨us, []⟩ = pure (ps.zip us)) (len : ∀ vs H Q E, sp vs H Q E → vs.length = ps.length)
    (hbody : ∀ (A : Around) (outer : List Env) (s : Shared) (H : Hp) (vs : List V) (Q : VK) (E : XK) (doc : Value), Room k (A.deeper (envF ⟨"<lambda>", q, params, [], scope, cl, c'⟩ f s.heap.objs.size)) → sp vs H Q E →
      ∃ t, PE (ncx C8.CX0 P w K mg base N ⟨"<lambda>", q, params, [], scope, cl, c'⟩ f A outer s H E) body t ∧ t (startF N vs ws) H Q) :
    CV P w K mg base (k + 1) f (fun vs H Q E => H c' = some (CodeO c' q) ∧ sp vs H Q E) := by
  refine ⟨⟨_, _, _, _, hf⟩, fun A outer s H us vs Q E hr e0 r hsp => ?_⟩
  obtain ⟨hc, hsp⟩ := hsp
  have hl := len _ _ _ _ hsp
  have lim : s.heap.NoLimit := e0.mod.nolimit.keeps fun b o e => (e0.bs b o e).1
  have of1 := (e0.bs _ _ hf).1
  obtain ⟨⟨oc, vs0, t0, hoc, hdc, hvc⟩, _, _⟩ := e0.hok c' _ hc
  refine PySem.W.kla_callFunE hr.depth of1 rfl S.co S.gen rfl ⟨c', oc, vs0, t0, rfl, hoc, hdc, hvc⟩ ?_
  rw [hb us (by rw [← r.length]; exact hl)]
  refine wpAny_pure (wpAny_newFunctionEnv S.nocell (fun ⟨n, _⟩ hy => S.par n (List.of_mem_zip hy).1) (fun h₁ hns hsb => ⟨lim.fresh _ hsb, ?_⟩) S.kind)
  show codeAny _ _ (.expr body (envF ⟨"<lambda>", q, params, [], scope, cl, c'⟩ f s.heap.objs.size)) _ _
  have kp : ∀ b o, s.heap.get? b = some o → h₁.get? b = some o := fun b o e => hsb.extBut b o (Nat.ne_of_lt (Heap.lt_size e)) (Heap.get?_push_of_some _ e)
  obtain ⟨t, ht, hq⟩ := hbody A outer s H vs Q E .none (hr.deeper _) hsp
  have J : Inv (ncx C8.CX0 P w K mg base N ⟨"<lambda>", q, params, [], scope, cl, c'⟩ f A outer s H E) [] (startF N vs ws) H { s with heap := h₁, toks := s.toks + (ps.zip us).length } := inv_startN S hr.hd e0 hl r (cells_env C e0) hns kp
  refine PySem.W.kla_codeExpr (wpAny_mono (ht.run [] _ _ H Q J hq) (fun v s' hv => ?_) fun e s' he => he)
  obtain ⟨w', H', J', rv, qv⟩ := hv
  exact ⟨w', H', J'.os, J'.bare, J'.base, J'.hok, rv, qv⟩
/-- the heap with what is tracked and the running frames left out -/
def under (X : Cx) (h : Heap) (H : Hp) : Heap := PySem.W.hideAll h (trk h H ++ frs X.stack)
theorem under_get {X : Cx} {h : Heap} {H : Hp} {b : Addr} {o : Obj} (e : h.get? b = some o) (n : H b = none) (nf : b ∉ frs X.stack) : (under X h H).get? b = some o := by
  refine PySem.W.hideAll_get _ e fun z => ?_
  rcases List.mem_append.mp z with z | z
  · unfold trk at z
    have := (List.mem_filter.mp z).2
    rw [n] at this
    cases this
  · exact nf z
theorem of_under {X : Cx} {h : Heap} {H : Hp} {b : Addr} {o : Obj} (e : (under X h H).get? b = some o) : h.get? b = some o ∧ H b = none := by
  have e1 := PySem.W.of_hideAll _ e
  refine ⟨e1, ?_⟩
  cases q : H b with
  | none => rfl
  | some u =>
    have hm : b ∈ trk h H ++ frs X.stack := List.mem_append.mpr (.inl (List.mem_filter.mpr ⟨List.mem_range.mpr (Heap.lt_size e1), by rw [q]; rfl⟩))
    have := PySem.W.hideAll_none (h := h) _ hm
    unfold under at e
    rw [this] at e
    cases e
theorem env_under {X : Cx} {pins : List (Addr × Obj)} {σ : L2.St} {H : Hp} {s : Shared} (I : Inv X pins σ H s) : Env0 X.prog X.w X.K X.mg (under X s.heap H) X.A X.stack s H := by
  have e0 := I.env0
  have sub : ∀ b o, X.base.get? b = some o → (under X s.heap H).get? b = some o := fun b o e => under_get (I.bs b o e).1 (I.bs b o e).2 fun z => by
    have := (e0.funs.mem z).1
    rw [e] at this
    cases this
  have m := I.mod
  obtain ⟨mb, h1, h2⟩ := m.blt
  refine ⟨e0.frames, ⟨m.kin.keeps sub, m.glob.keeps sub, ⟨mb, h1.keeps sub, h2⟩, m.nolimit.keeps sub⟩, fun b o e => of_under e, Nat.le_of_eq (PySem.W.hideAll_size _ _), ?_, e0.frf, e0.hok, e0.bare⟩
  refine PySem.W.funFrames_hide e0.funs fun env he a ha => List.mem_append.mpr (.inr ?_)
  exact List.mem_filterMap.mpr ⟨env, he, ha⟩
/-- x(e, lambda ..: ..): what is told of x holds over every heap that has the lambda -/
theorem pe_lamSw {X : Cx} {T : List (Addr × Str)} {c P g : Addr} {x : Str} {k j : Nat} {params : Arguments} {body : Expr} {scope : Scope} {fr : List Str} {js : List Nat} {e : Expr} {te : TE} {sp : Addr → Addr → List (Option V) → Sp} {p lpos pos : Pos}
    (hg : Gl X x) (hm : X.mg x = some (.ref g)) (hk : PySem.W.keepIn X.K (.ref g) = true) (he : PE X e te) (TB : TabB X.base X.mg c P) (hcode : X.env.code = .ref c) (hmT : (P, X.env.qual ++ "<lambda>") ∈ T) (hu : ∀ p ∈ T, p.1 = P → p.2 = X.env.qual ++ "<lambda>")
    (hdef : defaultsOf params X.env = ([], [])) (hfree : ∀ y ∈ scope.names, y.2 = .free → X.env.scope.names.lookup y.1 = some .cell ∨ X.env.scope.names.lookup y.1 = some .free) (hfr : ∀ y ∈ fr, (y, NameKind.free) ∈ scope.names) (hjs : js.map (fun j => X.N[j]?) = fr.map some)
    (hr : Room j X.A) (hj : k ≤ j) (hcab : ∀ y, X.fn y = true)
    (hF : ∀ (f c' : Addr) (pm ctv : Value) (ws : List (Option V)) (base' : Heap), base'.get? f = some (PySem.W.kla_obj "<lambda>" (X.env.qual ++ "<lambda>") params body scope (cloFrom X.env.cells scope.names []) pm c' ctv) →
      CellsAt (cloFrom X.env.cells scope.names []) fr ws base' (fun _ => none) → Cal X.prog X.w X.K X.mg base' k x (sp f c' ws) [])
    (hdb : (x == ("__debug__" : Str)) = false := by decide) (hs1 : starEach [e, .Lambda params body scope lpos] X.env = (false, eval e X.env) :: starEach [.Lambda params body scope lpos] X.env := by rfl) :
    PE X (.Call (.Name x p) [e, .Lambda params body scope lpos] [] pos) (fun σ H Q => te σ H fun v H1 => Tabs T H1 ∧ ∀ (f c' : Addr) (H2 : Hp), ExtN H1 H2 → Tabs T H2 → H2 c' = some (CodeO c' (X.env.qual ++ "<lambda>")) → sp f c' (js.map (slotAt σ)) [v, .ref f] H2 Q C8.E0) := by
  refine ⟨fun pins s σ H Q I h => ?_⟩
  refine wpAny_Call_Name_kw (ld_glob I hg hm ?_ hdb)
  refine PySem.W.callWith_K (h₀ := X.base) I.ok.mod.kin hk ?_ hs1 (by rfl)
  have hfr' : ∀ y ∈ scope.names, y.2 = .free → ∃ c, X.env.cells.lookup y.1 = some c := fun y hy e => (hfree y hy e).elim (fun z => I.ok.has _ (.inl z)) fun z => I.ok.has _ (.inr z)
  rw [hs1]
  show wpAny _ _ (spliced ((false, eval e X.env) :: (false, eval (.Lambda params body scope lpos) X.env) :: backTo pos (starEach [] X.env))) _ _ s
  refine Calls.spliced_cons (thn (he.run pins s σ H _ I h) fun u s0 ⟨v, H0, I0, rv, hT, hq0⟩ => ?_)
  refine Calls.spliced_cons (lam_make2 I0 TB hcode hmT hu hT hdef hfr' fun f c' pm' ctv H1 s' I1 eN T1 hf hfn hfr0 hco => ?_)
  refine Calls.spliced_nil ⟨I1.kIn, ?_⟩
  have cp : Caps X (cloFrom X.env.cells scope.names []) fr js := Caps.made I1.ok hfree hfr hjs
  have C0 := cells_of I1 cp
  have nofr : ∀ y c, (cloFrom X.env.cells scope.names []).lookup y = some c → c ∉ frs X.stack := fun y c e z => by
    have e1 := cp.sub y c e
    rcases List.mem_cons.mp (I1.stkSub _ z) with q | q
    · exact I1.cne y c e1 q
    · have q1 := I1.ok.cab y c (hcab y) e1
      obtain ⟨_, o, q2, _⟩ := I1.ok.funs.mem q
      exact Nat.lt_irrefl _ (Nat.lt_of_lt_of_le (Heap.lt_size q2) q1)
  have C1 : CellsAt (cloFrom X.env.cells scope.names []) fr (js.map (slotAt σ)) (under X s'.heap H1) (fun _ => none) := by
    have kp : ∀ y c, (cloFrom X.env.cells scope.names []).lookup y = some c → ∀ v, s'.heap.IsCell c v → (under X s'.heap H1).IsCell c v := fun y c e v ⟨o, ho, hd⟩ => ⟨o, under_get ho (C0.all y c e).1 (nofr y c e), hd⟩
    refine ⟨C0.len, fun y c e => ?_, C0.inj, fun i y e => ?_⟩
    · obtain ⟨_, v, z⟩ := C0.all y c e
      exact ⟨rfl, v, kp y c e v z⟩
    · obtain ⟨c, hc, hv⟩ := C0.has i y e
      refine ⟨c, hc, fun v ev => ?_⟩
      obtain ⟨u, r, z⟩ := hv v ev
      exact ⟨u, r, kp y c hc _ z⟩
  obtain ⟨f0, fd, ps, ds, FO, hm0, _, hb, hd⟩ := (hF f c' pm' ctv (js.map (slotAt σ)) (under X s'.heap H1) (under_get hf hfn hfr0) C1).ex
  rw [hm] at hm0
  cases hm0
  have q := hq0 f c' H1 eN T1 hco
  have r2 : Vals ([v, .ref f] ++ []) ([u, .ref f] ++ ds) := Vals.append (.cons rv (.cons rfl .nil)) hd
  have hl : ([u, .ref f] ++ ds).length = ps.length := by rw [← r2.length]; exact FO.len _ _ _ _ (by simpa using q)
  show wpAny _ _ (call (.ref g) [u, .ref f]) _ _ _
  refine wpAny_call (codeAny_mono (FO.run X.A X.stack s' H1 ⟨[u, .ref f], []⟩ ([u, .ref f] ++ ds) ([v, .ref f] ++ []) Q C8.E0 (hr.mono hj) (env_under I1) (hb s' [u, .ref f] I1.kIn hl) r2 (by simpa using q)) fun r s2 hq => ?_)
  cases r with
  | error e => exact (show False from hq).elim
  | ok fl =>
    cases fl with
    | ret u => exact I1.after hq
    | next => exact False.elim hq
    | brk => exact False.elim hq
    | cont => exact False.elim hq
end Oh
set_option maxHeartbeats 4000000
namespace Oh
open PySem PySem.Spec PyProof.Rows L2
open C8 (Cal Met Mak pe_c pe_mk pe_mt pe_mt0 pe_gc InsC call_isC tCut pss_cut fnBody fnArgs fnScope)
open SrtO
/-! ### sorted of texts, any number of them -/
def kS : Value → List Nat
  | .str x _ => x.cps.toList
  | _ => []
theorem swo_S {α : Type} (k : α → List Nat) : Swo fun v u => decide (k v < k u) := by
  refine ⟨fun x y h => ?_, fun x y z h1 h2 => ?_⟩
  · have := of_decide_eq_true h
    exact decide_eq_false (List.not_lt.mpr (List.le_of_lt this))
  · have a := List.not_lt.mp (of_decide_eq_false h1)
    have b := List.not_lt.mp (of_decide_eq_false h2)
    exact decide_eq_false (List.not_lt.mpr (List.le_trans a b))
section
variable {prog : Program} {w : World} {A : Around} {E : Value → Shared → Prop} {s : Shared}
theorem strs_cmp {vs : List Value} {ss : List Str} (hS : StrsAre vs ss) : Cmp prog w A s oneType' (fun p => p.1 ∈ vs) (lt2 fun v u => decide (kS v < kS u)) := by
  have sh : ∀ {vs : List Value} {ss : List Str}, StrsAre vs ss → ∀ v ∈ vs, ∃ x t, v = Value.str x t := by
    intro vs ss h
    induction h with
    | nil => intro v hv; cases hv
    | cons x t _ ih =>
      intro v hv
      rcases List.mem_cons.mp hv with rfl | hv
      · exact ⟨x, t, rfl⟩
      · exact ih v hv
  intro p q hm hm'
  obtain ⟨x, t, e⟩ := sh hS _ hm
  obtain ⟨y, u, e'⟩ := sh hS _ hm'
  show wpAny (model prog w) A (keyLt' oneType' p.1 q.1) (fun r s' => s' = s ∧ r = decide (kS p.1 < kS q.1)) (fun _ _ => False) s
  rw [e, e']
  exact oneLt_str ⟨rfl, rfl⟩
theorem strs_sortable {a : Addr} {vs : List Value} {ss : List Str} (h2 : 2 ≤ vs.length) (hS : StrsAre vs ss) : SortableO prog w A s a vs fun v u => decide (kS v < kS u) := by
  intro h' _
  refine ⟨oneType', fun Q E hq => ?_, strs_cmp hS⟩
  match vs, h2, hS with
  | v₁ :: v₂ :: r, _, hS =>
    rw [keyKind_strs hS]
    exact wpAny_pure hq
theorem sorted_strs {l : Addr} {vs : List Value} {ss : List Str} {Q : Value → Shared → Prop} (hl : s.heap.IsList l vs.toArray) (hz : vs.length ≤ sizeLine) (hS : StrsAre vs ss)
    (h : ∀ (h' : Heap) (d : Addr) (out : List Value), Srtd (fun v u => decide (kS v < kS u)) out → Stb (fun v u => decide (kS v < kS u)) out vs → (∀ b o, s.heap.get? b = some o → h'.get? b = some o) → s.heap.objs.size ≤ d → (∃ n, h'.get? d = some (seqObj "list" out.toArray n)) → Q (.ref d) { s with heap := h' }) :
    wpAny (model prog w) A (call (.builtin "sorted") [.ref l]) Q E s := by
  refine sorted_ord (swo_S kS) hl hz (fun h2 h₁ a ha kk => ?_) fun out hs hb => ?_
  · exact strs_sortable (s := { s with heap := h₁ }) h2 hS
  · exact h _ _ out hs hb (fun b o e => sortedAll_old e) (Nat.le_succ _) (sortedAll_at s.heap vs out.toArray)
end
/-- ascending, equal ones allowed -/
def AscL (ss : List Str) : Prop := ss.Pairwise fun x y => ¬ y.cps.toList < x.cps.toList
def rSortedSt (K : PySem.W.Frag) : List V → Hp → VK → Prop := fun vs H Q => ∃ (a : Addr) (ss : List Str), vs = [V.ref a] ∧ SqL K H a (ss.map V.str) ∧ ∀ ys p, ys.Perm ss → AscL ys → H p = none → Q (.ref p) (upd H p (.lst (ys.map V.str)))
theorem strsAre_of {ss : List Str} : ∀ {us : List Value}, Vals (ss.map V.str) us → StrsAre us ss := by
  induction ss with
  | nil => intro us h; cases h; exact .nil
  | cons x ss ih =>
    intro us h
    cases h with
    | cons r t =>
      obtain ⟨tk, rfl⟩ := r
      exact .cons x tk (ih t)
theorem strs_back : ∀ {us : List Value}, (∀ u ∈ us, ∃ x t, u = Value.str x t) → ∃ ss : List Str, Vals (ss.map V.str) us ∧ ss.map (fun x => x.cps.toList) = us.map kS
  | [], _ => ⟨[], .nil, rfl⟩
  | u :: us, h => by
    obtain ⟨x, t, rfl⟩ := h u (List.mem_cons_self ..)
    obtain ⟨ss, h1, h2⟩ := strs_back (us := us) fun v hv => h v (List.mem_cons_of_mem _ hv)
    exact ⟨x :: ss, .cons ⟨t, rfl⟩ h1, by simp [h2, kS]⟩
theorem str_of_cps {x y : Str} (h : x.cps.toList = y.cps.toList) : x = y := by
  obtain ⟨⟨a⟩⟩ := x
  obtain ⟨⟨b⟩⟩ := y
  simpa using h
theorem cr_sortedSt {X : Cx} : CallR X (.builtin "sorted") (rSortedSt X.K) := by
  intro pins s σ H vs us Q I r h
  obtain ⟨a, ss, rfl, hs, q⟩ := h
  obtain ⟨its, rv, hl, hz⟩ := I.list hs
  obtain ⟨u, rfl, ru⟩ := vals1 r
  obtain rfl : u = Value.ref a := ru
  have hS := strsAre_of rv
  have sh : ∀ v ∈ its, ∃ x t, v = Value.str x t := by
    have : ∀ {vs : List Value} {ss : List Str}, StrsAre vs ss → ∀ v ∈ vs, ∃ x t, v = Value.str x t := by
      intro vs ss h
      induction h with
      | nil => intro v hv; cases hv
      | cons x t _ ih =>
        intro v hv
        rcases List.mem_cons.mp hv with rfl | hv
        · exact ⟨x, t, rfl⟩
        · exact ih v hv
    exact this hS
  refine sorted_strs hl.isList (by rw [← rv.length]; exact hz) hS fun h' d out h1 h2 kp hd hn => ?_
  obtain ⟨ys, hy, hk⟩ := strs_back (us := out) fun u hu => sh u (h2.perm.mem_iff.mp hu)
  obtain ⟨n, hn⟩ := hn
  have hks : ss.map (fun x => x.cps.toList) = its.map kS := by
    have : ∀ {vs : List Value} {ss : List Str}, StrsAre vs ss → ss.map (fun x => x.cps.toList) = vs.map kS := by
      intro vs ss h
      induction h with
      | nil => rfl
      | cons x t _ ih => simp [kS, ih]
    exact this hS
  have hperm : ys.Perm ss := by
    have p1 : (ys.map fun x => x.cps.toList).Perm (ss.map fun x => x.cps.toList) := by
      rw [hk, hks]
      exact h2.perm.map kS
    have inj : ∀ l : List Str, l = (l.map fun x => x.cps.toList).map fun c => (⟨c.toArray⟩ : Str) := by
      intro l
      rw [List.map_map]
      refine (List.map_id l).symm.trans ?_
      refine List.map_congr_left fun x _ => ?_
      exact (str_of_cps (by simp)).symm
    rw [inj ys, inj ss]
    exact p1.map _
  have hasc : AscL ys := by
    have h3 : (out.map kS).Pairwise fun a b => ¬ b < a := by
      refine List.pairwise_map.mpr ?_
      exact List.Pairwise.imp (fun {a b} h => of_decide_eq_false h) h1
    rw [← hk] at h3
    exact List.pairwise_map.mp h3
  refine ⟨.ref d, upd H d (.lst (ys.map V.str)), I.laid (t' := s.toks) kp hd ⟨?_, out, n, hy, hn⟩, rfl, q _ d hperm hasc (I.hok.fresh hd)⟩
  rw [List.length_map, hperm.length_eq, ← List.length_map (f := V.str)]
  exact hz
end Oh
set_option maxHeartbeats 4000000
namespace Oh
open PySem PySem.Spec PyProof.Rows L2
open C8 (Cal Met Mak pe_c pe_mk pe_mt pe_mt0 pe_gc InsC call_isC tCut pss_cut fnBody fnArgs fnScope)
/-! ### dicts whose keys are tuples: values, clear -/
theorem kt_vals {H : Hp} : ∀ {kvs : List (List L2.Key × V)} {xs : List (List L2.Key × Addr × Value)}, Paired (fun (p : List L2.Key × V) (q : List L2.Key × Addr × Value) => p.1 = q.1 ∧ H q.2.1 = some (.tup (p.1.map kV)) ∧ RelV p.2 q.2.2) kvs xs → Vals (kvs.map (·.2)) (xs.map fun x => x.2.2)
  | _, _, .nil => .nil
  | _, _, .cons h t => .cons h.2.2 (kt_vals t)
/-- the view d.values() at p -/
def valuesO (p d : Addr) : HO := .ext fun h => h.IsValuesView p d
theorem valuesO_ok {P : Program} {w : World} {H : Hp} {h : Heap} {p d : Addr} (e : h.get? p = some { cls := .type "dict_values", data := .fields #[.ref d] }) : ObjOk P w H h p (valuesO p d) :=
  ⟨⟨_, e, rfl, rfl⟩, ⟨_, e⟩, fun h1 h2 x k => let ⟨o, ho, r⟩ := x; ⟨o, k o ho, r⟩⟩
section
variable {X : Cx}
def rValuesT : V → List V → Hp → VK → Prop := fun x xs H Q => ∃ (a : Addr) (kvs : List (List L2.Key × V)), x = .ref a ∧ xs = [] ∧ H a = some (.dT kvs) ∧ ∀ p, H p = none → Q (.ref p) (upd H p (valuesO p a))
theorem mt_valuesT : MtR X "dict.values" rValuesT := by
  intro pins s σ H x xs v us Q I rx rxs h
  obtain ⟨a, kvs, rfl, rfl, ha, q⟩ := h
  cases rx
  cases rxs
  obtain ⟨z, hd, xs', rel, o, es, ep, ho, hx, hdat, _⟩ := dt_of I.hok ha
  have hm : s.heap.DictRaw a es ep := ⟨o, ho, hx, hdat⟩
  refine call_meetsIn PySem.F.slot_dict_values hm.typeIs PySem.F.entry_dict_values (PySem.F.args_dict_values_1 _) (PySem.meets_dict_values_raw a hd) ⟨⟨es, ep, hm⟩, ?_⟩
  have hf : H s.heap.objs.size = none := I.hok.fresh (Nat.le_refl _)
  exact ⟨.ref s.heap.objs.size, upd H s.heap.objs.size (valuesO s.heap.objs.size a), I.laid (t' := s.toks) (fun b u e => Heap.get?_push_of_some _ e) (Nat.le_refl _) (valuesO_ok (Heap.get?_push_size _ rfl)), rfl, q _ hf⟩
theorem kdl_rawV {prog : Program} {w : World} {es : Array DictEntry} {ep : Nat} {r d : Addr} :
    PySem.W.KdlSrc prog w "dict_values" r d es.size (fun i v => ∃ hi : i < es.size, v = es[i].val) (fun h => h.IsValuesView r d ∧ h.DictRaw d es ep) where
  type := fun _ hm => hm.1.typeIs
  there := fun _ hm => ⟨let ⟨_, ho, _⟩ := hm.1; Heap.lt_size ho, let ⟨_, ho, _⟩ := hm.2; Heap.lt_size ho⟩
  keep := fun _ _ hm hk => ⟨let ⟨o, ho, x⟩ := hm.1; ⟨o, hk r (.inl rfl) o ho, x⟩, hm.2.at fun o e => hk d (.inr rfl) o e⟩
  notList := by decide
  notTuple := by decide
  hint := fun _ _ _ _ hm hq => PySem.W.kdl_hint_values hm.1.typeIs hq
  iter := fun _ s hh hm => ⟨_, _, (fun _ _ hq => PySem.wpAny_pyIter_values_raw hm.1 hm.2 hq), PySem.Walks.rawValues hh _ d (Nat.ne_of_lt (let ⟨_, ho, _⟩ := hm.2; Heap.lt_size ho)) es ep,
    ⟨⟨_, Heap.get?_push_size _ rfl, rfl, rfl⟩, hm.2.at fun o e => Heap.get?_push_of_some _ e⟩⟩
/-- list(v), v a dict's values view -/
def rListVals : List V → Hp → VK → Prop := fun xs H Q => ∃ (p a : Addr) (kvs : List (List L2.Key × V)), xs = [.ref p] ∧ H p = some (valuesO p a) ∧ H a = some (.dT kvs) ∧ ∀ l, H l = none → Q (.ref l) (upd H l (.lst (kvs.map (·.2))))
theorem call_list_vals (hc : X.calm = true) : CallR X (.type "list") rListVals := by
  intro pins s σ H xs us Q I r h
  obtain ⟨p, a, kvs, rfl, hp, ha, q⟩ := h
  obtain ⟨u, rfl, rx⟩ := r.one
  cases rx
  obtain ⟨hv, _, _⟩ := (show ObjOk X.prog X.w H s.heap p (valuesO p a) from I.hok p _ hp)
  obtain ⟨z, hd, ks, pr, o, es, ep, ho, hx, hdt, he, _⟩ := dt_of I.hok ha
  have l1 : es.size = ks.length := size_of_entries he
  have l2 : kvs.length = ks.length := Paired.length pr
  refine PySem.W.kdl_call (kdl_rawV (es := es) (ep := ep) (r := p) (d := a)) (I.ok.hd hc) ⟨hv, o, ho, hx, hdt⟩ (by omega) fun h' tk acc' c' kp e it => ?_
  have rv : Vals (kvs.map (·.2)) acc'.toList := by
    have ea : acc'.toList = ks.map fun x => x.2.2 := by
      have hl : acc'.toList.length = ks.length := by rw [Array.length_toList, it.1]; exact l1
      apply List.ext_getElem?
      intro j
      rw [List.getElem?_map]
      cases hj : acc'.toList[j]? with
      | none =>
        have h1 := List.getElem?_eq_none_iff.mp hj
        rw [List.getElem?_eq_none (by omega)]
        all_goals rfl
      | some v =>
        obtain ⟨hi, hv⟩ := it.2 j v (by rw [← Array.getElem?_toList]; exact hj)
        have qe := entry_at he j
        rw [Array.getElem?_eq_getElem hi] at qe
        cases hb : ks[j]? with
        | none =>
          rw [hb] at qe
          exact nomatch (show some es[j] = none from qe)
        | some b =>
          rw [hb] at qe
          have e2 : es[j] = entryOfKey (tupleKind (mixKind X.prog X.w)) b := Option.some.inj qe
          rw [hv, e2]
          all_goals rfl
    rw [ea]
    exact kt_vals pr
  have hz : (kvs.map (·.2)).length ≤ sizeLine := by rw [List.length_map]; exact z
  refine ⟨.ref s.heap.objs.size, _, I.laid (t' := tk) (o := .lst (kvs.map (·.2))) kp (Nat.le_refl _) ?_, rfl, q _ (I.hok.fresh (Nat.le_refl _))⟩
  exact ⟨hz, acc'.toList, c', rv, by rw [Array.toArray_toList]; exact e⟩
end
end Oh
set_option maxHeartbeats 4000000
namespace Oh
open PySem PySem.Spec PyProof.Rows L2
open C8 (Cal Met Mak pe_c pe_mk pe_mt pe_mt0 pe_gc InsC call_isC tCut pss_cut fnBody fnArgs fnScope)
/-! ### comprehensions that give lists of data -/
section
variable {F : Fm} {K : PySem.W.Frag} {σ : L2.St} {H H' : Hp} {ta te : TE} {T : VP F} {ds : List PyData} {vs : List Nat} {j : Nat}
theorem wipe_one (σ : L2.St) (j : Nat) (x : V) : wipe ((wipe σ [j]).set j (some x)) [j] = wipe σ [j] := by
  simp [wipe]
theorem TdA.snoc {xs : List V} {y : V} {d : PyData} (h : TdA K H xs ds) (hy : Td K H y d) : TdA K H (xs ++ [y]) (ds ++ [d]) := h.append (.cons hy .nil)
theorem lc_any {J : It} {n : Nat} {Y : Nat → Hp → V → Hp → Prop} {g : TG} {H1 : Hp} {D : Addr} {Q : VK} (g1 : F.G H1) (w : Walk J n (F.L H1) Y) (hD : H1 D = none) (hn : n ≤ 1000000) (PT : Nat → PyData → Prop)
    (turn : ∀ i x H2 H3, i < n → F.L H1 H2 → Y i H2 x H3 → F.L H2 H3 ∧ ∀ R : L2.St → Hp → Prop, (∀ σ2, wipe σ2 vs = wipe σ vs → Ev F te σ2 H3 (.dt K (PT i)) → R σ2 H3) → g x (wipe σ vs) H3 R)
    (hQ : ∀ H2 ys es, F.L H1 H2 → H2 D = some (.lst ys) → TdA K H2 ys es → es.length = n → (∀ i d, es[i]? = some d → PT i d) → Q (.ref D) H2) :
    ∃ W : Nat → Nat → Hp → Prop, (∃ m, W 0 m (upd H1 D (.lst []))) ∧ ∀ i m H, W i m H →
      (J.stop i H ∧ Q (.ref D) H) ∨ (J.go i H ∧ ∃ Nx : Hp → Prop, (∀ H', Nx H' → ∃ m', m' < m ∧ W (i + 1) m' H') ∧ ∀ x H', J.yld i H x H' → g x (wipe σ vs) H' fun σ2 H2 => wipe σ2 vs = wipe σ vs ∧ tYes σ2 H2 fun b H3 =>
        if b = true then te σ2 H3 fun y H4 => ∃ acc, H4 D = some (.lst acc) ∧ acc.length < sizeLine ∧ Nx (upd H4 D (.lst (acc ++ [y]))) else Nx H3) := by
  have hsp : ¬ F.sp D := Fm.nosp g1 hD
  refine lc_it w (fun i H2 => F.L H1 H2 ∧ ∃ ys es, H2 D = some (.lst ys) ∧ TdA K H2 ys es ∧ es.length = i ∧ ∀ k d, es[k]? = some d → PT k d) ⟨.new g1 hD, [], [], upd_same, .nil, rfl, fun k d z => by simp at z⟩ (fun i H2 _ z => z.1) ?_ ?_
  · rintro i x H2 H3 hi ⟨e2, ys, es, hl, hx, hlen, hp⟩ y
    obtain ⟨e3, ht⟩ := turn i x H2 H3 hi e2 y
    refine ht _ fun σ2 hw hev => ⟨hw, ?_⟩
    unfold tYes
    dsimp only
    rw [if_pos rfl]
    refine hev H3 (.refl e3.good) _ fun z H4 e4 ⟨d, pd, td⟩ => ?_
    have e24 := e3.trans e4
    have hl4 : H4 D = some (.lst ys) := e24.1 _ _ hl hsp
    refine ⟨ys, hl4, by rw [hx.len, hlen, sizeLine_eq]; omega, .late g1 (e2.trans e24) hD hl4 (.inl ⟨_, rfl⟩), ys ++ [z], es ++ [d], upd_same, ?_, by simp [hlen], fun k d' hk => ?_⟩
    · exact ((hx.tl (e24.tl e2.good)).snoc td).tl (tl_upd hl4)
    · by_cases hki : k < es.length
      · rw [List.getElem?_append_left hki] at hk
        exact hp k d' hk
      · rw [List.getElem?_append_right (by omega)] at hk
        have : k - es.length = 0 := by
          rcases Nat.eq_zero_or_pos (k - es.length) with z | z
          · exact z
          · rw [List.getElem?_eq_none (by simp; omega)] at hk; cases hk
        rw [this] at hk
        have e : k = i := by omega
        rw [e]
        cases hk
        exact pd
  · rintro H2 ⟨e2, ys, es, hl, hx, hlen, hp⟩
    exact hQ H2 ys es e2 hl hx hlen hp
/-- what a comprehension's list is -/
abbrev VP.lcs (K : PySem.W.Frag) (H : Hp) (n : Nat) (PT : Nat → PyData → Prop) : VP F := .nls K H fun es => es.length = n ∧ ∀ i d, es[i]? = some d → PT i d
theorem ev_lcT (h : EvD F K ta σ H (.tuple ds)) (hn : ds.length ≤ 1000000) (PT : Nat → PyData → Prop)
    (turn : ∀ i d x H2, ds[i]? = some d → F.L H H2 → Td K H2 x d → Ev F te ((wipe σ [j]).set j (some x)) H2 (.dt K (PT i))) : Ev F (tLc (iTup K ta) (gName j) tYes te [j]) σ H (.lcs K H ds.length PT) := fun H1 e1 Q q =>
  h H1 e1 _ fun v H2 e2 ⟨d0, e0, p⟩ => by
    subst e0
    obtain ⟨a, xs, rfl, hsq, hx⟩ := p.tupE
    refine ⟨a, rfl, ⟨xs, hsq⟩, fun D hD => ?_⟩
    have g2 := e2.good
    rw [← hx.len] at hn
    refine lc_any (F := F) (K := K) (n := xs.length) g2 (walk_tup.mono (fun H' e => sqt_tl (e.tl g2) hsq) fun _ _ _ _ _ _ y => y) hD hn PT ?_ ?_
    · rintro i x H3 H4 hi e3 ⟨rfl, hxi⟩
      obtain ⟨d, hd, td⟩ := hx.getV hxi
      exact ⟨.refl e3.good, fun R hR => hR _ (wipe_one σ j x) (turn i d x H4 hd ((e1.trans e2).trans e3) (td.tl (e3.tl g2)))⟩
    · intro H3 ys es e3 hl htd hlen hp
      rw [hx.len] at hlen
      exact q _ _ (e2.trans e3) ⟨D, ys, es, rfl, L_back (e1.trans e2) hD, Fm.nosp g2 hD, hl, htd, hlen, hp⟩
end
end Oh
set_option maxHeartbeats 4000000
namespace Oh
open PySem PySem.Spec PyProof.Rows L2
open C8 (Cal Met Mak pe_c pe_mk pe_mt pe_mt0 pe_gc InsC call_isC tCut pss_cut fnBody fnArgs fnScope)
/-! ### turns that go on, by what holds of the slots -/
section
variable (F : Fm)
def RunP (ts : TS) (σ : L2.St) (H : Hp) (P : L2.St → Prop) : Prop := ∀ H1, F.L H H1 → ∀ D : Ends, (∀ σ' H2, F.L H1 H2 → P σ' → D.nx σ' H2) → ts D σ H1
/-- what a walk gives at turn i: a value for which A holds (in every later heap) -/
def RunI (tb : TG) (x : V) (σ : L2.St) (H : Hp) (P : L2.St → Prop) : Prop := ∀ Q : L2.St → Hp → Prop, (∀ σ', P σ' → Q σ' H) → tb x σ H Q
end
section
variable {F : Fm} {K : PySem.W.Frag} {σ : L2.St} {H H' : Hp} {ta te : TE} {t u : TT} {T R : VP F} {ds : List PyData} {tu tw rest tb : TS} {P P' : L2.St → Prop} {v : V} {b : Bool} {i j : Nat}
theorem RunP.sub (h : RunP F tu σ H P) (w : ∀ σ', P σ' → P' σ') : RunP F tu σ H P' := fun H1 e D q => h H1 e D fun σ' H2 e2 p => q σ' H2 e2 (w _ p)
theorem runP_skip (h : EvB F t σ H b) (e : b = false) (p : P σ) : RunP F (tIfS t tu tNext) σ H P := fun H1 e1 D q => h H1 e1 _ fun v H2 e2 pv => by
  rw [show v = false from pv.trans e]
  exact q _ _ e2 p
theorem runP_ifT (h : EvB F t σ H b) (e : b = true) (k : RunP F tu σ H P) : RunP F (tIfS t tu tw) σ H P := fun H1 e1 D q => h H1 e1 _ fun v H2 e2 pv => by
  rw [show v = true from pv.trans e]
  exact k H2 (e1.trans e2) D fun σ' H3 e3 p => q _ _ (e2.trans e3) p
theorem runP_ifF (h : EvB F t σ H b) (e : b = false) (k : RunP F tw σ H P) : RunP F (tIfS t tu tw) σ H P := fun H1 e1 D q => h H1 e1 _ fun v H2 e2 pv => by
  rw [show v = false from pv.trans e]
  exact k H2 (e1.trans e2) D fun σ' H3 e3 p => q _ _ (e2.trans e3) p
theorem runP_asgV (h : EvV F te σ H v) (p : P (σ.set i (some v))) : RunP F (tAsg te (gName i)) σ H P := fun H1 e1 D q => h H1 e1 _ fun w H2 e2 pw => by
  rw [show w = v from pw]
  exact q _ _ e2 p
theorem runP_seq (h : RunP F tu σ H P') (k : ∀ σ', P' σ' → RunP F tw σ' H P) : RunP F (tSeq tu tw) σ H P := fun H1 e1 D q => h H1 e1 { D with nx := tw D } fun σ' H2 e2 p => k σ' p H2 (e1.trans e2) D fun σ'' H3 e3 => q σ'' H3 (e2.trans e3)
theorem runP_seqV (h : EvV F te σ H v) (k : RunP F tw (σ.set i (some v)) H P) : RunP F (tSeq (tAsg te (gName i)) tw) σ H P := runP_seq (runP_asgV (P := fun σ' => σ' = σ.set i (some v)) h rfl) fun σ' e => e ▸ k
/-- a value that is kept with its heap -/
theorem runP_seqG (h : Ev F te σ H T) (k : ∀ v H1, F.L H H1 → T.p v H1 → RunP F tw (σ.set i (some v)) H1 P) : RunP F (tSeq (tAsg te (gName i)) tw) σ H P := fun H1 e1 D q => h H1 e1 _ fun w H2 e2 p =>
  k w H2 (e1.trans e2) p H2 (.refl e2.good) D fun σ' H3 e3 => q σ' H3 (e2.trans e3)
theorem runP_seqS (h : RunP F tu σ H P) (k : ∀ σ', P σ' → RunS F tw σ' H R) : RunS F (tSeq tu tw) σ H R := fun H1 e1 D q => h H1 e1 { D with nx := tw D } fun σ' H2 e2 p => k σ' p H2 (e1.trans e2) D fun v H3 e3 => q v H3 (e2.trans e3)
/-! loops -/
theorem runP_walk {J : It} {n : Nat} {Y : Nat → Hp → V → Hp → Prop} {wi : TI} {g : TG} (Pv : Nat → L2.St → Prop)
    (hw : ∀ H1, F.L H H1 → ∀ Rr : It → Hp → Prop, (∀ H2, F.L H1 H2 → Walk J n (F.L H2) Y → Rr J H2) → wi σ H1 Rr) (h0 : Pv 0 σ)
    (hs : ∀ i x σ' H1 H2, i < n → Pv i σ' → F.L H H1 → Y i H1 x H2 → F.L H1 H2 ∧ ∀ Q : L2.St → Hp → Prop, (∀ σ'', RunP F tb σ'' H2 (Pv (i + 1)) → Q σ'' H2) → g x σ' H2 Q) : RunP F (tFor wi g tb) σ H (Pv n) := fun H1 e1 D q =>
  hw H1 e1 _ fun H2 e2 w => for_it w (fun i σ' H3 => F.L H2 H3 ∧ Pv i σ') ⟨.refl e2.good, h0⟩ (fun i σ' H3 _ z => z.1)
    (fun i x σ' H3 H4 hi ⟨e3, p⟩ y => by
      obtain ⟨e4, k⟩ := hs i x σ' H3 H4 hi p ((e1.trans e2).trans e3) y
      exact k _ fun σ'' hr => hr H4 (.refl e4.good) _ fun σ3 H5 e5 p5 => ⟨(e3.trans e4).trans e5, p5⟩)
    fun σ' H3 ⟨e3, p⟩ => q σ' H3 (e2.trans e3) p
theorem runP_forT (h : EvD F K te σ H (.tuple ds)) (Pv : Nat → L2.St → Prop) (h0 : Pv 0 σ)
    (hs : ∀ i d x σ' H1, ds[i]? = some d → Pv i σ' → F.L H H1 → Td K H1 x d → RunP F tb (σ'.set j (some x)) H1 (Pv (i + 1))) : RunP F (tFor (iTup K te) (gName j) tb) σ H (Pv ds.length) := fun H1 e1 D q =>
  h H1 e1 _ fun v H2 e2 ⟨d0, e0, p⟩ => by
    subst e0
    obtain ⟨a, xs, rfl, hsq, hx⟩ := p.tupE
    have g2 := e2.good
    refine ⟨a, rfl, ⟨xs, hsq⟩, for_it (walk_tup.mono (G' := F.L H2) (fun H' e => sqt_tl (e.tl g2) hsq) fun _ _ _ _ _ _ y => y) (fun i σ' H3 => F.L H2 H3 ∧ Pv i σ') ⟨.refl g2, h0⟩ (fun i σ' H3 _ z => z.1) ?_ ?_⟩
    · rintro i x σ' H3 H4 hi ⟨e3, p⟩ ⟨rfl, hxi⟩
      obtain ⟨d, hd, td⟩ := hx.getV hxi
      exact hs i d x σ' H4 hd p ((e1.trans e2).trans e3) (td.tl (e3.tl g2)) H4 (.refl e3.good) _ fun σ3 H5 e5 p5 => ⟨e3.trans e5, p5⟩
    · rintro σ' H3 ⟨e3, p⟩
      rw [hx.len] at p
      exact q σ' H3 (e2.trans e3) p
/-- the pair that enumerate makes, into two slots -/
theorem pair_into {k : Nat} {T : Addr} {x y : V} {σ : L2.St} {H : Hp} {Q : L2.St → Hp → Prop} (h : H T = some (.tup [x, y])) (q : Q ((σ.set j (some x)).set k (some y)) H) : gTup K 2 (gCons (gName j) (gCons (gName k) gNil)) (.ref T) σ H Q :=
  ⟨T, [x, y], rfl, .of h, rfl, x, [y], rfl, y, [], rfl, rfl, q⟩
theorem runP_forE {k : Nat} (h : EvD F K te σ H (.tuple ds)) (Pv : Nat → L2.St → Prop) (h0 : Pv 0 σ)
    (hs : ∀ i d x σ' H1, ds[i]? = some d → Pv i σ' → F.L H H1 → Td K H1 x d → RunP F tb ((σ'.set j (some (.int (i : Nat)))).set k (some x)) H1 (Pv (i + 1))) :
    RunP F (tFor (iEnumT K (tCons te tNil)) (gTup K 2 (gCons (gName j) (gCons (gName k) gNil))) tb) σ H (Pv ds.length) := fun H1 e1 D q =>
  h H1 e1 _ fun v H2 e2 ⟨d0, e0, p⟩ => by
    subst e0
    obtain ⟨a, xs, rfl, hsq, hx⟩ := p.tupE
    have g2 := e2.good
    refine ⟨a, xs, rfl, hsq, for_it (walk_enumT.mono (G' := F.L H2) (fun H' e => sqt_tl (e.tl g2) hsq) fun _ _ _ _ _ _ y => y) (fun i σ' H3 => F.L H2 H3 ∧ Pv i σ') ⟨.refl g2, h0⟩ (fun i σ' H3 _ z => z.1) ?_ ?_⟩
    · rintro i x σ' H3 H4 hi ⟨e3, p⟩ ⟨Tp, y, z, rfl, hT, rfl, hy, hz⟩
      obtain ⟨d, hd, td⟩ := hx.getV hz
      cases hy
      have e4 : F.L H3 (upd H3 Tp (.tup [.int (i : Nat), z])) := .new e3.good hT
      refine pair_into upd_same ?_
      exact hs i d z σ' _ hd p (((e1.trans e2).trans e3).trans e4) (td.tl ((e3.trans e4).tl g2)) _ (.refl e4.good) _ fun σ3 H5 e5 p5 => ⟨(e3.trans e4).trans e5, p5⟩
    · rintro σ' H3 ⟨e3, p⟩
      rw [hx.len] at p
      exact q σ' H3 (e2.trans e3) p
/-- over a new list of data -/
theorem runP_forL {H0 : Hp} {φ : List PyData → Prop} (h : Ev F te σ H (.nls K H0 φ)) (Pv : List PyData → Nat → L2.St → Prop) (h0 : ∀ ds, φ ds → Pv ds 0 σ)
    (hs : ∀ ds i d x σ' H1, φ ds → ds[i]? = some d → Pv ds i σ' → F.L H H1 → Td K H1 x d → RunP F tb (σ'.set j (some x)) H1 (Pv ds (i + 1))) : RunP F (tFor (iList K te) (gName j) tb) σ H (fun σ' => ∃ ds, φ ds ∧ Pv ds ds.length σ') := fun H1 e1 D q =>
  h H1 e1 _ fun v H2 e2 ⟨a, xs, ds, ev, _, hsp, hl, hx, hφ⟩ => by
    subst ev
    have g2 := e2.good
    refine ⟨a, rfl, ⟨xs, .of hl⟩, for_it (walk_list.mono (G' := F.L H2) (fun H' e => SqL.of (e.1 _ _ hl hsp)) fun _ _ _ _ _ _ y => y) (fun i σ' H3 => F.L H2 H3 ∧ Pv ds i σ') ⟨.refl g2, h0 ds hφ⟩ (fun i σ' H3 _ z => z.1) ?_ ?_⟩
    · rintro i x σ' H3 H4 hi ⟨e3, p⟩ ⟨rfl, hxi⟩
      obtain ⟨d, hd, td⟩ := hx.getV hxi
      exact hs ds i d x σ' H4 hφ hd p ((e1.trans e2).trans e3) (td.tl (e3.tl g2)) H4 (.refl e3.good) _ fun σ3 H5 e5 p5 => ⟨e3.trans e5, p5⟩
    · rintro σ' H3 ⟨e3, p⟩
      rw [hx.len] at p
      exact q σ' H3 (e2.trans e3) ⟨ds, hφ, p⟩
theorem runP_forLE {k : Nat} {H0 : Hp} {φ : List PyData → Prop} (h : Ev F te σ H (.nls K H0 φ)) (Pv : List PyData → Nat → L2.St → Prop) (h0 : ∀ ds, φ ds → Pv ds 0 σ)
    (hs : ∀ ds i d x σ' H1, φ ds → ds[i]? = some d → Pv ds i σ' → F.L H H1 → Td K H1 x d → RunP F tb ((σ'.set j (some (.int (i : Nat)))).set k (some x)) H1 (Pv ds (i + 1))) :
    RunP F (tFor (iEnum K (tCons te tNil)) (gTup K 2 (gCons (gName j) (gCons (gName k) gNil))) tb) σ H (fun σ' => ∃ ds, φ ds ∧ Pv ds ds.length σ') := fun H1 e1 D q =>
  h H1 e1 _ fun v H2 e2 ⟨a, xs, ds, ev, _, hsp, hl, hx, hφ⟩ => by
    subst ev
    have g2 := e2.good
    refine ⟨a, xs, rfl, .of hl, for_it (walk_enum.mono (G' := F.L H2) (fun H' e => SqL.of (e.1 _ _ hl hsp)) fun _ _ _ _ _ _ y => y) (fun i σ' H3 => F.L H2 H3 ∧ Pv ds i σ') ⟨.refl g2, h0 ds hφ⟩ (fun i σ' H3 _ z => z.1) ?_ ?_⟩
    · rintro i x σ' H3 H4 hi ⟨e3, p⟩ ⟨Tp, y, z, rfl, hT, rfl, hy, hz⟩
      obtain ⟨d, hd, td⟩ := hx.getV hz
      cases hy
      have e4 : F.L H3 (upd H3 Tp (.tup [.int (i : Nat), z])) := .new e3.good hT
      refine pair_into upd_same ?_
      exact hs ds i d z σ' _ hφ hd p (((e1.trans e2).trans e3).trans e4) (td.tl ((e3.trans e4).tl g2)) _ (.refl e4.good) _ fun σ3 H5 e5 p5 => ⟨(e3.trans e4).trans e5, p5⟩
    · rintro σ' H3 ⟨e3, p⟩
      rw [hx.len] at p
      exact q σ' H3 (e2.trans e3) ⟨ds, hφ, p⟩
/-- a comprehension over a new list of data, over enumerate of a tuple -/
theorem ev_lcL {H0 : Hp} {φ : List PyData → Prop} (h : Ev F ta σ H (.nls K H0 φ)) (hn : ∀ ds, φ ds → ds.length ≤ 1000000) (PT : List PyData → Nat → PyData → Prop)
    (turn : ∀ ds i d x H2, φ ds → ds[i]? = some d → F.L H H2 → Td K H2 x d → Ev F te ((wipe σ [j]).set j (some x)) H2 (.dt K (PT ds i))) : Ev F (tLc (iList K ta) (gName j) tYes te [j]) σ H (.nls K H fun es => ∃ ds, φ ds ∧ es.length = ds.length ∧ ∀ i d, es[i]? = some d → PT ds i d) := fun H1 e1 Q q =>
  h H1 e1 _ fun v H2 e2 ⟨a, xs, ds, ev, _, hsp, hl, hx, hφ⟩ => by
    subst ev
    refine ⟨a, rfl, ⟨xs, .of hl⟩, fun D hD => ?_⟩
    have g2 := e2.good
    have hn := hn ds hφ
    rw [← hx.len] at hn
    refine lc_any (F := F) (K := K) (n := xs.length) g2 (walk_list.mono (fun H' e => SqL.of (e.1 _ _ hl hsp)) fun _ _ _ _ _ _ y => y) hD hn (PT ds) ?_ ?_
    · rintro i x H3 H4 hi e3 ⟨rfl, hxi⟩
      obtain ⟨d, hd, td⟩ := hx.getV hxi
      exact ⟨.refl e3.good, fun R hR => hR _ (wipe_one σ j x) (turn ds i d x H4 hφ hd ((e1.trans e2).trans e3) (td.tl (e3.tl g2)))⟩
    · intro H3 ys es e3 hl3 htd hlen hp
      rw [hx.len] at hlen
      exact q _ _ (e2.trans e3) ⟨D, ys, es, rfl, L_back (e1.trans e2) hD, Fm.nosp g2 hD, hl3, htd, ds, hφ, hlen, hp⟩
theorem wipe_two (σ : L2.St) (j k : Nat) (x y : V) (h : j ≠ k) : wipe (((wipe σ [j, k]).set j (some x)).set k (some y)) [j, k] = wipe σ [j, k] := by
  simp only [wipe]
  refine List.ext_getElem? fun i => ?_
  simp only [List.getElem?_set, List.length_set]
  by_cases h1 : j = i <;> by_cases h2 : k = i <;> simp_all
theorem ev_lcE {k : Nat} (hjk : j ≠ k) (h : EvD F K ta σ H (.tuple ds)) (hn : ds.length ≤ 1000000) (PT : Nat → PyData → Prop)
    (turn : ∀ i d x H2, ds[i]? = some d → F.L H H2 → Td K H2 x d → Ev F te (((wipe σ [j, k]).set j (some (.int (i : Nat)))).set k (some x)) H2 (.dt K (PT i))) :
    Ev F (tLc (iEnumT K (tCons ta tNil)) (gTup K 2 (gCons (gName j) (gCons (gName k) gNil))) tYes te [j, k]) σ H (.lcs K H ds.length PT) := fun H1 e1 Q q =>
  h H1 e1 _ fun v H2 e2 ⟨d0, e0, p⟩ => by
    subst e0
    obtain ⟨a, xs, rfl, hsq, hx⟩ := p.tupE
    refine ⟨a, xs, rfl, hsq, fun D hD => ?_⟩
    have g2 := e2.good
    rw [← hx.len] at hn
    refine lc_any (F := F) (K := K) (n := xs.length) g2 (walk_enumT.mono (fun H' e => sqt_tl (e.tl g2) hsq) fun _ _ _ _ _ _ y => y) hD hn PT ?_ ?_
    · rintro i x H3 H4 hi e3 ⟨Tp, y, z, rfl, hT, rfl, hy, hz⟩
      obtain ⟨d, hd, td⟩ := hx.getV hz
      cases hy
      have e4 : F.L H3 (upd H3 Tp (.tup [.int (i : Nat), z])) := .new e3.good hT
      exact ⟨e4, fun R hR => pair_into upd_same (hR _ (wipe_two σ j k _ _ hjk) (turn i d z _ hd (((e1.trans e2).trans e3).trans e4) (td.tl ((e3.trans e4).tl g2))))⟩
    · intro H3 ys es e3 hl htd hlen hp
      rw [hx.len] at hlen
      exact q _ _ (e2.trans e3) ⟨D, ys, es, rfl, L_back (e1.trans e2) hD, Fm.nosp g2 hD, hl, htd, hlen, hp⟩
end
end Oh
set_option maxHeartbeats 4000000
namespace Oh
open PySem PySem.Spec PyProof.Rows L2
open C8 (Cal Met Mak pe_c pe_mk pe_mt pe_mt0 pe_gc InsC call_isC tCut pss_cut fnBody fnArgs fnScope)
/-! ### the text's top statements by name, the facts that the head gives -/
def topS (i : Nat) : Stmt := PySem.Challenge.pw_onlyheard_k91_fixed_play_edits.main.body.getD i (.Pass ⟨0, 0, 0, 0⟩)
abbrev s_is_integer : Stmt := topS 19
abbrev s_is_count : Stmt := topS 20
abbrev s_is_digit : Stmt := topS 21
abbrev s_is_index : Stmt := topS 22
abbrev s_is_name : Stmt := topS 23
abbrev s_is_tuple : Stmt := topS 24
abbrev s_is_path : Stmt := topS 25
abbrev s_is_port_tuple : Stmt := topS 26
abbrev s_is_paired : Stmt := topS 29
abbrev s_is_expression : Stmt := topS 30
abbrev s_expression_names : Stmt := topS 31
abbrev s_is_block_shape : Stmt := topS 33
abbrev s_are_rows : Stmt := topS 34
abbrev s_are_blocks : Stmt := topS 35
abbrev s_is_dealing_shape : Stmt := topS 36
abbrev s_is_if_shape : Stmt := topS 37
abbrev s_is_statement : Stmt := topS 38
abbrev s_blocks_of : Stmt := topS 39
abbrev s_names_of : Stmt := topS 40
abbrev s_ports_of : Stmt := topS 41
abbrev s_listed : Stmt := topS 42
abbrev s_statement_table : Stmt := topS 43
abbrev s_ascending : Stmt := topS 44
abbrev s_block_names : Stmt := topS 45
abbrev s_block_ports : Stmt := topS 46
abbrev s_ways_of : Stmt := topS 48
abbrev s_ways_through : Stmt := topS 49
abbrev s_deals : Stmt := topS 50
abbrev s_is_wrong : Stmt := topS 51
abbrev s_first_wrong : Stmt := topS 52
abbrev s_statement_count : Stmt := topS 53
abbrev s_check_top_block : Stmt := topS 54
abbrev s_Routine_init : Stmt := inClass (topS 56) 0
abbrev s_Routine_eq : Stmt := inClass (topS 56) 1
abbrev s_Routine_open_lines : Stmt := inClass (topS 56) 5
abbrev s_Routine_statement : Stmt := inClass (topS 56) 6
abbrev s_edited : Stmt := topS 58
abbrev s_edited_block : Stmt := topS 59
abbrev s_edited_statement : Stmt := topS 60
abbrev s_edited_open : Stmt := topS 61
abbrev s_edited_rows : Stmt := topS 62
abbrev s_with_picks : Stmt := topS 63
abbrev s_own_routine : Stmt := topS 65
abbrev s_open_counts : Stmt := topS 66
abbrev s_are_picks : Stmt := topS 67
abbrev s_fixed_play : Stmt := topS 68
abbrev s_check_routines : Stmt := topS 71
abbrev s_Play_init : Stmt := inClass (topS 72) 0
abbrev s_Play_routines : Stmt := inClass (topS 72) 1
abbrev s_Play_with_own : Stmt := inClass (topS 72) 5
abbrev s_Play_eq : Stmt := inClass (topS 72) 6
abbrev s_law_pot : Stmt := topS 74
abbrev s_law_mixed : Stmt := topS 75
abbrev s_law_draw : Stmt := topS 76
abbrev s_law_digit : Stmt := topS 77
abbrev s_law_word : Stmt := topS 78
abbrev s_law_cast : Stmt := topS 79
abbrev s_law_digits : Stmt := topS 80
abbrev s_law_picked : Stmt := topS 81
abbrev s_law_test : Stmt := topS 82
abbrev s_law_answers : Stmt := topS 83
abbrev s_law_guess : Stmt := topS 84
abbrev s_law_keys : Stmt := topS 85
abbrev s_law_hide : Stmt := topS 86
abbrev s_law_switch : Stmt := topS 87
abbrev s_law_count : Stmt := topS 88
abbrev s_law_stuck : Stmt := topS 89
abbrev s_law_echo : Stmt := topS 90
abbrev s_law_others : Stmt := topS 91
abbrev s_law_loop : Stmt := topS 92
abbrev s_law_term : Stmt := topS 93
abbrev s_law_deal : Stmt := topS 94
abbrev s_law_free : Stmt := topS 95
abbrev s_law_blocks : Stmt := topS 96
abbrev s_law_game : Stmt := topS 97
abbrev s_law_play : Stmt := topS 98
abbrev s_law_lines : Stmt := topS 99
abbrev s_law_kept : Stmt := topS 100
abbrev s_law_right : Stmt := topS 101
abbrev s_law_picks : Stmt := topS 102
abbrev s_law_kept_of : Stmt := topS 103
abbrev s_law : Stmt := topS 104
def keptS : List Str := ["set", "tell", "hear", "wait", "on", "open", "or", "if", "else", "repeat", "leave", "home", "fail", "end", "plus", "minus", "same", "less", "not", "routine", "own", "over"]
/-- a tuple of the head -/
def SqK (K : PySem.W.Frag) (a : Addr) (xs : List V) : Prop := ∃ (o : Obj) (its : Array Value) (n : Nat), K.lookup a = some o ∧ o.cls = .type "tuple" ∧ o.data = .seq its n ∧ its.size ≤ sizeLine ∧ Vals xs its.toList
def Emp (K : PySem.W.Frag) (a : Addr) : Prop := SqK K a []
structure Tx (w : World) (K : PySem.W.Frag) (mg : Str → Option Value) : Prop where
  g_MOST_STATEMENTS : ∃ u, mg "MOST_STATEMENTS" = some u ∧ RelV (.int 12) u
  g_MOST_DEPTH : ∃ u, mg "MOST_DEPTH" = some u ∧ RelV (.int 12) u
  g_MOST_ROWS : ∃ u, mg "MOST_ROWS" = some u ∧ RelV (.int 4) u
  g_MOST_ROUTINES : ∃ u, mg "MOST_ROUTINES" = some u ∧ RelV (.int 4) u
  g_MOST_DEEP : ∃ u, mg "MOST_DEEP" = some u ∧ RelV (.int 5) u
  g_MOST_ALL : ∃ u, mg "MOST_ALL" = some u ∧ RelV (.int 6000) u
  g_MOST_LETTERS : ∃ u, mg "MOST_LETTERS" = some u ∧ RelV (.int 8) u
  g_LETTERS : ∃ u, mg "LETTERS" = some u ∧ RelV (.str "abcdefghijklmnopqrstuvwxyz") u
  g_KEPT_WORDS : ∃ a, (∃ es n, KDict K w a es n) ∧ (∀ z : Str, keptS.contains z = false → PySem.W.nsIn K a z = some none) ∧ ∃ u, mg "KEPT_WORDS" = some u ∧ RelV (.ref a) u
  d_is_integer : Has K mg "is_integer" s_is_integer []
  d_is_count : Has K mg "is_count" s_is_count []
  d_is_digit : Has K mg "is_digit" s_is_digit []
  d_is_index : Has K mg "is_index" s_is_index []
  d_is_name : Has K mg "is_name" s_is_name []
  d_is_tuple : Has K mg "is_tuple" s_is_tuple []
  d_is_path : Has K mg "is_path" s_is_path []
  d_is_port_tuple : Has K mg "is_port_tuple" s_is_port_tuple []
  g_PAIRED : ∃ a, SqK K a [.str "plus", .str "minus", .str "same", .str "less"] ∧ ∃ u, mg "PAIRED" = some u ∧ RelV (.ref a) u
  d_is_paired : Has K mg "is_paired" s_is_paired []
  d_is_expression : Has K mg "is_expression" s_is_expression [.int 5]
  d_expression_names : Has K mg "expression_names" s_expression_names []
  d_is_block_shape : Has K mg "is_block_shape" s_is_block_shape []
  d_are_rows : Has K mg "are_rows" s_are_rows []
  d_are_blocks : Has K mg "are_blocks" s_are_blocks []
  d_is_dealing_shape : Has K mg "is_dealing_shape" s_is_dealing_shape []
  d_is_if_shape : Has K mg "is_if_shape" s_is_if_shape []
  d_is_statement : Has K mg "is_statement" s_is_statement []
  d_blocks_of : Has K mg "blocks_of" s_blocks_of []
  d_names_of : Has K mg "names_of" s_names_of []
  d_ports_of : Has K mg "ports_of" s_ports_of []
  d_listed : ∃ e, Emp K e ∧ Has K mg "listed" s_listed [.ref e]
  d_statement_table : Has K mg "statement_table" s_statement_table []
  d_ascending : Has K mg "ascending" s_ascending []
  d_block_names : Has K mg "block_names" s_block_names []
  d_block_ports : Has K mg "block_ports" s_block_ports []
  d_ways_of : Has K mg "ways_of" s_ways_of []
  d_ways_through : Has K mg "ways_through" s_ways_through []
  d_deals : Has K mg "deals" s_deals [.int 2]
  d_is_wrong : Has K mg "is_wrong" s_is_wrong []
  d_first_wrong : ∃ e, Emp K e ∧ Has K mg "first_wrong" s_first_wrong [.ref e, .int 1, .bl false]
  d_statement_count : Has K mg "statement_count" s_statement_count []
  d_check_top_block : Has K mg "check_top_block" s_check_top_block []
  d_edited : Has K mg "edited" s_edited []
  d_edited_block : Has K mg "edited_block" s_edited_block []
  d_edited_statement : Has K mg "edited_statement" s_edited_statement []
  d_edited_open : Has K mg "edited_open" s_edited_open []
  d_edited_rows : Has K mg "edited_rows" s_edited_rows []
  d_with_picks : Has K mg "with_picks" s_with_picks []
  d_own_routine : Has K mg "own_routine" s_own_routine []
  d_open_counts : Has K mg "open_counts" s_open_counts []
  d_are_picks : Has K mg "are_picks" s_are_picks []
  d_fixed_play : Has K mg "fixed_play" s_fixed_play []
  g_LEAST_ROUTINES : ∃ u, mg "LEAST_ROUTINES" = some u ∧ RelV (.int 2) u
  d_check_routines : Has K mg "check_routines" s_check_routines []
  d_law_pot : Has K mg "_law_pot" s_law_pot []
  d_law_mixed : Has K mg "_law_mixed" s_law_mixed []
  d_law_draw : Has K mg "_law_draw" s_law_draw []
  d_law_digit : Has K mg "_law_digit" s_law_digit []
  d_law_word : Has K mg "_law_word" s_law_word []
  d_law_cast : Has K mg "_law_cast" s_law_cast []
  d_law_digits : Has K mg "_law_digits" s_law_digits []
  d_law_picked : Has K mg "_law_picked" s_law_picked []
  d_law_test : Has K mg "_law_test" s_law_test []
  d_law_answers : Has K mg "_law_answers" s_law_answers []
  d_law_guess : Has K mg "_law_guess" s_law_guess []
  d_law_keys : Has K mg "_law_keys" s_law_keys []
  d_law_hide : Has K mg "_law_hide" s_law_hide []
  d_law_switch : Has K mg "_law_switch" s_law_switch []
  d_law_count : Has K mg "_law_count" s_law_count []
  d_law_stuck : Has K mg "_law_stuck" s_law_stuck []
  d_law_echo : Has K mg "_law_echo" s_law_echo []
  d_law_others : Has K mg "_law_others" s_law_others []
  d_law_loop : Has K mg "_law_loop" s_law_loop []
  d_law_term : Has K mg "_law_term" s_law_term []
  d_law_deal : Has K mg "_law_deal" s_law_deal []
  d_law_free : Has K mg "_law_free" s_law_free []
  d_law_blocks : Has K mg "_law_blocks" s_law_blocks []
  d_law_game : Has K mg "_law_game" s_law_game []
  d_law_play : Has K mg "_law_play" s_law_play []
  d_law_lines : Has K mg "_law_lines" s_law_lines []
  d_law_kept : Has K mg "_law_kept" s_law_kept []
  d_law_right : Has K mg "_law_right" s_law_right []
  d_law_picks : Has K mg "_law_picks" s_law_picks []
  d_law_kept_of : Has K mg "_law_kept_of" s_law_kept_of []
  d_law : Has K mg "law" s_law []
  z_isinstance : mg "isinstance" = none
  z_len : mg "len" = none
  z_range : mg "range" = none
  z_enumerate : mg "enumerate" = none
  z_zip : mg "zip" = none
  z_sorted : mg "sorted" = none
  z_list : mg "list" = none
  z_tuple : mg "tuple" = none
  z_dict : mg "dict" = none
  z_any : mg "any" = none
  z_int : mg "int" = none
  z_str : mg "str" = none
  z_bool : mg "bool" = none
  z_max : mg "max" = none
  z_sum : mg "sum" = none
end Oh
set_option maxHeartbeats 0
namespace Oh
open PySem PySem.Spec PyProof.Rows L2
open C8 (Cal Met Mak pe_c pe_mk pe_mt pe_mt0 pe_gc InsC call_isC tCut pss_cut fnBody fnArgs fnScope)
open LamX NdefX
/-! ### the head's facts, by a short list of addresses -/
/-- the objects that an object names, as far as the facts ask -/
def nxO : Obj → List Addr
  | ⟨_, _, .func fd, _⟩ => He.refV fd.code ++ He.refV fd.defaults
  | ⟨_, _, .cls cd, _⟩ => [cd.ns]
  | ⟨_, _, .dict es _, _⟩ => es.toList.flatMap fun e => He.refV e.val
  | ⟨.type t, _, .seq its _, _⟩ => match decide (t = "tuple") with
    | true => its.toList.flatMap He.refV
    | false => []
  | ⟨.type t, _, .fields vs, _⟩ => match decide (t = "property") with
    | true => vs.toList.flatMap He.refV
    | false => []
  | _ => []
def nxA (g : Addr → Option Obj) (as : List Addr) : List Addr := as.flatMap fun a => match g a with
  | some o => nxO o
  | none => []
def zL (g : Addr → Option Obj) : List Addr :=
  let l1 := nxA g [mainGlobals]
  let l2 := nxA g l1
  let l3 := nxA g l2
  let l4 := nxA g l3
  mainGlobals :: (l1 ++ (l2 ++ (l3 ++ (l4 ++ nxA g l4))))
abbrev kz (g : Addr → Option Obj) : PySem.W.Frag := He.frT g (zL g)
/-- the getter of Play.routines -/
def gRt (K : PySem.W.Frag) : Addr := match PySem.W.recIn K (He.ma K (He.ga K "Play") "routines") "property" with
  | some (.ref g :: _) => g
  | _ => 0
def fnA (K : PySem.W.Frag) (g : Addr) : He.FnW := match K.lookup g with
  | some ⟨_, _, .func fd, _⟩ => some (fd.name, fd.qualname, fd.params, fd.body, fd.scope, fd.globals, fd.closure, fd.builtins)
  | _ => none
def fnRt : He.FnW := some ("routines", "Play.routines", defArgs s_Play_routines, .stmts (defBody s_Play_routines), defScope s_Play_routines, mainGlobals, [], builtinsNs)
def insB (K : PySem.W.Frag) (C : Addr) : Bool := He.eqO (PySem.W.findIn K (.ref C) "__class__") (some (some (.builtin "object.__class__"))) && (He.eqO (PySem.W.specialIn K (.builtin "object.__class__") "__get__") (some (some (.builtin "getset_descriptor.__get__"))) &&
  (decide (PySem.W.takesIn K (.builtin "object.__class__") = some true) && (decide (PySem.W.mroIn K C (.type "object") = some true) && decide (PySem.W.kitOne K (.ref C) (.ref C) = some true))))
def neB (K : PySem.W.Frag) (C : Addr) : Bool := He.eqO (PySem.W.findIn K (.ref C) "__ne__") (some (some (.builtin "object.__ne__"))) && decide (PySem.W.mroIn K C (.type "object") = some true)
def propB (K : PySem.W.Frag) : Bool :=
  let p := He.ma K (He.ga K "Play") "routines"
  He.eqO (PySem.W.findIn K (.ref (He.ga K "Play")) "routines") (some (some (.ref p))) && (He.eqO (PySem.W.specialIn K (.ref p) "__get__") (some (some (.builtin "property.__get__"))) && (decide (PySem.W.takesIn K (.ref p) = some true) &&
    ((match PySem.W.recIn K p "property" with
      | some (.ref _ :: _) => true
      | _ => false) && (PySem.W.keepIn K (.ref (gRt K)) && (match K.lookup (gRt K) with
        | some ⟨_, _, .func fd, _⟩ => PySem.W.codeIn K fd.code "Play.routines" && (He.dflB K fd.defaults [] && He.kwdB K fd.kwdefaults [])
        | _ => false)))))
def empB (K : PySem.W.Frag) (a : Addr) : Bool := match K.lookup a with
  | some ⟨.type c, _, .seq its _, _⟩ => decide (c = "tuple") && its.toList.isEmpty
  | _ => false
def fa0 : List He.Fa := [.int "MOST_STATEMENTS" 12, .int "MOST_DEPTH" 12, .int "MOST_ROWS" 4, .int "MOST_ROUTINES" 4, .int "MOST_DEEP" 5, .int "MOST_ALL" 6000, .int "MOST_LETTERS" 8, .str "LETTERS" "abcdefghijklmnopqrstuvwxyz", .glo "KEPT_WORDS", .glo "is_integer", .glo "is_count", .glo "is_digit", .glo "is_index", .glo "is_name", .glo "is_tuple", .glo "is_path", .glo "is_port_tuple", .glo "PAIRED", .glo "is_paired", .glo "is_expression", .glo "expression_names", .glo "is_block_shape", .glo "are_rows", .glo "are_blocks", .glo "is_dealing_shape", .glo "is_if_shape", .glo "is_statement", .glo "blocks_of", .glo "names_of", .glo "ports_of"]
def fa1 : List He.Fa := [.glo "listed", .glo "statement_table", .glo "ascending", .glo "block_names", .glo "block_ports", .glo "ways_of", .glo "ways_through", .glo "deals", .glo "is_wrong", .glo "first_wrong", .glo "statement_count", .glo "check_top_block", .meth "Routine" "__init__", .meth "Routine" "__eq__", .meth "Routine" "open_lines", .meth "Routine" "statement", .glo "Routine", .cls "Routine", .mkr "Routine", .glo "edited", .glo "edited_block", .glo "edited_statement", .glo "edited_open", .glo "edited_rows", .glo "with_picks", .glo "own_routine", .glo "open_counts", .glo "are_picks", .glo "fixed_play", .int "LEAST_ROUTINES" 2]
def fa2 : List He.Fa := [.glo "check_routines", .meth "Play" "__init__", .meth "Play" "with_own", .meth "Play" "__eq__", .glo "Play", .cls "Play", .mkr "Play", .glo "_law_pot", .glo "_law_mixed", .glo "_law_draw", .glo "_law_digit", .glo "_law_word", .glo "_law_cast", .glo "_law_digits", .glo "_law_picked", .glo "_law_test", .glo "_law_answers", .glo "_law_guess", .glo "_law_keys", .glo "_law_hide", .glo "_law_switch", .glo "_law_count", .glo "_law_stuck", .glo "_law_echo", .glo "_law_others", .glo "_law_loop", .glo "_law_term", .glo "_law_deal", .glo "_law_free", .glo "_law_blocks"]
def fa3 : List He.Fa := [.glo "_law_game", .glo "_law_play", .glo "_law_lines", .glo "_law_kept", .glo "_law_right", .glo "_law_picks", .glo "_law_kept_of", .glo "law", .noat "Routine" "block", .noat "Routine" "table", .noat "Routine" "name_list", .noat "Routine" "port_list", .noat "Play" "own", .noat "Play" "over", .noat "Play" "line", .noat "Play" "members", .noat "Play" "own_at", .free "isinstance", .free "len", .free "range", .free "enumerate", .free "zip", .free "sorted", .free "list", .free "tuple", .free "dict", .free "any", .free "int", .free "str", .free "bool"]
def fa4 : List He.Fa := [.free "max", .free "sum"]
def fa : List He.Fa := fa0 ++ fa1 ++ fa2 ++ fa3 ++ fa4
def fn0 : List He.DefD := [⟨("is_integer", none), "is_integer", "is_integer", defArgs s_is_integer, defBody s_is_integer, defScope s_is_integer, [], []⟩,
  ⟨("is_count", none), "is_count", "is_count", defArgs s_is_count, defBody s_is_count, defScope s_is_count, [], []⟩,
  ⟨("is_digit", none), "is_digit", "is_digit", defArgs s_is_digit, defBody s_is_digit, defScope s_is_digit, [], []⟩,
  ⟨("is_index", none), "is_index", "is_index", defArgs s_is_index, defBody s_is_index, defScope s_is_index, [], []⟩,
  ⟨("is_name", none), "is_name", "is_name", defArgs s_is_name, defBody s_is_name, defScope s_is_name, [], []⟩,
  ⟨("is_tuple", none), "is_tuple", "is_tuple", defArgs s_is_tuple, defBody s_is_tuple, defScope s_is_tuple, [], []⟩,
  ⟨("is_path", none), "is_path", "is_path", defArgs s_is_path, defBody s_is_path, defScope s_is_path, [], []⟩,
  ⟨("is_port_tuple", none), "is_port_tuple", "is_port_tuple", defArgs s_is_port_tuple, defBody s_is_port_tuple, defScope s_is_port_tuple, [], []⟩,
  ⟨("is_paired", none), "is_paired", "is_paired", defArgs s_is_paired, defBody s_is_paired, defScope s_is_paired, [], []⟩,
  ⟨("is_expression", none), "is_expression", "is_expression", defArgs s_is_expression, defBody s_is_expression, defScope s_is_expression, [.int 5], []⟩]
def fn1 : List He.DefD := [⟨("expression_names", none), "expression_names", "expression_names", defArgs s_expression_names, defBody s_expression_names, defScope s_expression_names, [], []⟩,
  ⟨("is_block_shape", none), "is_block_shape", "is_block_shape", defArgs s_is_block_shape, defBody s_is_block_shape, defScope s_is_block_shape, [], []⟩,
  ⟨("are_rows", none), "are_rows", "are_rows", defArgs s_are_rows, defBody s_are_rows, defScope s_are_rows, [], []⟩,
  ⟨("are_blocks", none), "are_blocks", "are_blocks", defArgs s_are_blocks, defBody s_are_blocks, defScope s_are_blocks, [], []⟩,
  ⟨("is_dealing_shape", none), "is_dealing_shape", "is_dealing_shape", defArgs s_is_dealing_shape, defBody s_is_dealing_shape, defScope s_is_dealing_shape, [], []⟩,
  ⟨("is_if_shape", none), "is_if_shape", "is_if_shape", defArgs s_is_if_shape, defBody s_is_if_shape, defScope s_is_if_shape, [], []⟩,
  ⟨("is_statement", none), "is_statement", "is_statement", defArgs s_is_statement, defBody s_is_statement, defScope s_is_statement, [], []⟩,
  ⟨("blocks_of", none), "blocks_of", "blocks_of", defArgs s_blocks_of, defBody s_blocks_of, defScope s_blocks_of, [], []⟩,
  ⟨("names_of", none), "names_of", "names_of", defArgs s_names_of, defBody s_names_of, defScope s_names_of, [], []⟩,
  ⟨("ports_of", none), "ports_of", "ports_of", defArgs s_ports_of, defBody s_ports_of, defScope s_ports_of, [], []⟩]
def fn2 : List He.DefD := [⟨("listed", none), "listed", "listed", defArgs s_listed, defBody s_listed, defScope s_listed, [.adr (He.dflAt ("listed", none) 0)], []⟩,
  ⟨("statement_table", none), "statement_table", "statement_table", defArgs s_statement_table, defBody s_statement_table, defScope s_statement_table, [], []⟩,
  ⟨("ascending", none), "ascending", "ascending", defArgs s_ascending, defBody s_ascending, defScope s_ascending, [], []⟩,
  ⟨("block_names", none), "block_names", "block_names", defArgs s_block_names, defBody s_block_names, defScope s_block_names, [], []⟩,
  ⟨("block_ports", none), "block_ports", "block_ports", defArgs s_block_ports, defBody s_block_ports, defScope s_block_ports, [], []⟩,
  ⟨("ways_of", none), "ways_of", "ways_of", defArgs s_ways_of, defBody s_ways_of, defScope s_ways_of, [], []⟩,
  ⟨("ways_through", none), "ways_through", "ways_through", defArgs s_ways_through, defBody s_ways_through, defScope s_ways_through, [], []⟩,
  ⟨("deals", none), "deals", "deals", defArgs s_deals, defBody s_deals, defScope s_deals, [.int 2], []⟩,
  ⟨("is_wrong", none), "is_wrong", "is_wrong", defArgs s_is_wrong, defBody s_is_wrong, defScope s_is_wrong, [], []⟩,
  ⟨("first_wrong", none), "first_wrong", "first_wrong", defArgs s_first_wrong, defBody s_first_wrong, defScope s_first_wrong, [.adr (He.dflAt ("first_wrong", none) 0), .int 1, .bl false], []⟩]
def fn3 : List He.DefD := [⟨("statement_count", none), "statement_count", "statement_count", defArgs s_statement_count, defBody s_statement_count, defScope s_statement_count, [], []⟩,
  ⟨("check_top_block", none), "check_top_block", "check_top_block", defArgs s_check_top_block, defBody s_check_top_block, defScope s_check_top_block, [], []⟩,
  ⟨("Routine", some "__init__"), "__init__", "Routine.__init__", defArgs s_Routine_init, defBody s_Routine_init, defScope s_Routine_init, [], []⟩,
  ⟨("Routine", some "__eq__"), "__eq__", "Routine.__eq__", defArgs s_Routine_eq, defBody s_Routine_eq, defScope s_Routine_eq, [], []⟩,
  ⟨("Routine", some "open_lines"), "open_lines", "Routine.open_lines", defArgs s_Routine_open_lines, defBody s_Routine_open_lines, defScope s_Routine_open_lines, [], []⟩,
  ⟨("Routine", some "statement"), "statement", "Routine.statement", defArgs s_Routine_statement, defBody s_Routine_statement, defScope s_Routine_statement, [], []⟩,
  ⟨("edited", none), "edited", "edited", defArgs s_edited, defBody s_edited, defScope s_edited, [], []⟩,
  ⟨("edited_block", none), "edited_block", "edited_block", defArgs s_edited_block, defBody s_edited_block, defScope s_edited_block, [], []⟩,
  ⟨("edited_statement", none), "edited_statement", "edited_statement", defArgs s_edited_statement, defBody s_edited_statement, defScope s_edited_statement, [], []⟩,
  ⟨("edited_open", none), "edited_open", "edited_open", defArgs s_edited_open, defBody s_edited_open, defScope s_edited_open, [], []⟩]
def fn4 : List He.DefD := [⟨("edited_rows", none), "edited_rows", "edited_rows", defArgs s_edited_rows, defBody s_edited_rows, defScope s_edited_rows, [], []⟩,
  ⟨("with_picks", none), "with_picks", "with_picks", defArgs s_with_picks, defBody s_with_picks, defScope s_with_picks, [], []⟩,
  ⟨("own_routine", none), "own_routine", "own_routine", defArgs s_own_routine, defBody s_own_routine, defScope s_own_routine, [], []⟩,
  ⟨("open_counts", none), "open_counts", "open_counts", defArgs s_open_counts, defBody s_open_counts, defScope s_open_counts, [], []⟩,
  ⟨("are_picks", none), "are_picks", "are_picks", defArgs s_are_picks, defBody s_are_picks, defScope s_are_picks, [], []⟩,
  ⟨("fixed_play", none), "fixed_play", "fixed_play", defArgs s_fixed_play, defBody s_fixed_play, defScope s_fixed_play, [], []⟩,
  ⟨("check_routines", none), "check_routines", "check_routines", defArgs s_check_routines, defBody s_check_routines, defScope s_check_routines, [], []⟩,
  ⟨("Play", some "__init__"), "__init__", "Play.__init__", defArgs s_Play_init, defBody s_Play_init, defScope s_Play_init, [.adr (He.dflAt ("Play", some "__init__") 0)], []⟩,
  ⟨("Play", some "with_own"), "with_own", "Play.with_own", defArgs s_Play_with_own, defBody s_Play_with_own, defScope s_Play_with_own, [], []⟩,
  ⟨("Play", some "__eq__"), "__eq__", "Play.__eq__", defArgs s_Play_eq, defBody s_Play_eq, defScope s_Play_eq, [], []⟩]
def fn5 : List He.DefD := [⟨("_law_pot", none), "_law_pot", "_law_pot", defArgs s_law_pot, defBody s_law_pot, defScope s_law_pot, [], []⟩,
  ⟨("_law_mixed", none), "_law_mixed", "_law_mixed", defArgs s_law_mixed, defBody s_law_mixed, defScope s_law_mixed, [], []⟩,
  ⟨("_law_draw", none), "_law_draw", "_law_draw", defArgs s_law_draw, defBody s_law_draw, defScope s_law_draw, [], []⟩,
  ⟨("_law_digit", none), "_law_digit", "_law_digit", defArgs s_law_digit, defBody s_law_digit, defScope s_law_digit, [], []⟩,
  ⟨("_law_word", none), "_law_word", "_law_word", defArgs s_law_word, defBody s_law_word, defScope s_law_word, [], []⟩,
  ⟨("_law_cast", none), "_law_cast", "_law_cast", defArgs s_law_cast, defBody s_law_cast, defScope s_law_cast, [], []⟩,
  ⟨("_law_digits", none), "_law_digits", "_law_digits", defArgs s_law_digits, defBody s_law_digits, defScope s_law_digits, [], []⟩,
  ⟨("_law_picked", none), "_law_picked", "_law_picked", defArgs s_law_picked, defBody s_law_picked, defScope s_law_picked, [], []⟩,
  ⟨("_law_test", none), "_law_test", "_law_test", defArgs s_law_test, defBody s_law_test, defScope s_law_test, [], []⟩,
  ⟨("_law_answers", none), "_law_answers", "_law_answers", defArgs s_law_answers, defBody s_law_answers, defScope s_law_answers, [], []⟩]
def fn6 : List He.DefD := [⟨("_law_guess", none), "_law_guess", "_law_guess", defArgs s_law_guess, defBody s_law_guess, defScope s_law_guess, [], []⟩,
  ⟨("_law_keys", none), "_law_keys", "_law_keys", defArgs s_law_keys, defBody s_law_keys, defScope s_law_keys, [], []⟩,
  ⟨("_law_hide", none), "_law_hide", "_law_hide", defArgs s_law_hide, defBody s_law_hide, defScope s_law_hide, [], []⟩,
  ⟨("_law_switch", none), "_law_switch", "_law_switch", defArgs s_law_switch, defBody s_law_switch, defScope s_law_switch, [], []⟩,
  ⟨("_law_count", none), "_law_count", "_law_count", defArgs s_law_count, defBody s_law_count, defScope s_law_count, [], []⟩,
  ⟨("_law_stuck", none), "_law_stuck", "_law_stuck", defArgs s_law_stuck, defBody s_law_stuck, defScope s_law_stuck, [], []⟩,
  ⟨("_law_echo", none), "_law_echo", "_law_echo", defArgs s_law_echo, defBody s_law_echo, defScope s_law_echo, [], []⟩,
  ⟨("_law_others", none), "_law_others", "_law_others", defArgs s_law_others, defBody s_law_others, defScope s_law_others, [], []⟩,
  ⟨("_law_loop", none), "_law_loop", "_law_loop", defArgs s_law_loop, defBody s_law_loop, defScope s_law_loop, [], []⟩,
  ⟨("_law_term", none), "_law_term", "_law_term", defArgs s_law_term, defBody s_law_term, defScope s_law_term, [], []⟩]
def fn7 : List He.DefD := [⟨("_law_deal", none), "_law_deal", "_law_deal", defArgs s_law_deal, defBody s_law_deal, defScope s_law_deal, [], []⟩,
  ⟨("_law_free", none), "_law_free", "_law_free", defArgs s_law_free, defBody s_law_free, defScope s_law_free, [], []⟩,
  ⟨("_law_blocks", none), "_law_blocks", "_law_blocks", defArgs s_law_blocks, defBody s_law_blocks, defScope s_law_blocks, [], []⟩,
  ⟨("_law_game", none), "_law_game", "_law_game", defArgs s_law_game, defBody s_law_game, defScope s_law_game, [], []⟩,
  ⟨("_law_play", none), "_law_play", "_law_play", defArgs s_law_play, defBody s_law_play, defScope s_law_play, [], []⟩,
  ⟨("_law_lines", none), "_law_lines", "_law_lines", defArgs s_law_lines, defBody s_law_lines, defScope s_law_lines, [], []⟩,
  ⟨("_law_kept", none), "_law_kept", "_law_kept", defArgs s_law_kept, defBody s_law_kept, defScope s_law_kept, [], []⟩,
  ⟨("_law_right", none), "_law_right", "_law_right", defArgs s_law_right, defBody s_law_right, defScope s_law_right, [], []⟩,
  ⟨("_law_picks", none), "_law_picks", "_law_picks", defArgs s_law_picks, defBody s_law_picks, defScope s_law_picks, [], []⟩,
  ⟨("_law_kept_of", none), "_law_kept_of", "_law_kept_of", defArgs s_law_kept_of, defBody s_law_kept_of, defScope s_law_kept_of, [], []⟩]
def fn8 : List He.DefD := [⟨("law", none), "law", "law", defArgs s_law, defBody s_law, defScope s_law, [], []⟩]
def fn : List He.DefD := fn0 ++ fn1 ++ fn2 ++ fn3 ++ fn4 ++ fn5 ++ fn6 ++ fn7 ++ fn8
def ts : List He.Tab := [(fun K => He.ga K "KEPT_WORDS", keptS)]
def tf : List He.Defn := [("with_picks", none)]
def emps : List (Str × Option Str) := [("listed", none), ("first_wrong", none), ("Play", some "__init__")]
def exZ (K : PySem.W.Frag) : Bool := (emps.all fun f => empB K (He.dflAt f 0 K)) && (He.tupB K "PAIRED" [.str "plus", .str "minus", .str "same", .str "less"] && (insB K (He.ga K "Routine") && (insB K (He.ga K "Play") && (neB K (He.ga K "Play") && propB K))))
abbrev AlZ : Type := He.AlX × He.FnW
def obsZ (g : Addr → Option Obj) : AlZ :=
  let K := kz g
  ((He.obsT fa fn ts K, exZ K && He.tabsB g tf K), fnA K (gRt K))
structure SaysZ (w : World) (h : Heap) (K : PySem.W.Frag) : Prop where
  x : He.SaysX fa fn ts tf exZ w h K
  rt : fnA K (gRt K) = fnRt
theorem saysZ {w : World} {h : Heap} (e0 : obsZ h.get? = (He.valX fn ts w, fnRt)) : SaysZ w h (kz h.get?) := by
  obtain ⟨e, er⟩ := Prod.mk.inj (show ((He.obsT fa fn ts (kz h.get?), exZ (kz h.get?) && He.tabsB h.get? tf (kz h.get?)), fnA (kz h.get?) (gRt (kz h.get?))) = ((He.valT fn ts w, true), fnRt) from e0)
  obtain ⟨e1, e2⟩ := Prod.mk.inj e
  obtain ⟨m1, m2⟩ := Bool.and_eq_true_iff.mp e2
  have tabs : ∀ p ∈ tf, PySem.W.codeHdIn (kz h.get?) (He.cT (kz h.get?) p).1 (He.cT (kz h.get?) p).2 = true ∧ ∃ o, h.get? (He.cT (kz h.get?) p).2 = some o ∧ He.emptyTab o = true := by
    intro p hp
    obtain ⟨t1, t2⟩ := Bool.and_eq_true_iff.mp (List.all_eq_true.mp m2 p hp)
    cases q : h.get? (He.cT (kz h.get?) p).2 with
    | none => simp only [q] at t2; cases t2
    | some o => simp only [q] at t2; exact ⟨t1, o, rfl, t2⟩
  refine ⟨⟨e1, m1, fun p hp => (tabs p hp).1, fun p hp => ?_, fun p hp => ?_⟩, er⟩
  · obtain ⟨_, o, q, z⟩ := tabs p hp
    exact He.frT_none q z
  · obtain ⟨_, o, q, z⟩ := tabs p hp
    rw [q, He.emptyTab_eq z]
def hookZ : PySem.W.Hook where
  α := AlZ
  obs := fun s => obsZ s.heap.get?
  val := fun w => (He.valX fn ts w, fnRt)
  says := fun w h => ∃ K : PySem.W.Frag, K.In h ∧ SaysZ w h K
  of := fun _ _ e => ⟨_, He.frT_in, saysZ e⟩
  keeps := fun _ _ _ q k => match q with
    | ⟨K, hK, c⟩ => ⟨K, hK.keeps k, { x := { t := c.x.t, more := c.x.more, hd := c.x.hd, out := c.x.out, empty := fun p hp => k _ _ (c.x.empty p hp) }, rt := c.rt }⟩
theorem obsZ_eq {g : Addr → Option Obj} {s : Shared} (h : ∀ a, g a = s.heap.get? a) : obsZ g = hookZ.obs s := by rw [show g = s.heap.get? from funext h]; rfl
abbrev RW0 : PySem.W.OpenRow := PySem.W.OpenLaw.row PySem.Challenge.rw_onlyheard_k91_fixed_play_edits
def ob (s : PySem.W.SharedT) : AlZ := obsZ (HandSHeadRun.getT s)
theorem ob_eq (s : PySem.W.SharedT) : ob s = hookZ.obs s.abs := obsZ_eq (HandSHeadRun.getT_eq s)
def nm0 : List Str := ["_wall", "HeardError", "BadRoutine", "NoPath", "BadRoutines", "BadOwn", "BadOver", "BadPicks", "MOST_STATEMENTS", "MOST_DEPTH", "MOST_ROWS", "MOST_ROUTINES", "MOST_DEEP", "MOST_ALL", "MOST_LETTERS", "LETTERS", "KEPT_WORDS", "is_integer", "is_count", "is_digit", "is_index", "is_name", "is_tuple", "is_path", "is_port_tuple", "PAIRED", "is_paired", "is_expression", "expression_names", "is_block_shape"]
def nm1 : List Str := ["are_rows", "are_blocks", "is_dealing_shape", "is_if_shape", "is_statement", "blocks_of", "names_of", "ports_of", "listed", "statement_table", "ascending", "block_names", "block_ports", "ways_of", "ways_through", "deals", "is_wrong", "first_wrong", "statement_count", "check_top_block", "Routine", "edited", "edited_block", "edited_statement", "edited_open", "edited_rows", "with_picks", "own_routine", "open_counts", "are_picks"]
def nm2 : List Str := ["fixed_play", "LEAST_ROUTINES", "check_routines", "Play", "_law_pot", "_law_mixed", "_law_draw", "_law_digit", "_law_word", "_law_cast", "_law_digits", "_law_picked", "_law_test", "_law_answers", "_law_guess", "_law_keys", "_law_hide", "_law_switch", "_law_count", "_law_stuck", "_law_echo", "_law_others", "_law_loop", "_law_term", "_law_deal", "_law_free", "_law_blocks", "_law_game", "_law_play", "_law_lines"]
def nm3 : List Str := ["_law_kept", "_law_right", "_law_picks", "_law_kept_of"]
def nms : List Str := nm0 ++ nm1 ++ nm2 ++ nm3
theorem run_no (w : World) : HandSHeadRun.RunEq RW0 (PySem.W.view RW0.prog [104]) hookZ ob 12000 nms (w.withFollow "special-get-raises" false) := fun os => by kernel_rfl
theorem run_yes (w : World) : HandSHeadRun.RunEq RW0 (PySem.W.view RW0.prog [104]) hookZ ob 12000 nms (w.withFollow "special-get-raises" true) := fun os => by kernel_rfl
theorem run (w : World) : HandSHeadRun.RunEq RW0 (PySem.W.view RW0.prog [104]) hookZ ob 12000 nms w := PySem.W.byRow2 "special-get-raises" (P := fun w => HandSHeadRun.RunEq RW0 (PySem.W.view RW0.prog [104]) hookZ ob 12000 nms w) run_no run_yes w
end Oh
set_option maxHeartbeats 4000000
namespace Oh
open PySem PySem.Spec PyProof.Rows L2
open C8 (Cal Met Mak pe_c pe_mk pe_mt pe_mt0 pe_gc InsC call_isC tCut pss_cut fnBody fnArgs fnScope)
section
variable {P : Program} {w : World} {K : PySem.W.Frag} {mg : Str → Option Value} {base : Heap}
/-! ### values.py -/
theorem qb {Q : VK} {H : Hp} {u v : V} (h : v = u) (q : Q u H) : Q v H := by rw [h]; exact q
def spIsInt (K : PySem.W.Frag) : Sp := fun vs H Q _ => ∃ v b, vs = [v] ∧ ((∃ i, v = .int i) ∧ b = true ∨ TyX K H v (.type "tuple") ∧ b = false) ∧ Q (.bl b) H
theorem sc_is_integer : FnScope ["value"] ["value"] (fnScope s_is_integer) := ⟨rfl, rfl, rfl, by decide +kernel, rfl, by decide +kernel, by decide +kernel⟩
theorem c_is_integer (T : Tx w K mg) : Cal P w K mg base 1 "is_integer" (spIsInt K) [] := by
  refine T.d_is_integer.cal sc_is_integer (fun F => ⟨[], .nil, F.bindsN fun _ _ _ _ _ _ us hl => match us, hl with | [_], _ => rfl⟩) (by rintro vs H Q E ⟨v, b, rfl, _⟩; rfl) fun f cdv A outer s H vs Q E hr h => ?_
  obtain ⟨v, b, rfl, hv, hQ⟩ := h
  refine ⟨_, (pss_one (ps_ret (pe_and (pe_callB call_isi rfl T.z_isinstance (by decide +kernel) (pa_cons (pv 0) (pa_cons (pe_bltn (v := .ty "int") (u := .type "int") rfl T.z_int (by decide +kernel) rfl) pa_nil))) (pe_one (pe_not (pe_callB call_isi rfl T.z_isinstance (by decide +kernel) (pa_cons (pv 0) (pa_cons (pe_bltn (v := .ty "bool") (u := .type "bool") rfl T.z_bool (by decide +kernel) rfl) pa_nil)))))))), ?_⟩
  rcases hv with ⟨⟨i, rfl⟩, rfl⟩ | ⟨hv, rfl⟩
  · exact ⟨_, rfl, _, _, _, _, true, rfl, .ty _, .base (.int _), kit_ty (by decide +kernel), true, rfl, _, rfl, _, _, _, _, false, rfl, .ty _, .base (.int _), kit_ty (by decide +kernel), false, rfl, hQ⟩
  · exact ⟨_, rfl, _, _, _, _, false, rfl, .ty _, hv, kit_ty (by decide +kernel), false, rfl, hQ⟩
def spCount : Sp := fun vs H Q _ => ∃ i : Int, vs = [.int i] ∧ Q (.bl (decide (0 ≤ i))) H
theorem sc_is_count : FnScope ["value"] ["value"] (fnScope s_is_count) := ⟨rfl, rfl, rfl, by decide +kernel, rfl, by decide +kernel, by decide +kernel⟩
theorem c_is_count (T : Tx w K mg) : Cal P w K mg base 2 "is_count" spCount [] := by
  have c_is_integer := c_is_integer (P := P) (base := base) T
  refine T.d_is_count.cal sc_is_count (fun F => ⟨[], .nil, F.bindsN fun _ _ _ _ _ _ us hl => match us, hl with | [_], _ => rfl⟩) (by rintro vs H Q E ⟨v, rfl, _⟩; rfl) fun f cdv A outer s H vs Q E hr h => ?_
  obtain ⟨i, rfl, hQ⟩ := h
  refine ⟨_, (pss_one (ps_ret (pe_and (pe_c c_is_integer hr (by omega) rfl (pa_cons (pv 0) pa_nil)) (pe_one (pe_cmpR op_ge (pv 0) pe_int (nomark _)))))), ?_⟩
  exact ⟨_, rfl, _, _, rfl, .inl ⟨⟨i, rfl⟩, rfl⟩, true, rfl, _, rfl, i, 0, rfl, rfl, hQ⟩
def spDigit (K : PySem.W.Frag) : Sp := fun vs H Q _ => (∃ i : Int, vs = [.int i] ∧ (0 ≤ i ∧ i ≤ 9) ∧ Q (.bl true) H) ∨ ∃ v, vs = [v] ∧ TyX K H v (.type "tuple") ∧ Q (.bl false) H
theorem sc_is_digit : FnScope ["value"] ["value"] (fnScope s_is_digit) := ⟨rfl, rfl, rfl, by decide +kernel, rfl, by decide +kernel, by decide +kernel⟩
theorem c_is_digit (T : Tx w K mg) : Cal P w K mg base 2 "is_digit" (spDigit K) [] := by
  have c_is_integer := c_is_integer (P := P) (base := base) T
  refine T.d_is_digit.cal sc_is_digit (fun F => ⟨[], .nil, F.bindsN fun _ _ _ _ _ _ us hl => match us, hl with | [_], _ => rfl⟩) (by rintro vs H Q E (⟨v, rfl, _⟩ | ⟨v, rfl, _⟩) <;> rfl) fun f cdv A outer s H vs Q E hr h => ?_
  refine ⟨_, (pss_one (ps_ret (pe_and (pe_c c_is_integer hr (by omega) rfl (pa_cons (pv 0) pa_nil)) (pe_one (pe_chain op_le op_le pe_int (pv 0) pe_int))))), ?_⟩
  rcases h with ⟨i, rfl, ⟨h0, h9⟩, hQ⟩ | ⟨v, rfl, hv, hQ⟩
  · refine ⟨_, rfl, _, _, rfl, .inl ⟨⟨i, rfl⟩, rfl⟩, true, rfl, _, rfl, 0, i, rfl, rfl, true, congrArg V.bl (decide_eq_true h0), i, 9, rfl, rfl, qb (congrArg V.bl (decide_eq_true h9)) hQ⟩
  · exact ⟨_, rfl, _, _, rfl, .inr ⟨hv, rfl⟩, false, rfl, hQ⟩
def spIndex : Sp := fun vs H Q _ => ∃ i n : Int, vs = [.int i, .int n] ∧ (0 ≤ i ∧ i < n) ∧ Q (.bl true) H
theorem sc_is_index : FnScope ["value", "size"] ["value", "size"] (fnScope s_is_index) := ⟨rfl, rfl, rfl, by decide +kernel, rfl, by decide +kernel, by decide +kernel⟩
theorem c_is_index (T : Tx w K mg) : Cal P w K mg base 2 "is_index" spIndex [] := by
  have c_is_integer := c_is_integer (P := P) (base := base) T
  refine T.d_is_index.cal sc_is_index (fun F => ⟨[], .nil, F.bindsN fun _ _ _ _ _ _ us hl => match us, hl with | [_, _], _ => rfl⟩) (by rintro vs H Q E ⟨i, n, rfl, _⟩; rfl) fun f cdv A outer s H vs Q E hr h => ?_
  obtain ⟨i, n, rfl, ⟨h0, h9⟩, hQ⟩ := h
  refine ⟨_, (pss_one (ps_ret (pe_and (pe_c c_is_integer hr (by omega) rfl (pa_cons (pv 0) pa_nil)) (pe_one (pe_chain op_le op_lt pe_int (pv 0) (pv 1)))))), ?_⟩
  refine ⟨_, rfl, _, _, rfl, .inl ⟨⟨i, rfl⟩, rfl⟩, true, rfl, _, rfl, 0, i, rfl, rfl, true, congrArg V.bl (decide_eq_true h0), _, rfl, i, n, rfl, rfl, qb (congrArg V.bl (decide_eq_true h9)) hQ⟩
/-- what the program takes for a name -/
def NameOk (x : Str) : Prop := (1 ≤ x.length ∧ x.length ≤ 8) ∧ (∀ c ∈ x.cps.toList, 97 ≤ c ∧ c ≤ 122) ∧ keptS.contains x = false
def spName : Sp := fun vs H Q _ => ∃ x : Str, vs = [.str x] ∧ NameOk x ∧ Q (.bl true) H
theorem letters_mem {c : Nat} (h : 97 ≤ c ∧ c ≤ 122) : decide (c ∈ ("abcdefghijklmnopqrstuvwxyz" : Str).cps.toList) = true := by
  have e : ("abcdefghijklmnopqrstuvwxyz" : Str).cps.toList = (List.range 26).map (· + 97) := by decide +kernel
  rw [e]
  exact decide_eq_true (List.mem_map.mpr ⟨c - 97, List.mem_range.mpr (by omega), by omega⟩)
theorem sc_is_name : FnScope ["value", "letter"] ["value"] (fnScope s_is_name) := ⟨rfl, rfl, rfl, by decide +kernel, rfl, by decide +kernel, by decide +kernel⟩
theorem c_is_name (T : Tx w K mg) : Cal P w K mg base 1 "is_name" spName [] := by
  obtain ⟨kd, ⟨es, n, D⟩, hk, gk⟩ := T.g_KEPT_WORDS
  refine T.d_is_name.cal sc_is_name (fun F => ⟨[], .nil, F.bindsN fun _ _ _ _ _ _ us hl => match us, hl with | [_], _ => rfl⟩) (by rintro vs H Q E ⟨v, rfl, _⟩; rfl) fun f cdv A outer s H vs Q E hr h => ?_
  obtain ⟨x, rfl, ⟨⟨h1, h8⟩, hc, hx⟩, hQ⟩ := h
  refine ⟨_, (pss_cons (ps_if (PW.pt (pw_or (pt_not (pt_val (pe_callB call_isi rfl T.z_isinstance (by decide +kernel) (pa_cons (pv 0) (pa_cons (pe_bltn (v := .ty "str") (u := .type "str") rfl T.z_str (by decide +kernel) rfl) pa_nil))))) (pw_or1 (pt_not (pt_chain op_le op_le pe_int (pe_callB call_len_str rfl T.z_len PySem.boot_len (pa_cons (pv 0) pa_nil)) (pe_gc rfl T.g_MOST_LETTERS))))))
      (pss_one (ps_ret pe_bl))
      pss_nil)
    (pss_cons (ps_for PassesOwn.never rfl (pi_str (pv 0)) (pg_name (i := 1) sc_is_name.nd rfl (Or.inl rfl))
      (pss_one (ps_if (pt_cmpR op_notInS (pv 1) (pe_gc rfl T.g_LETTERS) rfl)
        (pss_one (ps_ret pe_bl))
        pss_nil)))
    (pss_one (ps_ret (pe_cmpR (op_notIn_kd D) (pv 0) (pe_gc rfl gk) rfl))))), ?_⟩
  have hl : x.length ≤ sizeLine := Nat.le_trans h8 (by decide)
  refine ⟨_, rfl, _, _, _, _, true, rfl, .ty _, .base (.str x), kit_ty (by decide +kernel), true, rfl, ?_⟩
  refine ⟨_, rfl, x, rfl, hl, 1, (x.length : Int), rfl, rfl, true, congrArg V.bl (decide_eq_true (by omega)), (x.length : Int), 8, rfl, rfl, true, congrArg V.bl (decide_eq_true (by omega)), ?_⟩
  refine ⟨.str x, rfl, x, rfl, for_it (walk_str (z := x)) (fun i σ H' => H' = H ∧ σ[0]? = some (some (.str x)) ∧ σ.length = 2) ⟨rfl, rfl, rfl⟩ (fun _ _ _ _ _ => trivial) ?_ ?_⟩
  · rintro i v σ H1 H2 hi ⟨rfl, hσ, hl2⟩ ⟨rfl, c, hc1, rfl⟩
    have hcm : c ∈ x.cps.toList := by
      rw [← Array.getElem?_toList] at hc1
      exact List.mem_of_getElem? hc1
    refine ⟨.str ⟨#[c]⟩, by simp [hl2], c, _, rfl, rfl, false, ?_, ⟨rfl, by simpa using hσ, by simpa using hl2⟩⟩
    rw [letters_mem (hc c hcm)]
    rfl
  · rintro σ H1 ⟨rfl, hσ, hl2⟩
    refine ⟨_, hσ, x, none, rfl, rfl, hk x hx, hQ⟩
end
end Oh
set_option maxHeartbeats 4000000
namespace Oh
open PySem PySem.Spec PyProof.Rows L2
open C8 (Cal Met Mak pe_c pe_mk pe_mt pe_mt0 pe_gc InsC call_isC tCut pss_cut fnBody fnArgs fnScope)
/-! ### what is written: expressions, statements -/
inductive Bo | plus | minus | same | less
def Bo.s : Bo → Str
  | .plus => "plus"
  | .minus => "minus"
  | .same => "same"
  | .less => "less"
inductive Ex | dig (n : Int) | nm (x : Str) | no (a : Ex) | bin (o : Bo) (a b : Ex)
def Ex.d : Ex → PyData
  | .dig n => .int n
  | .nm x => .tuple [.str "name", .str x]
  | .no a => .tuple [.str "not", a.d]
  | .bin o a b => .tuple [.str o.s, a.d, b.d]
def Ex.ok : Ex → Prop
  | .dig n => 0 ≤ n ∧ n ≤ 9
  | .nm x => NameOk x
  | .no a => a.ok
  | .bin _ a b => a.ok ∧ b.ok
def Ex.ht : Ex → Nat
  | .dig _ => 1
  | .nm _ => 1
  | .no a => a.ht + 1
  | .bin _ a b => max a.ht b.ht + 1
/-- the names in it, in order -/
def Ex.nms : Ex → List Str
  | .dig _ => []
  | .nm x => [x]
  | .no a => a.nms
  | .bin _ a b => a.nms ++ b.nms
theorem Ex.ht_pos (e : Ex) : 1 ≤ e.ht := by cases e <;> simp [Ex.ht]
inductive Hd
  | set (x : Str) (e : Ex) | tell (p : Str) (e : Ex) | hear (p x : Str) | leave | home | fail
  | wait (rows : List (Str × Str)) | opn | iff (e : Ex) | rep
inductive T | mk (h : Hd) (kids : List (List T))
def rowsD : List (Str × Str) → List PyData → List PyData
  | r :: rs, k :: ks => .tuple [.str r.1, .str r.2, k] :: rowsD rs ks
  | _, _ => []
def hdD : Hd → List PyData → PyData
  | .set x e, _ => .tuple [.str "set", .str x, e.d]
  | .tell x e, _ => .tuple [.str "tell", .str x, e.d]
  | .hear p x, _ => .tuple [.str "hear", .str p, .str x]
  | .leave, _ => .tuple [.str "leave"]
  | .home, _ => .tuple [.str "home"]
  | .fail, _ => .tuple [.str "fail"]
  | .wait rows, ks => .tuple [.str "wait", .tuple (rowsD rows ks)]
  | .opn, ks => .tuple [.str "open", .tuple ks]
  | .iff e, ks => .tuple (.str "if" :: e.d :: ks)
  | .rep, ks => .tuple (.str "repeat" :: ks)
mutual
def T.d : T → PyData
  | .mk h ks => hdD h (bbd ks)
def bbd : List (List T) → List PyData
  | [] => []
  | b :: bs => .tuple (bd b) :: bbd bs
def bd : List T → List PyData
  | [] => []
  | t :: ts => t.d :: bd ts
end
abbrev blkD (b : List T) : PyData := .tuple (bd b)
theorem bd_len : ∀ b : List T, (bd b).length = b.length
  | [] => rfl
  | t :: ts => by simp [bd, bd_len ts]
theorem bbd_len : ∀ b : List (List T), (bbd b).length = b.length
  | [] => rfl
  | t :: ts => by simp [bbd, bbd_len ts]
theorem bd_get : ∀ (b : List T) (i : Nat), (bd b)[i]? = (b[i]?).map T.d
  | [], i => by simp [bd]
  | t :: ts, 0 => by simp [bd]
  | t :: ts, i + 1 => by simp [bd, bd_get ts i]
theorem bbd_get : ∀ (b : List (List T)) (i : Nat), (bbd b)[i]? = (b[i]?).map blkD
  | [], i => by simp [bbd]
  | t :: ts, 0 => by simp [bbd]
  | t :: ts, i + 1 => by simp [bbd, bbd_get ts i]
theorem bd_eq (b : List T) : bd b = b.map T.d := List.ext_getElem? fun i => by rw [bd_get, List.getElem?_map]
theorem bbd_eq (b : List (List T)) : bbd b = b.map blkD := List.ext_getElem? fun i => by rw [bbd_get, List.getElem?_map]
/-- by all that is within -/
theorem T.ind {P : T → Prop} (h : ∀ hd ks, (∀ b ∈ ks, ∀ t ∈ b, P t) → P (.mk hd ks)) (t : T) : P t :=
  T.rec (motive_1 := P) (motive_2 := fun ks => ∀ b ∈ ks, ∀ t ∈ b, P t) (motive_3 := fun ts => ∀ t ∈ ts, P t) (fun hd ks ih => h hd ks ih) (fun b hb => by cases hb)
    (fun b bs h1 h2 c hc => (List.mem_cons.mp hc).elim (fun e => e ▸ h1) fun e => h2 c e) (fun t ht => by cases ht) (fun u us h1 h2 t ht => (List.mem_cons.mp ht).elim (fun e => e ▸ h1) fun e => h2 t e) t
def Hd.isRep : Hd → Bool
  | .rep => true
  | _ => false
def Hd.isOpn : Hd → Bool
  | .opn => true
  | _ => false
def okH : Hd → List (List T) → Prop
  | .set x e, ks => (NameOk x ∧ e.ok ∧ e.ht ≤ 5) ∧ ks = []
  | .tell x e, ks => (NameOk x ∧ e.ok ∧ e.ht ≤ 5) ∧ ks = []
  | .hear p x, ks => (NameOk p ∧ NameOk x) ∧ ks = []
  | .leave, ks => ks = []
  | .home, ks => ks = []
  | .fail, ks => ks = []
  | .wait rows, ks => rows.length = ks.length ∧ (1 ≤ ks.length ∧ ks.length ≤ 4) ∧ (∀ r ∈ rows, NameOk r.1 ∧ NameOk r.2) ∧ (rows.map (·.1)).Nodup
  | .opn, ks => 1 ≤ ks.length ∧ ks.length ≤ 4
  | .iff e, ks => (e.ok ∧ e.ht ≤ 5) ∧ ks.length = 2
  | .rep, ks => ks.length = 1
/-! may be gone through; may be left -/
mutual
def T.thr : T → Bool
  | .mk (.set _ _) _ => true
  | .mk .rep ks => bbLv ks
  | .mk .opn ks => bbThr ks
  | .mk (.iff _) ks => bbThr ks
  | _ => false
def T.lv : T → Bool
  | .mk .leave _ => true
  | .mk .opn ks => bbLv ks
  | .mk (.iff _) ks => bbLv ks
  | _ => false
def bThr : List T → Bool
  | [] => true
  | t :: ts => t.thr && bThr ts
def bLv : List T → Bool
  | [] => false
  | t :: ts => t.lv || (t.thr && bLv ts)
def bbThr : List (List T) → Bool
  | [] => false
  | b :: bs => bThr b || bbThr bs
def bbLv : List (List T) → Bool
  | [] => false
  | b :: bs => bLv b || bbLv bs
end
mutual
def T.ht : T → Nat
  | .mk _ ks => bbHt ks
def bbHt : List (List T) → Nat
  | [] => 0
  | b :: bs => max (bHt b + 1) (bbHt bs)
def bHt : List T → Nat
  | [] => 0
  | t :: ts => max t.ht (bHt ts)
end
/-! how many statements -/
mutual
def T.cnt : T → Nat
  | .mk _ ks => bbCnt ks + 1
def bbCnt : List (List T) → Nat
  | [] => 0
  | b :: bs => bCnt b + bbCnt bs
def bCnt : List T → Nat
  | [] => 0
  | t :: ts => t.cnt + bCnt ts
end
theorem bHt_le {n : Nat} : ∀ {b : List T}, (∀ t ∈ b, t.ht ≤ n) → bHt b ≤ n
  | [], _ => Nat.zero_le _
  | t :: ts, h => by
    have := bHt_le (b := ts) fun u hu => h u (List.mem_cons_of_mem _ hu)
    have := h t (List.mem_cons_self ..)
    simp only [bHt]; omega
theorem ht_mem : ∀ {b : List T} {t : T}, t ∈ b → t.ht ≤ bHt b
  | u :: ts, t, h => by
    simp only [bHt]
    rcases List.mem_cons.mp h with e | e
    · subst e; omega
    · have := ht_mem e; omega
theorem bht_mem : ∀ {ks : List (List T)} {b : List T}, b ∈ ks → bHt b + 1 ≤ bbHt ks
  | u :: ts, t, h => by
    simp only [bbHt]
    rcases List.mem_cons.mp h with e | e
    · subst e; omega
    · have := bht_mem e; omega
theorem bbHt_le {n : Nat} : ∀ {ks : List (List T)}, (∀ b ∈ ks, bHt b + 1 ≤ n) → bbHt ks ≤ n
  | [], _ => Nat.zero_le _
  | t :: ts, h => by
    have := bbHt_le (ks := ts) fun u hu => h u (List.mem_cons_of_mem _ hu)
    have := h t (List.mem_cons_self ..)
    simp only [bbHt]; omega
/-- a statement that the program takes, within a repeat or not -/
inductive T.Ok : Bool → T → Prop
  | mk {lp : Bool} {h : Hd} {ks : List (List T)} : okH h ks → (∀ b ∈ ks, b.length ≤ 12) → (∀ b ∈ ks, ∀ t ∈ b, T.Ok (lp || h.isRep) t) → (h = .leave → lp = true) → (h = .rep → ∀ b ∈ ks, bThr b = false) → T.Ok lp (.mk h ks)
structure BOk (b : List T) : Prop where
  len : b.length ≤ 12
  all : ∀ t ∈ b, T.Ok false t
  ht : bHt b ≤ 11
  cnt : bCnt b ≤ 6000
end Oh
set_option maxHeartbeats 4000000
namespace Oh
open PySem PySem.Spec PyProof.Rows L2
open C8 (Cal Met Mak pe_c pe_mk pe_mt pe_mt0 pe_gc InsC call_isC tCut pss_cut fnBody fnArgs fnScope)
section
variable {P : Program} {w : World} {K : PySem.W.Frag} {mg : Str → Option Value} {base : Heap} {F : Fm} {te tb : TE} {σ : L2.St} {H : Hp} {E : XK}
/-! ### calls that look at data alone -/
theorem evv_digit {i : Int} (h : EvD F K te σ H (.int i)) (hi : 0 ≤ i ∧ i ≤ 9) : EvV F (tCall (spDigit K) [] E (tCons te tNil)) σ H (.bl true) :=
  ev_call (ea_cons (evd_i h) ea_nil) fun vs H1 e1 p Q q => by
    match vs, p with
    | [x], ⟨p0, _⟩ => exact .inl ⟨i, by rw [show x = V.int i from p0]; rfl, hi, q _ _ (.refl e1.good) rfl⟩
theorem evv_digitT {ds : List PyData} (h : EvD F K te σ H (.tuple ds)) : EvV F (tCall (spDigit K) [] E (tCons te tNil)) σ H (.bl false) :=
  ev_call (ea_cons h ea_nil) fun vs H1 e1 p Q q => by
    match vs, p with
    | [x], ⟨⟨d0, e0, p0⟩, _⟩ =>
      subst e0
      exact .inr ⟨x, rfl, p0.ty, q _ _ (.refl e1.good) rfl⟩
theorem evv_name {x : Str} (h : EvD F K te σ H (.str x)) (hi : NameOk x) : EvV F (tCall spName [] E (tCons te tNil)) σ H (.bl true) :=
  ev_call (ea_cons (evd_s h) ea_nil) fun vs H1 e1 p Q q => by
    match vs, p with
    | [x], ⟨p0, _⟩ => exact ⟨_, by rw [show x = V.str _ from p0]; rfl, hi, q _ _ (.refl e1.good) rfl⟩
def spTuple (K : PySem.W.Frag) : Sp := fun vs H Q _ => ∃ a xs, vs = [.ref a, .int (xs.length : Int)] ∧ SqT K H a xs ∧ Q (.bl true) H
theorem sc_is_tuple : FnScope ["value", "size"] ["value", "size"] (fnScope s_is_tuple) := ⟨rfl, rfl, rfl, by decide +kernel, rfl, by decide +kernel, by decide +kernel⟩
theorem c_is_tuple (T : Tx w K mg) : Cal P w K mg base 1 "is_tuple" (spTuple K) [] := by
  refine T.d_is_tuple.cal sc_is_tuple (fun F => ⟨[], .nil, F.bindsN fun _ _ _ _ _ _ us hl => match us, hl with | [_, _], _ => rfl⟩) (by rintro vs H Q E ⟨a, xs, rfl, _⟩; rfl) fun f cdv A outer s H vs Q E hr h => ?_
  obtain ⟨a, xs, rfl, hs, hQ⟩ := h
  refine ⟨_, (pss_one (ps_ret (pe_and (pe_callB call_isi rfl T.z_isinstance (by decide +kernel) (pa_cons (pv 0) (pa_cons (pe_bltn (v := .ty "tuple") (u := .type "tuple") rfl T.z_tuple (by decide +kernel) rfl) pa_nil))) (pe_one (pe_cmpR op_eq (pe_callB (r := rLenQ K) call_len_seq rfl T.z_len PySem.boot_len (pa_cons (pv 0) pa_nil)) (pv 1) (nomark _)))))), ?_⟩
  exact ⟨_, rfl, _, _, _, _, true, rfl, .ty _, SqT.tyx hs, kit_ty (by decide +kernel), true, rfl, _, rfl, a, xs, rfl, .inr hs, _, rfl, rfl, qb (by simp) hQ⟩
theorem evv_tuple {ds : List PyData} {n : Int} (h : EvD F K te σ H (.tuple ds)) (hn : n = (ds.length : Int)) (g : F.G H) : EvV F (tCall (spTuple K) [] E (tCons te (tCons (tC (.int n)) tNil))) σ H (.bl true) :=
  ev_call (ea_cons h (ea_cons (evv_c (v := .int n) g) ea_nil)) fun vs H1 e1 p Q q => by
    match vs, p with
    | [x, y], ⟨⟨d0, e0, p0⟩, p1, _⟩ =>
      subst e0
      obtain ⟨a, xs, rfl, hs, hd⟩ := p0.tupE
      exact ⟨a, xs, by rw [show y = V.int n from p1, hn, hd.len]; rfl, hs, q _ _ (.refl e1.good) rfl⟩
def spPath (K : PySem.W.Frag) : Sp := fun vs H Q _ => ∃ a, ∃ ns : List Int, vs = [.ref a] ∧ SqT K H a (ns.map V.int) ∧ ns ≠ [] ∧ (∀ n ∈ ns, 0 ≤ n) ∧ Q (.bl true) H
theorem sc_is_path : FnScope ["value", "part"] ["value"] (fnScope s_is_path) := ⟨rfl, rfl, rfl, by decide +kernel, rfl, by decide +kernel, by decide +kernel⟩
theorem c_is_path (T : Tx w K mg) : Cal P w K mg base 3 "is_path" (spPath K) [] := by
  have c_is_count := c_is_count (P := P) (base := base) T
  refine T.d_is_path.cal sc_is_path (fun F => ⟨[], .nil, F.bindsN fun _ _ _ _ _ _ us hl => match us, hl with | [_], _ => rfl⟩) (by rintro vs H Q E ⟨a, xs, rfl, _⟩; rfl) fun f cdv A outer s H vs Q E hr h => ?_
  obtain ⟨a, ns, rfl, hs, hne, h0, hQ⟩ := h
  refine ⟨_, (pss_cons (ps_if (PW.pt (pw_or (pt_not (pt_val (pe_callB call_isi rfl T.z_isinstance (by decide +kernel) (pa_cons (pv 0) (pa_cons (pe_bltn (v := .ty "tuple") (u := .type "tuple") rfl T.z_tuple (by decide +kernel) rfl) pa_nil))))) (pw_or1 (pt_cmpR op_eq (pe_callB (r := rLenQ K) call_len_seq rfl T.z_len PySem.boot_len (pa_cons (pv 0) pa_nil)) pe_int (nomark _)))))
      (pss_one (ps_ret pe_bl))
      pss_nil)
    (pss_cons (ps_for PassesOwn.never rfl (pi_tup (pv 0)) (pg_name (i := 1) sc_is_path.nd rfl (Or.inl rfl))
      (pss_one (ps_if (pt_not (pt_val (pe_c c_is_count hr (by omega) rfl (pa_cons (pv 1) pa_nil))))
        (pss_one (ps_ret pe_bl))
        pss_nil)))
    (pss_one (ps_ret pe_bl)))), ?_⟩
  have hl : decide (V.int (((ns.map V.int).length : Nat) : Int) = V.int 0) = false := by
    refine decide_eq_false fun z => hne ?_
    have := V.int.inj z
    rw [List.length_map] at this
    exact List.eq_nil_of_length_eq_zero (by omega)
  refine ⟨_, rfl, _, _, _, _, true, rfl, .ty _, SqT.tyx hs, kit_ty (by decide +kernel), true, rfl, ?_⟩
  refine ⟨_, rfl, a, _, rfl, .inr hs, rfl, false, congrArg V.bl hl, ?_⟩
  refine ⟨_, rfl, a, rfl, ⟨_, hs⟩, for_tup (fun i σ H' => H' = H ∧ σ.length = 2) ⟨rfl, rfl⟩ (fun i σ H1 _ h => by rw [h.1]; exact hs) ?_ ?_⟩
  · rintro i x σ H1 hi ⟨rfl, hl⟩
    obtain ⟨n, hn, rfl⟩ := List.mem_map.mp (List.mem_of_getElem? hi)
    refine ⟨.int n, by simp [hl], n, rfl, true, congrArg V.bl (decide_eq_true (h0 n hn)), ?_⟩
    exact ⟨rfl, by simpa using hl⟩
  · rintro σ H1 ⟨rfl, _⟩
    exact hQ
/-- the order that a port tuple has -/
def AscFrom : List Nat → List Str → Prop
  | l, x :: r => l < x.cps.toList ∧ AscFrom x.cps.toList r
  | _, [] => True
def spPorts (K : PySem.W.Frag) : Sp := fun vs H Q _ => ∃ a, ∃ ss : List Str, vs = [.ref a] ∧ SqT K H a (ss.map V.str) ∧ (∀ z ∈ ss, NameOk z) ∧ AscFrom [] ss ∧ Q (.bl true) H
theorem sc_is_port_tuple : FnScope ["value", "last", "part"] ["value"] (fnScope s_is_port_tuple) := ⟨rfl, rfl, rfl, by decide +kernel, rfl, by decide +kernel, by decide +kernel⟩
theorem c_is_port_tuple (T : Tx w K mg) : Cal P w K mg base 2 "is_port_tuple" (spPorts K) [] := by
  have c_is_name := c_is_name (P := P) (base := base) T
  refine T.d_is_port_tuple.cal sc_is_port_tuple (fun F => ⟨[], .nil, F.bindsN fun _ _ _ _ _ _ us hl => match us, hl with | [_], _ => rfl⟩) (by rintro vs H Q E ⟨a, xs, rfl, _⟩; rfl) fun f cdv A outer s H vs Q E hr h => ?_
  obtain ⟨a, ss, rfl, hs, hn, ho, hQ⟩ := h
  refine ⟨_, (pss_cons (ps_if (pt_not (pt_val (pe_callB call_isi rfl T.z_isinstance (by decide +kernel) (pa_cons (pv 0) (pa_cons (pe_bltn (v := .ty "tuple") (u := .type "tuple") rfl T.z_tuple (by decide +kernel) rfl) pa_nil)))))
      (pss_one (ps_ret pe_bl))
      pss_nil)
    (pss_cons (ps_set (i := 1) sc_is_port_tuple.nd rfl (Or.inl rfl) pe_str)
    (pss_cons (ps_for PassesOwn.never rfl (pi_tup (pv 0)) (pg_name (i := 2) sc_is_port_tuple.nd rfl (Or.inl rfl))
      (pss_cons (ps_if (PW.pt (pw_or (pt_not (pt_val (pe_c c_is_name hr (by omega) rfl (pa_cons (pv 2) pa_nil)))) (pw_or1 (pt_cmpR op_le_str (pv 2) (pv 1) (nomark _)))))
        (pss_one (ps_ret pe_bl))
        pss_nil)
      (pss_one (ps_set (i := 1) sc_is_port_tuple.nd rfl (Or.inl rfl) (pv 2)))))
    (pss_one (ps_ret pe_bl))))), ?_⟩
  refine ⟨_, rfl, _, _, _, _, true, rfl, .ty _, SqT.tyx hs, kit_ty (by decide +kernel), true, rfl, ?_⟩
  refine ⟨_, rfl, a, rfl, ⟨_, hs⟩, for_tup (fun i σ H' => H' = H ∧ σ.length = 3 ∧ ∃ l : Str, σ[1]? = some (some (.str l)) ∧ AscFrom l.cps.toList (ss.drop i)) ⟨rfl, rfl, "", rfl, ho⟩ (fun i σ H1 _ h => by rw [h.1]; exact hs) ?_ ?_⟩
  · rintro i x σ H1 hi ⟨rfl, hl, l, hl1, ha⟩
    have hi' : ∃ z, ss[i]? = some z ∧ x = .str z := by
      rw [List.getElem?_map] at hi
      cases q : ss[i]? with
      | none => rw [q] at hi; cases hi
      | some z => rw [q] at hi; exact ⟨z, rfl, (Option.some.inj hi).symm⟩
    obtain ⟨z, hz, rfl⟩ := hi'
    have hd : ss.drop i = z :: ss.drop (i + 1) := by
      obtain ⟨hlt, e⟩ := List.getElem?_eq_some_iff.mp hz
      rw [← e]
      exact List.drop_eq_getElem_cons hlt
    rw [hd] at ha
    refine ⟨.str z, by simp [hl], z, rfl, hn z (List.mem_of_getElem? hz), true, rfl, ?_⟩
    refine ⟨.str z, by simp [hl], .str l, by simpa [List.getElem?_set] using hl1, z, l, rfl, rfl, false, ?_, ?_⟩
    · exact congrArg V.bl (by rw [decide_eq_true ha.1]; rfl)
    · exact ⟨.str z, by simp [hl], rfl, by simpa using hl, z, by simp [hl], ha.2⟩
  · rintro σ H1 ⟨rfl, _⟩
    exact hQ
/-! ### expressions.py -/
def spPaired (K : PySem.W.Frag) : Sp := fun vs H Q _ => ∃ a, ∃ o : Bo, ∃ x y, vs = [.ref a] ∧ SqT K H a [.str o.s, x, y] ∧ Q (.bl true) H
theorem sc_is_paired : FnScope ["value"] ["value"] (fnScope s_is_paired) := ⟨rfl, rfl, rfl, by decide +kernel, rfl, by decide +kernel, by decide +kernel⟩
theorem c_is_paired (T : Tx w K mg) : Cal P w K mg base 1 "is_paired" (spPaired K) [] := by
  obtain ⟨pa, hpa, gp⟩ := T.g_PAIRED
  refine T.d_is_paired.cal sc_is_paired (fun F => ⟨[], .nil, F.bindsN fun _ _ _ _ _ _ us hl => match us, hl with | [_], _ => rfl⟩) (by rintro vs H Q E ⟨a, o, x, y, rfl, _⟩; rfl) fun f cdv A outer s H vs Q E hr h => ?_
  obtain ⟨a, o, x, y, rfl, hs, hQ⟩ := h
  refine ⟨_, (pss_one (ps_ret (pe_and (pe_cmpR op_eq (pe_callB (r := rLenQ K) call_len_seq rfl T.z_len PySem.boot_len (pa_cons (pv 0) pa_nil)) pe_int (nomark _)) (pe_one (pe_cmpR op_in_seq (pe_ix (r := rIxT K) ix_tup (pv 0) pe_int (fun _ _ => rfl)) (pe_gc rfl gp) rfl))))), ?_⟩
  refine ⟨_, rfl, a, _, rfl, .inr hs, rfl, true, rfl, ?_⟩
  refine ⟨_, rfl, a, _, 0, .str o.s, rfl, rfl, hs, rfl, pa, _, rfl, .inr (.inr hpa), rfl, rfl, qb (congrArg V.bl ?_) hQ⟩
  cases o <;> decide +kernel
theorem evv_paired {o : Bo} {d1 d2 : PyData} (h : EvD F K te σ H (.tuple [.str o.s, d1, d2])) : EvV F (tCall (spPaired K) [] E (tCons te tNil)) σ H (.bl true) :=
  ev_call (ea_cons h ea_nil) fun vs H1 e1 p Q q => by
    match vs, p with
    | [x], ⟨⟨d0, e0, p0⟩, _⟩ =>
      subst e0
      obtain ⟨a, xs, rfl, hs, hd⟩ := p0.tupE
      cases hd with
      | cons h1 hd => cases hd with
        | cons h2 hd => cases hd with
          | cons h3 hd =>
            cases hd
            rw [h1.strE] at hs
            exact ⟨a, o, _, _, rfl, hs, q _ _ (.refl e1.good) rfl⟩
end
end Oh
set_option maxHeartbeats 4000000
namespace Oh
open PySem PySem.Spec PyProof.Rows L2
open C8 (Cal Met Mak pe_c pe_mk pe_mt pe_mt0 pe_gc InsC call_isC tCut pss_cut fnBody fnArgs fnScope)
section
variable {P : Program} {w : World} {K : PySem.W.Frag} {mg : Str → Option Value} {base : Heap} {F : Fm} {te tb : TE} {σ : L2.St} {H : Hp} {E : XK}
theorem kit_tt : kitB "tuple" "tuple" = some true := by decide +kernel
theorem kit_ss : kitB "str" "str" = some true := by decide +kernel
theorem kit_ti : kitB "int" "tuple" = some false := by decide +kernel
def spEx (K : PySem.W.Frag) (n : Nat) : Sp := fun vs H Q _ => ∃ v, ∃ e : Ex, ∃ r : Int, vs = [v, .int r] ∧ e.ok ∧ e.ht ≤ n ∧ (e.ht : Int) ≤ r ∧ Td K H v e.d ∧ ∀ H', Same H H' → Q (.bl true) H'
theorem evv_expr {n : Nat} {e : Ex} {r : Int} (h : EvD F K te σ H e.d) (hr : EvV F tb σ H (.int r)) (ok : e.ok) (h1 : e.ht ≤ n) (h2 : (e.ht : Int) ≤ r) : EvV F (tCall (spEx K n) [] E (tCons te (tCons tb tNil))) σ H (.bl true) :=
  ev_call (ea_cons h (ea_cons hr ea_nil)) fun vs H1 e1 p Q q => by
    match vs, p with
    | [x, y], ⟨⟨d0, e0, p0⟩, p1, _⟩ =>
      subst e0
      exact ⟨x, e, r, by rw [show y = V.int r from p1]; rfl, ok, h1, h2, p0, fun H' e2 => q _ _ (.of e1.good e2) rfl⟩
theorem evv_expr5 {n : Nat} {e : Ex} (h : EvD F K te σ H e.d) (ok : e.ok) (h1 : e.ht ≤ n) (h2 : e.ht ≤ 5) : EvV F (tCall (spEx K n) [.int 5] E (tCons te tNil)) σ H (.bl true) :=
  ev_call (ea_cons h ea_nil) fun vs H1 e1 p Q q => by
    match vs, p with
    | [x], ⟨⟨d0, e0, p0⟩, _⟩ =>
      subst e0
      exact ⟨x, e, 5, rfl, ok, h1, by omega, p0, fun H' e2 => q _ _ (.of e1.good e2) rfl⟩
theorem sc_is_expression : FnScope ["value", "room"] ["value", "room"] (fnScope s_is_expression) := ⟨rfl, rfl, rfl, by decide +kernel, rfl, by decide +kernel, by decide +kernel⟩
theorem c_is_expression (T : Tx w K mg) (n : Nat) : Cal P w K mg base (n + 4) "is_expression" (spEx K n) [] ∧ Cal P w K mg base (n + 4) "is_expression" (spEx K n) [.int 5] := by
  have c_is_digit := c_is_digit (P := P) (base := base) T
  have c_is_name := c_is_name (P := P) (base := base) T
  have c_is_paired := c_is_paired (P := P) (base := base) T
  induction n with
  | zero =>
    have no : ∀ vs H Q E, ¬ spEx K 0 vs H Q E := fun vs H Q E ⟨v, e, r, _, _, hn, _⟩ => absurd hn (by have := e.ht_pos; omega)
    exact ⟨T.d_is_expression.cal sc_is_expression (fun F => F.binds1 2 1 (by simp) rfl fun _ _ _ _ _ _ _ us its hu hi => match us, hu, its, hi with | [_, _], _, [_], _ => ⟨_, rfl, rfl⟩) (fun vs H Q E h => (no vs H Q E h).elim) fun _ _ _ _ _ _ _ _ _ _ h => (no _ _ _ _ h).elim,
      T.d_is_expression.cal sc_is_expression (fun F => F.binds1 1 0 (by simp) rfl fun _ _ _ _ _ _ _ us its hu hi => match us, hu, its, hi with | [_], _, [_], _ => ⟨_, rfl, rfl⟩) (fun vs H Q E h => (no vs H Q E h).elim) fun _ _ _ _ _ _ _ _ _ _ h => (no _ _ _ _ h).elim⟩
  | succ m ih =>
    have c_is_expression := ih.1
    have body : ∀ (f : Addr) (cdv : Value) (A : Around) (outer : List Env) (s : Shared) (H : Hp) (vs : List V) (Q : VK) (E : XK), Room (m + 4) (A.deeper (envOfC "is_expression" (fnScope s_is_expression) s.heap.objs.size f cdv)) → spEx K (m + 1) vs H Q E →
        ∃ t, PSs (cxOf C8.CX0 P w K mg base ["value", "room"] "is_expression" (fnScope s_is_expression) f cdv A outer s H E).nox (fnBody s_is_expression) t ∧ t { nx := fun _ H' => Q .non H', rt := Q } (L2.start ["value", "room"] vs) H := by
      intro f cdv A outer s H vs Q E hr h
      obtain ⟨v, e, r, rfl, ok, hn, hr5, td, hQ⟩ := h
      refine ⟨_, (pss_cons (ps_if (pt_cmpR op_lt (pv 1) pe_int (nomark _))
      (pss_one (ps_ret pe_bl))
      pss_nil)
    (pss_cons (ps_if (pt_val (pe_c c_is_digit hr (by omega) rfl (pa_cons (pv 0) pa_nil)))
      (pss_one (ps_ret pe_bl))
      pss_nil)
    (pss_cons (ps_if (PW.pt (pw_or (pt_not (pt_val (pe_callB call_isi rfl T.z_isinstance (by decide +kernel) (pa_cons (pv 0) (pa_cons (pe_bltn (v := .ty "tuple") (u := .type "tuple") rfl T.z_tuple (by decide +kernel) rfl) pa_nil))))) (pw_or (pt_not (pt_truth (pv 0) (fun _ => rfl))) (pw_or1 (pt_not (pt_val (pe_callB call_isi rfl T.z_isinstance (by decide +kernel) (pa_cons (pe_ix (r := rIxT K) ix_tup (pv 0) pe_int (fun _ _ => rfl)) (pa_cons (pe_bltn (v := .ty "str") (u := .type "str") rfl T.z_str (by decide +kernel) rfl) pa_nil)))))))))
      (pss_one (ps_ret pe_bl))
      pss_nil)
    (pss_cons (ps_if (pt_cmpR op_eq (pe_ix (r := rIxT K) ix_tup (pv 0) pe_int (fun _ _ => rfl)) pe_str (nomark _))
      (pss_one (ps_ret (pe_and (pe_cmpR op_eq (pe_callB (r := rLenQ K) call_len_seq rfl T.z_len PySem.boot_len (pa_cons (pv 0) pa_nil)) pe_int (nomark _)) (pe_one (pe_c c_is_name hr (by omega) rfl (pa_cons (pe_ix (r := rIxT K) ix_tup (pv 0) pe_int (fun _ _ => rfl)) pa_nil))))))
      pss_nil)
    (pss_cons (ps_if (pt_cmpR op_eq (pe_ix (r := rIxT K) ix_tup (pv 0) pe_int (fun _ _ => rfl)) pe_str (nomark _))
      (pss_one (ps_ret (pe_and (pe_cmpR op_eq (pe_callB (r := rLenQ K) call_len_seq rfl T.z_len PySem.boot_len (pa_cons (pv 0) pa_nil)) pe_int (nomark _)) (pe_one (pe_c c_is_expression hr (by omega) rfl (pa_cons (pe_ix (r := rIxT K) ix_tup (pv 0) pe_int (fun _ _ => rfl)) (pa_cons (pe_op op_sub (pv 1) pe_int) pa_nil)))))))
      pss_nil)
    (pss_cons (ps_if (pt_not (pt_val (pe_c c_is_paired hr (by omega) rfl (pa_cons (pv 0) pa_nil))))
      (pss_one (ps_ret pe_bl))
      pss_nil)
    (pss_one (ps_ret (pe_and (pe_c c_is_expression hr (by omega) rfl (pa_cons (pe_ix (r := rIxT K) ix_tup (pv 0) pe_int (fun _ _ => rfl)) (pa_cons (pe_op op_sub (pv 1) pe_int) pa_nil))) (pe_one (pe_c c_is_expression hr (by omega) rfl (pa_cons (pe_ix (r := rIxT K) ix_tup (pv 0) pe_int (fun _ _ => rfl)) (pa_cons (pe_op op_sub (pv 1) pe_int) pa_nil))))))))))))), ?_⟩
      refine run_go (R := .eq (.bl true)) ?_ (fun v H1 e p => ?_)
      · have hp := e.ht_pos
        have hv : EvD F0 K (tVar 0) (L2.start ["value", "room"] [v, V.int r]) H e.d := evd_var trivial rfl td
        have hw : EvV F0 (tVar 1) (L2.start ["value", "room"] [v, V.int r]) H (.int r) := evv_var trivial rfl
        refine run_whenF (et_test (evv_I0 hw (evv_c trivial))) (decide_eq_false (by omega)) ?_
        cases e with
        | dig n =>
          refine run_whenT (et_B (evv_digit hv ok)) rfl (run_retV (evv_c trivial) fun _ _ => rfl)
        | nm x =>
          refine run_whenF (et_B (evv_digitT hv)) rfl ?_
          have h0 : EvD F0 K (tOp (rIxT K) (tVar 0) (tC (.int 0))) (L2.start ["value", "room"] [v, V.int r]) H (.str "name") := evd_ix trivial hv (evv_c trivial) rfl
          refine run_whenF (et_or (et_not (et_B (evv_isi hv (b := true) kit_tt trivial))) fun _ => et_or (et_not (et_truth hv)) fun _ => et_not (et_B (evv_isi h0 (b := true) kit_ss trivial))) rfl ?_
          refine run_whenT (et_test (evv_eq (evd_s h0) (evv_c trivial) rfl)) rfl ?_
          exact run_retV (evv_and (evv_eq (evv_len hv) (evv_c trivial) rfl) fun _ => evv_name (evd_ix (d := .str x) trivial hv (evv_c trivial) rfl) ok) fun _ _ => rfl
        | no a =>
          refine run_whenF (et_B (evv_digitT hv)) rfl ?_
          have h0 : EvD F0 K (tOp (rIxT K) (tVar 0) (tC (.int 0))) (L2.start ["value", "room"] [v, V.int r]) H (.str "not") := evd_ix trivial hv (evv_c trivial) rfl
          refine run_whenF (et_or (et_not (et_B (evv_isi hv (b := true) kit_tt trivial))) fun _ => et_or (et_not (et_truth hv)) fun _ => et_not (et_B (evv_isi h0 (b := true) kit_ss trivial))) rfl ?_
          refine run_whenF (et_test (evv_eq (evd_s h0) (evv_c trivial) rfl)) (by decide) ?_
          refine run_whenT (et_test (evv_eq (evd_s h0) (evv_c trivial) rfl)) rfl ?_
          simp only [Ex.ht] at hn hr5
          exact run_retV (evv_and (evv_eq (evv_len hv) (evv_c trivial) rfl) fun _ => evv_expr (e := a) (r := r - 1) (evd_ix (d := a.d) trivial hv (evv_c trivial) rfl) (evv_I0 hw (evv_c trivial)) ok (by omega) (by omega)) fun _ _ => rfl
        | bin o a b =>
          refine run_whenF (et_B (evv_digitT hv)) rfl ?_
          have h0 : EvD F0 K (tOp (rIxT K) (tVar 0) (tC (.int 0))) (L2.start ["value", "room"] [v, V.int r]) H (.str o.s) := evd_ix trivial hv (evv_c trivial) rfl
          refine run_whenF (et_or (et_not (et_B (evv_isi hv (b := true) kit_tt trivial))) fun _ => et_or (et_not (et_truth hv)) fun _ => et_not (et_B (evv_isi h0 (b := true) kit_ss trivial))) rfl ?_
          refine run_whenF (et_test (evv_eq (evd_s h0) (evv_c trivial) rfl)) (by cases o <;> decide) ?_
          refine run_whenF (et_test (evv_eq (evd_s h0) (evv_c trivial) rfl)) (by cases o <;> decide) ?_
          refine run_whenF (et_not (et_B (evv_paired hv))) rfl ?_
          simp only [Ex.ht] at hn hr5
          exact run_retV (evv_and (evv_expr (e := a) (r := r - 1) (evd_ix (d := a.d) trivial hv (evv_c trivial) rfl) (evv_I0 hw (evv_c trivial)) ok.1 (by omega) (by omega)) fun _ => evv_expr (e := b) (r := r - 1) (evd_ix (d := b.d) trivial hv (evv_c trivial) rfl) (evv_I0 hw (evv_c trivial)) ok.2 (by omega) (by omega)) fun _ _ => rfl
      · rw [show v = V.bl true from p]
        exact hQ _ e
    exact ⟨T.d_is_expression.cal sc_is_expression (fun F => F.binds1 2 1 (by simp) rfl fun _ _ _ _ _ _ _ us its hu hi => match us, hu, its, hi with | [_, _], _, [_], _ => ⟨_, rfl, rfl⟩) (by rintro vs H Q E ⟨v, e, r, rfl, _⟩; rfl) body, T.d_is_expression.cal sc_is_expression (fun F => F.binds1 1 0 (by simp) rfl fun _ _ _ _ _ _ _ us its hu hi => match us, hu, its, hi with | [_], _, [_], _ => ⟨_, rfl, rfl⟩) (by rintro vs H Q E ⟨v, e, r, rfl, _⟩; rfl) body⟩
end
end Oh
set_option maxHeartbeats 4000000
namespace Oh
open PySem PySem.Spec PyProof.Rows L2
open C8 (Cal Met Mak pe_c pe_mk pe_mt pe_mt0 pe_gc InsC call_isC tCut pss_cut fnBody fnArgs fnScope)
theorem cutV_from {xs : List V} {k : Nat} (h : k ≤ xs.length) : cutV xs (some (k : Int)) none = xs.drop k := by
  have e1 : HT.sIx xs.length 0 (some (k : Int)) = k := by rw [HT.sIx_nat]; omega
  unfold cutV
  rw [e1, HT.sIx_none, List.take_of_length_le (by rw [List.length_drop]; omega)]
theorem nms_len : ∀ (e : Ex) (n : Nat), e.ht ≤ n → e.nms.length ≤ 2 ^ n
  | .dig _, n, _ => Nat.zero_le _
  | .nm _, n, _ => Nat.one_le_two_pow
  | .no a, n, h => nms_len a n (by simp only [Ex.ht] at h; omega)
  | .bin o a b, 0, h => by simp only [Ex.ht] at h; omega
  | .bin o a b, n + 1, h => by
    simp only [Ex.ht] at h
    have h1 := nms_len a n (by omega)
    have h2 := nms_len b n (by omega)
    simp only [Ex.nms, List.length_append]
    rw [Nat.pow_succ]
    omega
/-- the parts of an expression that is no name and no digit -/
def Ex.parts : Ex → List Ex
  | .no a => [a]
  | .bin _ a b => [a, b]
  | _ => []
section
variable {P : Program} {w : World} {K : PySem.W.Frag} {mg : Str → Option Value} {base : Heap} {F : Fm} {te tb : TE} {σ : L2.St} {H : Hp} {E : XK}
def spEN (K : PySem.W.Frag) (n : Nat) : Sp := fun vs H Q _ => ∃ v, ∃ e : Ex, vs = [v] ∧ e.ok ∧ e.ht ≤ n ∧ n ≤ 5 ∧ Td K H v e.d ∧ ∀ p H', H p = none → Same H H' → H' p = some (.lst (e.nms.map V.str)) → Q (.ref p) H'
theorem sc_expression_names : FnScope ["expression", "found", "part"] ["expression"] (fnScope s_expression_names) := ⟨rfl, rfl, rfl, by decide +kernel, rfl, by decide +kernel, by decide +kernel⟩
theorem c_expression_names (T : Tx w K mg) (n : Nat) : Cal P w K mg base (n + 3) "expression_names" (spEN K n) [] := by
  have c_is_digit := c_is_digit (P := P) (base := base) T
  induction n with
  | zero =>
    have no : ∀ vs H Q E, ¬ spEN K 0 vs H Q E := fun vs H Q E ⟨v, e, _, _, hn, _⟩ => absurd hn (by have := e.ht_pos; omega)
    exact T.d_expression_names.cal sc_expression_names (fun F => ⟨[], .nil, F.bindsN fun _ _ _ _ _ _ us hl => match us, hl with | [_], _ => rfl⟩) (fun vs H Q E h => (no vs H Q E h).elim) fun _ _ _ _ _ _ _ _ _ _ h => (no _ _ _ _ h).elim
  | succ m ih =>
    have c_expression_names := ih
    refine T.d_expression_names.cal sc_expression_names (fun F => ⟨[], .nil, F.bindsN fun _ _ _ _ _ _ us hl => match us, hl with | [_], _ => rfl⟩) (by rintro vs H Q E ⟨v, e, rfl, _⟩; rfl) fun f cdv A outer s H vs Q E hr h => ?_
    obtain ⟨v, e, rfl, ok, hn, h5, td, hQ⟩ := h
    refine ⟨_, (pss_cons (ps_if (pt_val (pe_c c_is_digit hr (by omega) rfl (pa_cons (pv 0) pa_nil)))
      (pss_one (ps_ret (pe_lst pa_nil)))
      pss_nil)
    (pss_cons (ps_if (pt_cmpR op_eq (pe_ix (r := rIxT K) ix_tup (pv 0) pe_int (fun _ _ => rfl)) pe_str (nomark _))
      (pss_one (ps_ret (pe_lst (pa_cons (pe_ix (r := rIxT K) ix_tup (pv 0) pe_int (fun _ _ => rfl)) pa_nil))))
      pss_nil)
    (pss_cons (ps_set (i := 1) sc_expression_names.nd rfl (Or.inl rfl) (pe_lst pa_nil))
    (pss_cons (ps_for PassesOwn.never rfl (pi_tup (pe_slice sl_tupA (pv 0) (po_some pe_int) po_none)) (pg_name (i := 2) sc_expression_names.nd rfl (Or.inl rfl))
      (pss_one (ps_expr (pe_bm PySem.F.plainAttrs_list PySem.F.slot_list_extend PySem.F.type_list_extend mt_extend (pv 1) (pa_cons (pe_c c_expression_names hr (by omega) rfl (pa_cons (pv 2) pa_nil)) pa_nil)))))
    (pss_one (ps_ret (pv 1))))))), ?_⟩
    have hv : EvD F0 K (tVar 0) (L2.start ["expression", "found", "part"] [v]) H e.d := evd_var trivial rfl td
    suffices hS : RunS F0 _ (L2.start ["expression", "found", "part"] [v]) H ⟨fun v H' => ∃ p, v = .ref p ∧ H p = none ∧ H' p = some (.lst (e.nms.map V.str)), fun v H1 H2 _ e ⟨p, a, b, c⟩ => ⟨p, a, b, e.same _ _ c⟩⟩ from
      run_go hS fun v H1 e ⟨p, ev, hp, hl⟩ => by rw [ev]; exact hQ p H1 hp e hl
    have long : ∀ es : List Ex, es = e.parts → (∀ z, e ≠ .dig z) → (∀ z, e ≠ .nm z) → (∃ s : Str, s ≠ "name" ∧ e.d = .tuple (.str s :: es.map Ex.d)) ∧ e.nms = (es.map Ex.nms).flatten ∧ es.length ≤ 2 ∧ ∀ a ∈ es, a.ok ∧ a.ht ≤ m := by
      intro es he h1 h2
      subst he
      cases e with
      | dig z => exact absurd rfl (h1 z)
      | nm z => exact absurd rfl (h2 z)
      | no a =>
        simp only [Ex.ht] at hn
        refine ⟨⟨"not", by decide, rfl⟩, by simp [Ex.nms, Ex.parts], by simp [Ex.parts], fun b hb => ?_⟩
        obtain rfl : b = a := by simpa [Ex.parts] using hb
        exact ⟨ok, by omega⟩
      | bin o a b =>
        simp only [Ex.ht] at hn
        refine ⟨⟨o.s, by cases o <;> decide, rfl⟩, by simp [Ex.nms, Ex.parts], by simp [Ex.parts], fun c hc => ?_⟩
        rcases (show c = a ∨ c = b by simpa [Ex.parts] using hc) with rfl | rfl
        · exact ⟨ok.1, by omega⟩
        · exact ⟨ok.2, by omega⟩
    by_cases hc : (∀ z, e ≠ .dig z) ∧ (∀ z, e ≠ .nm z)
    · obtain ⟨n1, n2⟩ := hc
      obtain ⟨⟨z, hz, hd⟩, hnm, hl2, hall⟩ := long _ rfl n1 n2
      rw [hd] at hv td
      obtain ⟨a, xs, rfl, hs, hx⟩ := td.tupE
      refine run_whenF (et_B (evv_digitT hv)) rfl ?_
      refine run_whenF (et_test (evv_eq (evd_s (evd_ix trivial hv (evv_c trivial) (atI_nat (j := 0) rfl))) (evv_c trivial) rfl)) (decide_eq_false fun z1 => hz (V.str.inj z1)) ?_
      intro H1 e1 D q
      have e1 := e1.same
      refine ⟨by decide, fun l hl => ?_⟩
      have hlH := hl
      have hs := Same.sqt e1 hs
      have hxl : xs.length = e.parts.length + 1 := by rw [hx.len]; simp
      refine ⟨.ref a, rfl, _, rfl, a, xs, rfl, Same.sqt (same_new hl) hs, fun wh => ?_, fun nw t ht => ?_⟩
      · exfalso
        have h1 := wh.1
        rw [show (1 : Int) = ((1 : Nat) : Int) from rfl, HT.sIx_nat] at h1
        omega
      · have hcut : cutV xs (some 1) none = xs.drop 1 := cutV_from (k := 1) (by omega)
        rw [hcut]
        have htd : TdA K H1 (xs.drop 1) (e.parts.map Ex.d) := by
          have := tda_drop (hx.same e1) 1
          simpa using this
        have lt : l ≠ t := ne_of_none upd_same ht
        refine ⟨t, rfl, ⟨_, .of upd_same⟩, for_tup (xs := xs.drop 1) (fun i σ H2 => Same H1 H2 ∧ SqT K H2 t (xs.drop 1) ∧ H2 l = some (.lst (((e.parts.take i).map Ex.nms).flatten.map V.str)) ∧ σ.length = 3 ∧ σ[1]? = some (some (.ref l)))
          ⟨(same_new hl).trans (same_new ht), .of upd_same, by rw [upd_ne lt, upd_same]; rfl, rfl, rfl⟩ (fun i σ H2 _ h => h.2.1) ?_ ?_⟩
        · rintro i x σ H2 hi ⟨e2, hsq, hl2', hσ, h1⟩
          obtain ⟨d, hd', hxd⟩ := htd.getV hi
          rw [List.getElem?_map] at hd'
          cases hp : e.parts[i]? with
          | none => rw [hp] at hd'; cases hd'
          | some b =>
            rw [hp] at hd'
            obtain rfl : b.d = d := Option.some.inj hd'
            have hb := hall b (List.mem_of_getElem? hp)
            refine ⟨.ref l, by simpa [List.getElem?_set] using h1, .inl ⟨rfl, _, .of hl2'⟩, ?_⟩
            refine ⟨x, by simp [hσ], x, b, rfl, hb.1, hb.2, by omega, hxd.same e2, fun p H3 hp3 e3 hl3 => ?_⟩
            have lp : l ≠ p := ne_of_none hl2' hp3
            have hlen : (((e.parts.take i).map Ex.nms).flatten.map V.str).length + (b.nms.map V.str).length ≤ sizeLine := by
              have q1 : ∀ ys : List Ex, (∀ y ∈ ys, y.ht ≤ m) → (ys.map Ex.nms).flatten.length ≤ ys.length * 2 ^ m := by
                intro ys
                induction ys with
                | nil => intro _; simp
                | cons y ys ih =>
                  intro hy
                  have := ih fun u hu => hy u (List.mem_cons_of_mem _ hu)
                  have := nms_len y m (hy y (List.mem_cons_self ..))
                  simp only [List.map_cons, List.flatten_cons, List.length_append, List.length_cons, Nat.succ_mul]
                  omega
              have q2 := q1 (e.parts.take i) fun y hy => (hall y (List.mem_of_mem_take hy)).2
              have q3 := nms_len b m hb.2
              have q4 : (e.parts.take i).length ≤ 2 := Nat.le_trans (by rw [List.length_take]; omega) hl2
              have q5 : 2 ^ m ≤ 2 ^ 5 := Nat.pow_le_pow_right (by decide) (by omega)
              have q6 := Nat.mul_le_mul q4 q5
              rw [List.length_map, List.length_map, sizeLine_eq]
              omega
            refine ⟨l, p, _, _, rfl, rfl, e3 _ _ hl2', hl3, hlen, ?_⟩
            have e4 : Same H1 H3 := e2.trans e3
            refine ⟨Same.late e4 hlH, sqt_upd (Same.sqt e3 hsq) (e3 _ _ hl2'), ?_, by simpa using hσ, by simpa [List.getElem?_set] using h1⟩
            rw [upd_same, List.take_add_one, hp]
            simp
        · rintro σ H2 ⟨e2, hsq, hl2', hσ, h1⟩
          exact ⟨.ref l, h1, q _ _ (.of0 e2) ⟨l, rfl, fresh_back e1 hl, by rw [hl2', hnm, List.take_of_length_le (by rw [htd.len, List.length_map]; exact Nat.le_refl _)]⟩⟩
    cases e with
    | no a => exact absurd ⟨fun _ => nofun, fun _ => nofun⟩ hc
    | bin o a b => exact absurd ⟨fun _ => nofun, fun _ => nofun⟩ hc
    | dig z => exact run_whenT (et_B (evv_digit hv ok)) rfl (fun H1 e D q => ⟨by decide, fun p hp => q _ _ (.of0 (same_new hp)) ⟨p, rfl, fresh_back e.same hp, upd_same⟩⟩)
    | nm x =>
      refine run_whenF (et_B (evv_digitT hv)) rfl ?_
      refine run_whenT (et_test (evv_eq (evd_s (evd_ix trivial hv (evv_c trivial) rfl)) (evv_c trivial) rfl)) rfl ?_
      intro H1 e1 D q
      exact evd_s (evd_ix (d := .str x) trivial hv (evv_c trivial) rfl) H1 e1 _ fun v H2 e2 ev => ⟨(show 1 ≤ sizeLine by decide), fun p hp => q _ _ (.of0 (e2.same.trans (same_new hp))) ⟨p, rfl, fresh_back (e1.same.trans e2.same) hp, by rw [upd_same, show v = V.str x from ev]; rfl⟩⟩
end
end Oh
set_option maxHeartbeats 4000000
namespace Oh
open PySem PySem.Spec PyProof.Rows L2
open C8 (Cal Met Mak pe_c pe_mk pe_mt pe_mt0 pe_gc InsC call_isC tCut pss_cut fnBody fnArgs fnScope)
section
variable {P : Program} {w : World} {K : PySem.W.Frag} {mg : Str → Option Value} {base : Heap} {F : Fm} {te tb : TE} {σ : L2.St} {H : Hp} {E : XK}
/-! ### blocks.py: the shapes -/
def spBlk (K : PySem.W.Frag) : Sp := fun vs H Q _ => ∃ a xs, vs = [.ref a] ∧ SqT K H a xs ∧ xs.length ≤ 12 ∧ Q (.bl true) H
theorem sc_is_block_shape : FnScope ["value"] ["value"] (fnScope s_is_block_shape) := ⟨rfl, rfl, rfl, by decide +kernel, rfl, by decide +kernel, by decide +kernel⟩
theorem c_is_block_shape (T : Tx w K mg) : Cal P w K mg base 1 "is_block_shape" (spBlk K) [] := by
  refine T.d_is_block_shape.cal sc_is_block_shape (fun F => ⟨[], .nil, F.bindsN fun _ _ _ _ _ _ us hl => match us, hl with | [_], _ => rfl⟩) (by rintro vs H Q E ⟨a, xs, rfl, _⟩; rfl) fun f cdv A outer s H vs Q E hr h => ?_
  obtain ⟨a, xs, rfl, hs, hl, hQ⟩ := h
  refine ⟨_, (pss_one (ps_ret (pe_and (pe_callB call_isi rfl T.z_isinstance (by decide +kernel) (pa_cons (pv 0) (pa_cons (pe_bltn (v := .ty "tuple") (u := .type "tuple") rfl T.z_tuple (by decide +kernel) rfl) pa_nil))) (pe_one (pe_cmpR op_le (pe_callB (r := rLenQ K) call_len_seq rfl T.z_len PySem.boot_len (pa_cons (pv 0) pa_nil)) (pe_gc rfl T.g_MOST_STATEMENTS) (nomark _)))))), ?_⟩
  exact ⟨_, rfl, _, _, _, _, true, rfl, .ty _, SqT.tyx hs, kit_ty (by decide +kernel), true, rfl, _, rfl, a, xs, rfl, .inr hs, _, 12, rfl, rfl, qb (congrArg V.bl (decide_eq_true (by omega))) hQ⟩
theorem evv_blk {ds : List PyData} (h : EvD F K te σ H (.tuple ds)) (hl : ds.length ≤ 12) : EvV F (tCall (spBlk K) [] E (tCons te tNil)) σ H (.bl true) :=
  ev_call (ea_cons h ea_nil) fun vs H1 e1 p Q q => by
    match vs, p with
    | [x], ⟨⟨d0, e0, p0⟩, _⟩ =>
      subst e0
      obtain ⟨a, xs, rfl, hs, hd⟩ := p0.tupE
      exact ⟨a, xs, rfl, hs, by rw [hd.len]; exact hl, q _ _ (.refl e1.good) rfl⟩
def spBlks (K : PySem.W.Frag) : Sp := fun vs H Q _ => ∃ v, ∃ ks : List (List PyData), vs = [v] ∧ Td K H v (.tuple (ks.map .tuple)) ∧ (1 ≤ ks.length ∧ ks.length ≤ 4) ∧ (∀ k ∈ ks, k.length ≤ 12) ∧ ∀ H', Same H H' → Q (.bl true) H'
theorem sc_are_blocks : FnScope ["value", "block"] ["value"] (fnScope s_are_blocks) := ⟨rfl, rfl, rfl, by decide +kernel, rfl, by decide +kernel, by decide +kernel⟩
theorem c_are_blocks (T : Tx w K mg) : Cal P w K mg base 2 "are_blocks" (spBlks K) [] := by
  have c_is_block_shape := c_is_block_shape (P := P) (base := base) T
  refine T.d_are_blocks.cal sc_are_blocks (fun F => ⟨[], .nil, F.bindsN fun _ _ _ _ _ _ us hl => match us, hl with | [_], _ => rfl⟩) (by rintro vs H Q E ⟨a, xs, rfl, _⟩; rfl) fun f cdv A outer s H vs Q E hr h => ?_
  obtain ⟨v, ks, rfl, td, ⟨h1, h4⟩, h12, hQ⟩ := h
  refine ⟨_, (pss_cons (ps_if (PW.pt (pw_or (pt_not (pt_val (pe_callB call_isi rfl T.z_isinstance (by decide +kernel) (pa_cons (pv 0) (pa_cons (pe_bltn (v := .ty "tuple") (u := .type "tuple") rfl T.z_tuple (by decide +kernel) rfl) pa_nil))))) (pw_or1 (pt_not (pt_chain op_le op_le pe_int (pe_callB (r := rLenQ K) call_len_seq rfl T.z_len PySem.boot_len (pa_cons (pv 0) pa_nil)) (pe_gc rfl T.g_MOST_ROWS))))))
      (pss_one (ps_ret pe_bl))
      pss_nil)
    (pss_cons (ps_for PassesOwn.never rfl (pi_tup (pv 0)) (pg_name (i := 1) sc_are_blocks.nd rfl (Or.inl rfl))
      (pss_one (ps_if (pt_not (pt_val (pe_c c_is_block_shape hr (by omega) rfl (pa_cons (pv 1) pa_nil))))
        (pss_one (ps_ret pe_bl))
        pss_nil)))
    (pss_one (ps_ret pe_bl)))), ?_⟩
  refine run_go (R := .eq (.bl true)) ?_ (fun v H1 e p => by rw [show v = V.bl true from p]; exact hQ _ e)
  have hv : ∀ {σ : L2.St} {i}, σ[i]? = some (some v) → EvD F0 K (tVar i) σ H (.tuple (ks.map .tuple)) := fun h => evd_var trivial h td
  refine run_whenF (et_or (et_not (et_B (evv_isi (hv rfl) (b := true) kit_tt trivial))) fun _ => et_not (et_B (evv_chain (evv_c trivial) (evv_len (hv rfl)) (evv_c trivial)))) ?_ ?_
  · rw [List.length_map, decide_eq_true (show (1 : Int) ≤ (ks.length : Int) by omega), decide_eq_true (show (ks.length : Int) ≤ 4 by omega)]; rfl
  refine runN_for trivial (hv rfl) (fun i σ => σ.length = 2) rfl (fun i d σ' x H1 hd hl e1 tx => ⟨σ'.set 1 (some x), by simpa using hl, ?_⟩) fun σ' _ => run_retV (evv_c trivial) fun _ _ => rfl
  obtain ⟨k, hk, rfl⟩ := List.mem_map.mp (List.mem_of_getElem? hd)
  exact runN_skip (et_not (et_B (evv_blk (evd_var trivial (by simp [hl]) tx) (h12 k hk)))) rfl
theorem evv_blks {ks : List (List PyData)} (h : EvD F K te σ H (.tuple (ks.map .tuple))) (hl : 1 ≤ ks.length ∧ ks.length ≤ 4) (h12 : ∀ k ∈ ks, k.length ≤ 12) : EvV F (tCall (spBlks K) [] E (tCons te tNil)) σ H (.bl true) :=
  ev_call (ea_cons h ea_nil) fun vs H1 e1 p Q q => by
    match vs, p with
    | [x], ⟨⟨d0, e0, p0⟩, _⟩ =>
      subst e0
      exact ⟨x, ks, rfl, p0, hl, h12, fun H' e => q _ _ (.of e1.good e) rfl⟩
def spRows (K : PySem.W.Frag) : Sp := fun vs H Q _ => ∃ v, ∃ rs : List (Str × Str), ∃ ks : List (List PyData), vs = [v] ∧ Td K H v (.tuple (rowsD rs (ks.map .tuple))) ∧ rs.length = ks.length ∧ (1 ≤ ks.length ∧ ks.length ≤ 4) ∧ (∀ k ∈ ks, k.length ≤ 12) ∧
  (∀ r ∈ rs, NameOk r.1 ∧ NameOk r.2) ∧ (rs.map (·.1)).Nodup ∧ ∀ H', Same H H' → Q (.bl true) H'
theorem rowsD_get : ∀ (rs : List (Str × Str)) (ks : List PyData) (i : Nat) (r : Str × Str) (k : PyData), rs[i]? = some r → ks[i]? = some k → (rowsD rs ks)[i]? = some (.tuple [.str r.1, .str r.2, k])
  | r :: rs, k :: ks, 0, _, _, h1, h2 => by
    cases h1
    cases h2
    rfl
  | r :: rs, k :: ks, i + 1, _, _, h1, h2 => rowsD_get rs ks i _ _ (by simpa using h1) (by simpa using h2)
  | [], _, _, _, _, h1, _ => by simp at h1
  | _ :: _, [], _, _, _, _, h2 => by simp at h2
theorem rowsD_len : ∀ (rs : List (Str × Str)) (ks : List PyData), rs.length = ks.length → (rowsD rs ks).length = rs.length
  | [], [], _ => rfl
  | r :: rs, k :: ks, h => by simp [rowsD, rowsD_len rs ks (by simpa using h)]
  | [], _ :: _, h => by simp at h
  | _ :: _, [], h => by simp at h
theorem sc_are_rows : FnScope ["value", "ports", "row"] ["value"] (fnScope s_are_rows) := ⟨rfl, rfl, rfl, by decide +kernel, rfl, by decide +kernel, by decide +kernel⟩
theorem c_are_rows (T : Tx w K mg) : Cal P w K mg base 2 "are_rows" (spRows K) [] := by
  have c_is_block_shape := c_is_block_shape (P := P) (base := base) T
  have c_is_name := c_is_name (P := P) (base := base) T
  have c_is_tuple := c_is_tuple (P := P) (base := base) T
  refine T.d_are_rows.cal sc_are_rows (fun F => ⟨[], .nil, F.bindsN fun _ _ _ _ _ _ us hl => match us, hl with | [_], _ => rfl⟩) (by rintro vs H Q E ⟨a, xs, _, rfl, _⟩; rfl) fun f cdv A outer s H vs Q E hr h => ?_
  obtain ⟨v, rs, ks, rfl, td, hrk, ⟨h1, h4⟩, h12, hnm, hnd, hQ⟩ := h
  refine ⟨_, (pss_cons (ps_if (PW.pt (pw_or (pt_not (pt_val (pe_callB call_isi rfl T.z_isinstance (by decide +kernel) (pa_cons (pv 0) (pa_cons (pe_bltn (v := .ty "tuple") (u := .type "tuple") rfl T.z_tuple (by decide +kernel) rfl) pa_nil))))) (pw_or1 (pt_not (pt_chain op_le op_le pe_int (pe_callB (r := rLenQ K) call_len_seq rfl T.z_len PySem.boot_len (pa_cons (pv 0) pa_nil)) (pe_gc rfl T.g_MOST_ROWS))))))
      (pss_one (ps_ret pe_bl))
      pss_nil)
    (pss_cons (ps_set (i := 1) sc_are_rows.nd rfl (Or.inl rfl) (pe_lst pa_nil))
    (pss_cons (ps_for PassesOwn.never rfl (pi_tup (pv 0)) (pg_name (i := 2) sc_are_rows.nd rfl (Or.inl rfl))
      (pss_cons (ps_if (PW.pt (pw_or (pt_not (pt_val (pe_c c_is_tuple hr (by omega) rfl (pa_cons (pv 2) (pa_cons pe_int pa_nil))))) (pw_or (pt_not (pt_val (pe_c c_is_name hr (by omega) rfl (pa_cons (pe_ix (r := rIxT K) ix_tup (pv 2) pe_int (fun _ _ => rfl)) pa_nil)))) (pw_or1 (pt_not (pt_val (pe_c c_is_name hr (by omega) rfl (pa_cons (pe_ix (r := rIxT K) ix_tup (pv 2) pe_int (fun _ _ => rfl)) pa_nil))))))))
        (pss_one (ps_ret pe_bl))
        pss_nil)
      (pss_cons (ps_if (PW.pt (pw_or (pt_cmpR op_in_seq (pe_ix (r := rIxT K) ix_tup (pv 2) pe_int (fun _ _ => rfl)) (pv 1) rfl) (pw_or1 (pt_not (pt_val (pe_c c_is_block_shape hr (by omega) rfl (pa_cons (pe_ix (r := rIxT K) ix_tup (pv 2) pe_int (fun _ _ => rfl)) pa_nil)))))))
        (pss_one (ps_ret pe_bl))
        pss_nil)
      (pss_one (ps_expr (pe_bm PySem.F.plainAttrs_list PySem.F.slot_list_append PySem.F.type_list_append mt_append (pv 1) (pa_cons (pe_ix (r := rIxT K) ix_tup (pv 2) pe_int (fun _ _ => rfl)) pa_nil)))))))
    (pss_one (ps_ret pe_bl))))), ?_⟩
  refine run_go (R := .eq (.bl true)) ?_ (fun v H1 e p => by rw [show v = V.bl true from p]; exact hQ _ e)
  have hv : ∀ {σ : L2.St} {i}, σ[i]? = some (some v) → EvD F0 K (tVar i) σ H (.tuple (rowsD rs (ks.map .tuple))) := fun h => evd_var trivial h td
  have hlen : (rowsD rs (ks.map .tuple)).length = ks.length := by rw [rowsD_len _ _ (by rw [List.length_map]; exact hrk), hrk]
  refine run_whenF (et_or (et_not (et_B (evv_isi (hv rfl) (b := true) kit_tt trivial))) fun _ => et_not (et_B (evv_chain (evv_c trivial) (evv_len (hv rfl)) (evv_c trivial)))) ?_ ?_
  · rw [hlen, decide_eq_true (show (1 : Int) ≤ (ks.length : Int) by omega), decide_eq_true (show (ks.length : Int) ≤ 4 by omega)]; rfl
  intro H1 e1 D q
  have e1 := e1.same
  refine ⟨by decide, fun l hl => ?_⟩
  obtain ⟨a, xs, rfl, hs, hx⟩ := (td.same (e1.trans (same_new hl))).tupE
  refine ⟨.ref a, rfl, a, rfl, ⟨_, hs⟩, for_tup (xs := xs) (fun i σ H2 => Same H1 H2 ∧ H2 l = some (.lst ((rs.take i).map fun r => V.str r.1)) ∧ σ.length = 3 ∧ σ[1]? = some (some (.ref l)) ∧ SqT K H2 a xs ∧ TdA K H2 xs (rowsD rs (ks.map .tuple)))
    ⟨same_new hl, upd_same, rfl, rfl, hs, hx⟩ (fun i σ H2 _ z => z.2.2.2.2.1) ?_ ?_⟩
  · rintro i x σ H2 hi ⟨e2, hl2, hσ, h1', hs2, hx2⟩
    have hi2 : i < rs.length := by
      have := (List.getElem?_eq_some_iff.mp hi).1
      rw [hx2.len, hlen] at this
      omega
    obtain ⟨r, hr'⟩ : ∃ r, rs[i]? = some r := ⟨_, List.getElem?_eq_getElem hi2⟩
    obtain ⟨k, hk'⟩ : ∃ k, ks[i]? = some k := ⟨_, List.getElem?_eq_getElem (by omega)⟩
    obtain ⟨d, hd, hxd⟩ := hx2.getV hi
    rw [rowsD_get rs _ i r (.tuple k) hr' (by rw [List.getElem?_map, hk']; rfl)] at hd
    cases hd
    have hrn := hnm r (List.mem_of_getElem? hr')
    have hx0 : ∀ {σ : L2.St} {j}, σ[j]? = some (some x) → EvD F0 K (tVar j) σ H2 (.tuple [.str r.1, .str r.2, .tuple k]) := fun h => evd_var trivial h hxd
    have hs2x : (σ.set 2 (some x))[2]? = some (some x) := by simp [hσ]
    have hs1x : (σ.set 2 (some x))[1]? = some (some (.ref l)) := by simpa using h1'
    have hnew : (rs.take i).map (fun r => V.str r.1) = ((rs.take i).map (·.1)).map V.str := by rw [List.map_map]; rfl
    -- the first test
    refine (runN_skip (F := F0) (et_or (et_not (et_B (evv_tuple (hx0 hs2x) rfl trivial))) fun _ => et_or (et_not (et_B (evv_name (evd_ix (d := .str r.1) trivial (hx0 hs2x) (evv_c trivial) rfl) hrn.1))) fun _ => et_not (et_B (evv_name (evd_ix (d := .str r.2) trivial (hx0 hs2x) (evv_c trivial) rfl) hrn.2))) rfl) H2 (.refl trivial) _ fun H3 e3 => ?_
    have e3 := e3.same
    have hl3 := e3 _ _ hl2
    have hx3 : ∀ {σ : L2.St} {j}, σ[j]? = some (some x) → EvD F0 K (tVar j) σ H3 (.tuple [.str r.1, .str r.2, .tuple k]) := fun h => evd_var trivial h (hxd.same e3)
    have hin : EvV F0 (tOp (rIn K false) (tOp (rIxT K) (tVar 2) (tC (.int 0))) (tVar 1)) (σ.set 2 (some x)) H3 (.bl false) :=
      ev_op (evd_s (evd_ix (d := .str r.1) trivial (hx3 hs2x) (evv_c trivial) rfl)) (evv_var trivial hs1x) fun y z H4 e4 py pz Q q => by
        rw [show y = V.str r.1 from py, show z = V.ref l from pz]
        refine ⟨l, _, rfl, .inl (.of (e4.same _ _ hl3)), rfl, List.all_eq_true.mpr fun u hu => by obtain ⟨r, _, rfl⟩ := List.mem_map.mp hu; rfl, ?_⟩
        have hnot : inV (V.str r.1) ((rs.take i).map fun r => V.str r.1) = false := by
          rw [hnew, inV_strs]
          have hnd2 : ((rs.take i).map (·.1) ++ (rs.drop i).map (·.1)).Nodup := by rw [← List.map_append, List.take_append_drop]; exact hnd
          have hm : r.1 ∈ (rs.drop i).map (·.1) := by
            refine List.mem_map.mpr ⟨r, ?_, rfl⟩
            obtain ⟨hlt, e⟩ := List.getElem?_eq_some_iff.mp hr'
            rw [List.drop_eq_getElem_cons hlt, e]
            exact List.mem_cons_self ..
          cases hc : ((rs.take i).map (·.1)).contains r.1 with
          | false => rfl
          | true => exact absurd rfl ((List.nodup_append.mp hnd2).2.2 _ (List.contains_iff_mem.mp hc) _ hm)
        rw [hnot]
        exact q _ _ (.refl trivial) rfl
    refine (runN_skip (F := F0) (et_or (et_test hin) fun _ => et_not (et_B (evv_blk (evd_ix (d := .tuple k) trivial (hx3 hs2x) (evv_c trivial) rfl) (h12 k (List.mem_of_getElem? hk'))))) rfl) H3 (.refl trivial) _ fun H4 e4 => ?_
    have e4 := e4.same
    refine ⟨.ref l, hs1x, .inl ⟨rfl, _, .of (e4 _ _ hl3)⟩, ?_⟩
    refine (evd_s (evd_ix (d := .str r.1) trivial (hx3 hs2x) (evv_c trivial) rfl)) H4 (.of0 e4) _ fun y H5 e5 py => ?_
    have e5 := e5.same
    rw [show y = V.str r.1 from py]
    have hl5 := e5 _ _ (e4 _ _ hl3)
    have e35 := e3.trans (e4.trans e5)
    refine ⟨l, _, .str r.1, rfl, rfl, hl5, by rw [List.length_map, List.length_take, sizeLine_eq]; omega, ?_⟩
    refine ⟨Same.late (e2.trans e35) hl, ?_, by simpa using hσ, hs1x, sqt_upd (Same.sqt e35 hs2) hl5, (hx2.same e35).tl (tl_upd hl5)⟩
    rw [upd_same, List.take_add_one, hr']
    simp
  · rintro σ H2 ⟨e2, _⟩
    exact q _ _ (.of0 e2) rfl
theorem evv_rows {rs : List (Str × Str)} {ks : List (List PyData)} (h : EvD F K te σ H (.tuple (rowsD rs (ks.map .tuple)))) (hrk : rs.length = ks.length) (hl : 1 ≤ ks.length ∧ ks.length ≤ 4) (h12 : ∀ k ∈ ks, k.length ≤ 12) (hn : ∀ r ∈ rs, NameOk r.1 ∧ NameOk r.2) (hd : (rs.map (·.1)).Nodup) :
    EvV F (tCall (spRows K) [] E (tCons te tNil)) σ H (.bl true) :=
  ev_call (ea_cons h ea_nil) fun vs H1 e1 p Q q => by
    match vs, p with
    | [x], ⟨⟨d0, e0, p0⟩, _⟩ =>
      subst e0
      exact ⟨x, rs, ks, rfl, p0, hrk, hl, h12, hn, hd, fun H' e => q _ _ (.of e1.good e) rfl⟩
end
end Oh
set_option maxHeartbeats 4000000
namespace Oh
open PySem PySem.Spec PyProof.Rows L2
open C8 (Cal Met Mak pe_c pe_mk pe_mt pe_mt0 pe_gc InsC call_isC tCut pss_cut fnBody fnArgs fnScope)
theorem bbd_tup (ks : List (List T)) : bbd ks = (ks.map bd).map .tuple := by rw [bbd_eq, List.map_map]; rfl
section
variable {P : Program} {w : World} {K : PySem.W.Frag} {mg : Str → Option Value} {base : Heap} {F : Fm} {te tb : TE} {σ : L2.St} {H : Hp} {E : XK}
def spDeal (K : PySem.W.Frag) : Sp := fun vs H Q _ => ∃ v d, vs = [v] ∧ Td K H v d ∧ ((∃ p x : Str, d = .tuple [.str "hear", .str p, .str x] ∧ NameOk p ∧ NameOk x) ∨ ∃ s p : Str, ∃ e : Ex, s ≠ "hear" ∧ d = .tuple [.str s, .str p, e.d] ∧ NameOk p ∧ e.ok ∧ e.ht ≤ 5) ∧ ∀ H', Same H H' → Q (.bl true) H'
theorem sc_is_dealing_shape : FnScope ["value"] ["value"] (fnScope s_is_dealing_shape) := ⟨rfl, rfl, rfl, by decide +kernel, rfl, by decide +kernel, by decide +kernel⟩
theorem c_is_dealing_shape (T : Tx w K mg) : Cal P w K mg base 10 "is_dealing_shape" (spDeal K) [] := by
  have c_is_name := c_is_name (P := P) (base := base) T
  have c_is_expression := (c_is_expression (P := P) (base := base) T 5).2
  refine T.d_is_dealing_shape.cal sc_is_dealing_shape (fun F => ⟨[], .nil, F.bindsN fun _ _ _ _ _ _ us hl => match us, hl with | [_], _ => rfl⟩) (by rintro vs H Q E ⟨a, xs, rfl, _⟩; rfl) fun f cdv A outer s H vs Q E hr h => ?_
  obtain ⟨v, d, rfl, td, hd, hQ⟩ := h
  refine ⟨_, (pss_cons (ps_if (PW.pt (pw_or (pt_cmpR op_ne (pe_callB (r := rLenQ K) call_len_seq rfl T.z_len PySem.boot_len (pa_cons (pv 0) pa_nil)) pe_int (nomark _)) (pw_or1 (pt_not (pt_val (pe_c c_is_name hr (by omega) rfl (pa_cons (pe_ix (r := rIxT K) ix_tup (pv 0) pe_int (fun _ _ => rfl)) pa_nil)))))))
      (pss_one (ps_ret pe_bl))
      pss_nil)
    (pss_cons (ps_if (pt_cmpR op_eq (pe_ix (r := rIxT K) ix_tup (pv 0) pe_int (fun _ _ => rfl)) pe_str (nomark _))
      (pss_one (ps_ret (pe_c c_is_name hr (by omega) rfl (pa_cons (pe_ix (r := rIxT K) ix_tup (pv 0) pe_int (fun _ _ => rfl)) pa_nil))))
      pss_nil)
    (pss_one (ps_ret (pe_c c_is_expression hr (by omega) rfl (pa_cons (pe_ix (r := rIxT K) ix_tup (pv 0) pe_int (fun _ _ => rfl)) pa_nil)))))), ?_⟩
  refine run_go (R := .eq (.bl true)) ?_ (fun v H1 e p => by rw [show v = V.bl true from p]; exact hQ _ e)
  rcases hd with ⟨p, x, rfl, hp, hx⟩ | ⟨s, p, e, hs, rfl, hp, he, h5⟩
  · have hv : EvD F0 K (tVar 0) (L2.start ["value"] [v]) H (.tuple [.str "hear", .str p, .str x]) := evd_var trivial rfl td
    refine run_whenF (et_or (et_test (evv_ne (evv_len hv) (evv_c trivial) rfl)) fun _ => et_not (et_B (evv_name (evd_ix (d := .str p) trivial hv (evv_c trivial) rfl) hp))) rfl ?_
    refine run_whenT (et_test (evv_eq (evd_s (evd_ix (d := .str "hear") trivial hv (evv_c trivial) rfl)) (evv_c trivial) rfl)) (by decide) ?_
    exact run_retV (evv_name (evd_ix (d := .str x) trivial hv (evv_c trivial) rfl) hx) fun _ _ => rfl
  · have hv : EvD F0 K (tVar 0) (L2.start ["value"] [v]) H (.tuple [.str s, .str p, e.d]) := evd_var trivial rfl td
    refine run_whenF (et_or (et_test (evv_ne (evv_len hv) (evv_c trivial) rfl)) fun _ => et_not (et_B (evv_name (evd_ix (d := .str p) trivial hv (evv_c trivial) rfl) hp))) rfl ?_
    refine run_whenF (et_test (evv_eq (evd_s (evd_ix (d := .str s) trivial hv (evv_c trivial) rfl)) (evv_c trivial) rfl)) (decide_eq_false fun z => hs (V.str.inj z)) ?_
    exact run_retV (evv_expr5 (evd_ix (d := e.d) trivial hv (evv_c trivial) rfl) he h5 h5) fun _ _ => rfl
theorem evv_deal {d : PyData} (h : EvD F K te σ H d) (hd : (∃ p x : Str, d = .tuple [.str "hear", .str p, .str x] ∧ NameOk p ∧ NameOk x) ∨ ∃ s p : Str, ∃ e : Ex, s ≠ "hear" ∧ d = .tuple [.str s, .str p, e.d] ∧ NameOk p ∧ e.ok ∧ e.ht ≤ 5) : EvV F (tCall (spDeal K) [] E (tCons te tNil)) σ H (.bl true) :=
  ev_call (ea_cons h ea_nil) fun vs H1 e1 p Q q => by
    match vs, p with
    | [x], ⟨⟨d0, e0, p0⟩, _⟩ =>
      subst e0
      exact ⟨x, _, rfl, p0, hd, fun H' e => q _ _ (.of e1.good e) rfl⟩
def spIf (K : PySem.W.Frag) : Sp := fun vs H Q _ => ∃ v, ∃ e : Ex, ∃ a b, vs = [v] ∧ Td K H v (.tuple [.str "if", e.d, .tuple a, .tuple b]) ∧ (e.ok ∧ e.ht ≤ 5) ∧ (a.length ≤ 12 ∧ b.length ≤ 12) ∧ ∀ H', Same H H' → Q (.bl true) H'
theorem sc_is_if_shape : FnScope ["value"] ["value"] (fnScope s_is_if_shape) := ⟨rfl, rfl, rfl, by decide +kernel, rfl, by decide +kernel, by decide +kernel⟩
theorem c_is_if_shape (T : Tx w K mg) : Cal P w K mg base 10 "is_if_shape" (spIf K) [] := by
  have c_is_block_shape := c_is_block_shape (P := P) (base := base) T
  have c_is_expression := (c_is_expression (P := P) (base := base) T 5).2
  refine T.d_is_if_shape.cal sc_is_if_shape (fun F => ⟨[], .nil, F.bindsN fun _ _ _ _ _ _ us hl => match us, hl with | [_], _ => rfl⟩) (by rintro vs H Q E ⟨a, xs, _, _, rfl, _⟩; rfl) fun f cdv A outer s H vs Q E hr h => ?_
  obtain ⟨v, e, a, b, rfl, td, ⟨he, h5⟩, ⟨ha, hb⟩, hQ⟩ := h
  refine ⟨_, (pss_cons (ps_if (PW.pt (pw_or (pt_cmpR op_ne (pe_callB (r := rLenQ K) call_len_seq rfl T.z_len PySem.boot_len (pa_cons (pv 0) pa_nil)) pe_int (nomark _)) (pw_or1 (pt_not (pt_val (pe_c c_is_expression hr (by omega) rfl (pa_cons (pe_ix (r := rIxT K) ix_tup (pv 0) pe_int (fun _ _ => rfl)) pa_nil)))))))
      (pss_one (ps_ret pe_bl))
      pss_nil)
    (pss_one (ps_ret (pe_and (pe_c c_is_block_shape hr (by omega) rfl (pa_cons (pe_ix (r := rIxT K) ix_tup (pv 0) pe_int (fun _ _ => rfl)) pa_nil)) (pe_one (pe_c c_is_block_shape hr (by omega) rfl (pa_cons (pe_ix (r := rIxT K) ix_tup (pv 0) pe_int (fun _ _ => rfl)) pa_nil))))))), ?_⟩
  refine run_go (R := .eq (.bl true)) ?_ (fun v H1 e p => by rw [show v = V.bl true from p]; exact hQ _ e)
  have hv : EvD F0 K (tVar 0) (L2.start ["value"] [v]) H (.tuple [.str "if", e.d, .tuple a, .tuple b]) := evd_var trivial rfl td
  refine run_whenF (et_or (et_test (evv_ne (evv_len hv) (evv_c trivial) rfl)) fun _ => et_not (et_B (evv_expr5 (evd_ix (d := e.d) trivial hv (evv_c trivial) rfl) he h5 h5))) rfl ?_
  exact run_retV (evv_and (evv_blk (evd_ix (d := .tuple a) trivial hv (evv_c trivial) rfl) ha) fun _ => evv_blk (evd_ix (d := .tuple b) trivial hv (evv_c trivial) rfl) hb) fun _ _ => rfl
theorem evv_if {e : Ex} {a b : List PyData} (h : EvD F K te σ H (.tuple [.str "if", e.d, .tuple a, .tuple b])) (he : e.ok ∧ e.ht ≤ 5) (hl : a.length ≤ 12 ∧ b.length ≤ 12) : EvV F (tCall (spIf K) [] E (tCons te tNil)) σ H (.bl true) :=
  ev_call (ea_cons h ea_nil) fun vs H1 e1 p Q q => by
    match vs, p with
    | [x], ⟨⟨d0, e0, p0⟩, _⟩ =>
      subst e0
      exact ⟨x, e, a, b, rfl, p0, he, hl, fun H' e => q _ _ (.of e1.good e) rfl⟩
def spStm (K : PySem.W.Frag) : Sp := fun vs H Q _ => ∃ v h ks, vs = [v] ∧ okH h ks ∧ (∀ b ∈ ks, b.length ≤ 12) ∧ Td K H v (T.mk h ks).d ∧ ∀ H', Same H H' → Q (.bl true) H'
theorem sc_is_statement : FnScope ["value", "kind"] ["value"] (fnScope s_is_statement) := ⟨rfl, rfl, rfl, by decide +kernel, rfl, by decide +kernel, by decide +kernel⟩
theorem c_is_statement (T : Tx w K mg) : Cal P w K mg base 11 "is_statement" (spStm K) [] := by
  have c_is_dealing_shape := c_is_dealing_shape (P := P) (base := base) T
  have c_is_if_shape := c_is_if_shape (P := P) (base := base) T
  have c_are_rows := c_are_rows (P := P) (base := base) T
  have c_are_blocks := c_are_blocks (P := P) (base := base) T
  have c_is_block_shape := c_is_block_shape (P := P) (base := base) T
  refine T.d_is_statement.cal sc_is_statement (fun F => ⟨[], .nil, F.bindsN fun _ _ _ _ _ _ us hl => match us, hl with | [_], _ => rfl⟩) (by rintro vs H Q E ⟨a, xs, _, rfl, _⟩; rfl) fun f cdv A outer s H vs Q E hr h => ?_
  obtain ⟨v, h, ks, rfl, ok, h12, td, hQ⟩ := h
  refine ⟨_, (pss_cons (ps_if (PW.pt (pw_or (pt_not (pt_val (pe_callB call_isi rfl T.z_isinstance (by decide +kernel) (pa_cons (pv 0) (pa_cons (pe_bltn (v := .ty "tuple") (u := .type "tuple") rfl T.z_tuple (by decide +kernel) rfl) pa_nil))))) (pw_or (pt_cmpR op_eq (pe_callB (r := rLenQ K) call_len_seq rfl T.z_len PySem.boot_len (pa_cons (pv 0) pa_nil)) pe_int (nomark _)) (pw_or1 (pt_not (pt_val (pe_callB call_isi rfl T.z_isinstance (by decide +kernel) (pa_cons (pe_ix (r := rIxT K) ix_tup (pv 0) pe_int (fun _ _ => rfl)) (pa_cons (pe_bltn (v := .ty "str") (u := .type "str") rfl T.z_str (by decide +kernel) rfl) pa_nil)))))))))
      (pss_one (ps_ret pe_bl))
      pss_nil)
    (pss_cons (ps_set (i := 1) sc_is_statement.nd rfl (Or.inl rfl) (pe_ix (r := rIxT K) ix_tup (pv 0) pe_int (fun _ _ => rfl)))
    (pss_cons (ps_if (pt_cmpR op_in_seq (pv 1) (pe_tup (pa_cons pe_str (pa_cons pe_str (pa_cons pe_str pa_nil)))) rfl)
      (pss_one (ps_ret (pe_c c_is_dealing_shape hr (by omega) rfl (pa_cons (pv 0) pa_nil))))
      pss_nil)
    (pss_cons (ps_if (pt_cmpR op_in_seq (pv 1) (pe_tup (pa_cons pe_str (pa_cons pe_str (pa_cons pe_str pa_nil)))) rfl)
      (pss_one (ps_ret (pe_cmpR op_eq (pe_callB (r := rLenQ K) call_len_seq rfl T.z_len PySem.boot_len (pa_cons (pv 0) pa_nil)) pe_int (nomark _))))
      pss_nil)
    (pss_cons (ps_if (pt_cmpR op_eq (pv 1) pe_str (nomark _))
      (pss_one (ps_ret (pe_c c_is_if_shape hr (by omega) rfl (pa_cons (pv 0) pa_nil))))
      pss_nil)
    (pss_cons (ps_if (pt_cmpR op_ne (pe_callB (r := rLenQ K) call_len_seq rfl T.z_len PySem.boot_len (pa_cons (pv 0) pa_nil)) pe_int (nomark _))
      (pss_one (ps_ret pe_bl))
      pss_nil)
    (pss_cons (ps_if (pt_cmpR op_eq (pv 1) pe_str (nomark _))
      (pss_one (ps_ret (pe_c c_are_rows hr (by omega) rfl (pa_cons (pe_ix (r := rIxT K) ix_tup (pv 0) pe_int (fun _ _ => rfl)) pa_nil))))
      pss_nil)
    (pss_cons (ps_if (pt_cmpR op_eq (pv 1) pe_str (nomark _))
      (pss_one (ps_ret (pe_c c_are_blocks hr (by omega) rfl (pa_cons (pe_ix (r := rIxT K) ix_tup (pv 0) pe_int (fun _ _ => rfl)) pa_nil))))
      pss_nil)
    (pss_one (ps_ret (pe_and (pe_cmpR op_eq (pv 1) pe_str (nomark _)) (pe_one (pe_c c_is_block_shape hr (by omega) rfl (pa_cons (pe_ix (r := rIxT K) ix_tup (pv 0) pe_int (fun _ _ => rfl)) pa_nil)))))))))))))), ?_⟩
  refine run_go (R := .eq (.bl true)) ?_ (fun v H1 e p => by rw [show v = V.bl true from p]; exact hQ _ e)
  have gen : ∃ (z : Str) (r : List PyData), (Oh.T.mk h ks).d = .tuple (.str z :: r) := by cases h <;> exact ⟨_, _, rfl⟩
  have h12' : ∀ k ∈ ks.map bd, k.length ≤ 12 := fun k hk => by obtain ⟨b, hb, rfl⟩ := List.mem_map.mp hk; rw [bd_len]; exact h12 b hb
  obtain ⟨z, r, hd⟩ := gen
  have hv : ∀ {σ : L2.St}, σ[0]? = some (some v) → EvD F0 K (tVar 0) σ H (.tuple (.str z :: r)) := fun h => evd_var trivial h (hd ▸ td)
  have hz : ∀ {σ : L2.St}, σ[1]? = some (some (.str z)) → EvV F0 (tVar 1) σ H (.str z) := fun h => evv_var trivial h
  have h0 : ∀ {σ : L2.St}, σ[0]? = some (some v) → EvD F0 K (tOp (rIxT K) (tVar 0) (tC (.int 0))) σ H (.str z) := fun h => evd_ix trivial (hv h) (evv_c trivial) (atI_nat (j := 0) rfl)
  have hl : decide (V.int ((PyData.str z :: r).length : Int) = V.int 0) = false := decide_eq_false fun e => by have := V.int.inj e; simp at this; omega
  refine run_whenF (et_or (et_not (et_B (evv_isi (hv rfl) (b := true) kit_tt trivial))) fun _ => et_or (et_test (evv_eq (evv_len (hv rfl)) (evv_c trivial) rfl)) fun _ => et_not (et_B (evv_isi (h0 rfl) (b := true) kit_ss trivial))) (by rw [hl]; rfl) ?_
  refine run_asgV (evd_s (h0 rfl)) ?_
  have i1 : EvB F0 (tTest (tOp (rIn K false) (tVar 1) (tTup (tCons (tC (.str "set")) (tCons (tC (.str "tell")) (tCons (tC (.str "hear")) tNil)))))) ((L2.start ["value", "kind"] [v]).set 1 (some (.str z))) H ((["set", "tell", "hear"] : List Str).contains z) :=
    et_test (evv_in (ss := ["set", "tell", "hear"]) (hz rfl) (evd_tup (eda_cons (evd_str trivial) (eda_cons (evd_str trivial) (eda_cons (evd_str trivial) eda_nil))) (by decide)))
  have i2 : EvB F0 (tTest (tOp (rIn K false) (tVar 1) (tTup (tCons (tC (.str "leave")) (tCons (tC (.str "home")) (tCons (tC (.str "fail")) tNil)))))) ((L2.start ["value", "kind"] [v]).set 1 (some (.str z))) H ((["leave", "home", "fail"] : List Str).contains z) :=
    et_test (evv_in (ss := ["leave", "home", "fail"]) (hz rfl) (evd_tup (eda_cons (evd_str trivial) (eda_cons (evd_str trivial) (eda_cons (evd_str trivial) eda_nil))) (by decide)))
  have ret : ∀ {te : TE}, EvV F0 te ((L2.start ["value", "kind"] [v]).set 1 (some (.str z))) H (.bl true) → RunS F0 (tRet te) ((L2.start ["value", "kind"] [v]).set 1 (some (.str z))) H (.eq (.bl true)) := fun h => run_retV h fun _ _ => rfl
  cases h with
  | set x e =>
    cases hd
    exact run_whenT i1 (by decide) (ret (evv_deal (hv rfl) (.inr ⟨_, x, e, by decide, rfl, ok.1⟩)))
  | tell x e =>
    cases hd
    exact run_whenT i1 (by decide) (ret (evv_deal (hv rfl) (.inr ⟨_, x, e, by decide, rfl, ok.1⟩)))
  | hear p x =>
    cases hd
    exact run_whenT i1 (by decide) (ret (evv_deal (hv rfl) (.inl ⟨p, x, rfl, ok.1⟩)))
  | leave =>
    cases hd
    exact run_whenF i1 (by decide) (run_whenT i2 (by decide) (ret (evv_eq (evv_len (hv rfl)) (evv_c trivial) rfl)))
  | home =>
    cases hd
    exact run_whenF i1 (by decide) (run_whenT i2 (by decide) (ret (evv_eq (evv_len (hv rfl)) (evv_c trivial) rfl)))
  | fail =>
    cases hd
    exact run_whenF i1 (by decide) (run_whenT i2 (by decide) (ret (evv_eq (evv_len (hv rfl)) (evv_c trivial) rfl)))
  | iff e =>
    obtain ⟨⟨he, h5⟩, hk⟩ := ok
    match ks, hk with
    | [a, b], _ =>
      cases hd
      exact run_whenF i1 (by decide) (run_whenF i2 (by decide) (run_whenT (et_test (evv_eq (hz rfl) (evv_c trivial) rfl)) (by decide) (ret (evv_if (e := e) (hv rfl) ⟨he, h5⟩ ⟨h12' _ (by simp), h12' _ (by simp)⟩))))
  | wait rows =>
    obtain ⟨hrk, hk, hn, hnd⟩ := ok
    cases hd
    refine run_whenF i1 (by decide) (run_whenF i2 (by decide) (run_whenF (et_test (evv_eq (hz rfl) (evv_c trivial) rfl)) (by decide) (run_whenF (et_test (evv_ne (evv_len (hv rfl)) (evv_c trivial) rfl)) rfl (run_whenT (et_test (evv_eq (hz rfl) (evv_c trivial) rfl)) (by decide) (ret ?_)))))
    exact evv_rows (rs := rows) (ks := ks.map bd) (evd_ix (d := .tuple (rowsD rows ((ks.map bd).map .tuple))) trivial (hv rfl) (evv_c trivial) (by rw [← bbd_tup]; rfl)) (by rw [List.length_map]; exact hrk) (by rw [List.length_map]; exact hk) h12' hn hnd
  | opn =>
    cases hd
    refine run_whenF i1 (by decide) (run_whenF i2 (by decide) (run_whenF (et_test (evv_eq (hz rfl) (evv_c trivial) rfl)) (by decide) (run_whenF (et_test (evv_ne (evv_len (hv rfl)) (evv_c trivial) rfl)) rfl (run_whenF (et_test (evv_eq (hz rfl) (evv_c trivial) rfl)) (by decide) (run_whenT (et_test (evv_eq (hz rfl) (evv_c trivial) rfl)) (by decide) (ret ?_))))))
    exact evv_blks (ks := ks.map bd) (evd_ix (d := .tuple ((ks.map bd).map .tuple)) trivial (hv rfl) (evv_c trivial) (by rw [← bbd_tup]; rfl)) (by rw [List.length_map]; exact ok) h12'
  | rep =>
    match ks, (show ks.length = 1 from ok) with
    | [a], _ =>
      cases hd
      refine run_whenF i1 (by decide) (run_whenF i2 (by decide) (run_whenF (et_test (evv_eq (hz rfl) (evv_c trivial) rfl)) (by decide) (run_whenF (et_test (evv_ne (evv_len (hv rfl)) (evv_c trivial) rfl)) rfl (run_whenF (et_test (evv_eq (hz rfl) (evv_c trivial) rfl)) (by decide) (run_whenF (et_test (evv_eq (hz rfl) (evv_c trivial) rfl)) (by decide) (ret ?_))))))
      exact evv_and (evv_eq (hz rfl) (evv_c trivial) rfl) fun _ => evv_blk (evd_ix (d := .tuple (bd a)) trivial (hv rfl) (evv_c trivial) rfl) (h12' _ (by simp))
theorem evv_stm {h : Hd} {ks : List (List T)} (hh : EvD F K te σ H (T.mk h ks).d) (ok : okH h ks) (h12 : ∀ b ∈ ks, b.length ≤ 12) : EvV F (tCall (spStm K) [] E (tCons te tNil)) σ H (.bl true) :=
  ev_call (ea_cons hh ea_nil) fun vs H1 e1 p Q q => by
    match vs, p with
    | [x], ⟨⟨d0, e0, p0⟩, _⟩ =>
      subst e0
      exact ⟨x, h, ks, rfl, ok, h12, p0, fun H' e => q _ _ (.of e1.good e) rfl⟩
end
end Oh
set_option maxHeartbeats 4000000
namespace Oh
open PySem PySem.Spec PyProof.Rows L2
open C8 (Cal Met Mak pe_c pe_mk pe_mt pe_mt0 pe_gc InsC call_isC tCut pss_cut fnBody fnArgs fnScope)
section
variable {P : Program} {w : World} {K : PySem.W.Frag} {mg : Str → Option Value} {base : Heap} {F : Fm} {te tb : TE} {σ : L2.St} {H : Hp} {E : XK} {T : VP F} {t : TA} {ds : List PyData}
theorem ev_lst (h : EvDA F K t σ H ds) (hl : ds.length ≤ 100000) : Ev F (tLst t) σ H (.nls K H (· = ds)) := fun H1 e Q q =>
  h H1 e _ fun vs H2 e2 p => by
    obtain ⟨es, a, b⟩ := all2_dt p
    have ee := allD_eq a
    subst ee
    refine ⟨by rw [b.len]; exact Nat.le_trans hl (by decide), fun p hp => ?_⟩
    have en : F.L H2 (upd H2 p (.lst vs)) := .new e2.good hp
    exact q _ _ (e2.trans en) ⟨p, vs, es, rfl, L_back (e.trans e2) hp, Fm.nosp e2.good hp, upd_same, b.tl (en.tl e2.good), rfl⟩
/-- list(t) of a tuple of data -/
theorem ev_listT (h : EvD F K te σ H (.tuple ds)) : Ev F (tCB (fun xs H Q => ∃ p ys, xs = [.ref p] ∧ (SqL K H p ys ∨ SqT K H p ys) ∧ ∀ l, H l = none → Q (.ref l) (upd H l (.lst ys))) (tCons te tNil)) σ H (.nls K H (· = ds)) := fun H1 e Q q =>
  h H1 e _ fun v H2 e2 ⟨d0, e0, p⟩ => by
    subst e0
    obtain ⟨a, xs, rfl, hs, hx⟩ := p.tupE
    refine ⟨a, xs, rfl, .inr hs, fun l hl => ?_⟩
    have en : F.L H2 (upd H2 l (.lst xs)) := .new e2.good hl
    exact q _ _ (e2.trans en) ⟨l, xs, ds, rfl, L_back (e.trans e2) hl, Fm.nosp e2.good hl, upd_same, hx.tl (en.tl e2.good), rfl⟩
theorem nls_str {v : V} {φ : List PyData → Prop} {ψ : List Str → Prop} (h : (VP.nls (F := F) K H φ).p v H') (w : ∀ ds, φ ds → ∃ ss : List Str, ds = ss.map .str ∧ ψ ss) : (VP.nstr (F := F) H ψ).p v H' := by
  obtain ⟨p, xs, ds, h1, h2, h3, h4, h5, h6⟩ := h
  obtain ⟨ss, rfl, hψ⟩ := w ds h6
  rw [tda_strs h5] at h4
  exact ⟨p, ss, h1, h2, h3, h4, hψ⟩
/-- a row's parts -/
theorem rowsD_at {rs : List (Str × Str)} {ks : List PyData} {i : Nat} {d : PyData} (hl : rs.length = ks.length) (h : (rowsD rs ks)[i]? = some d) : ∃ r k, rs[i]? = some r ∧ ks[i]? = some k ∧ d = .tuple [.str r.1, .str r.2, k] := by
  have hi := (List.getElem?_eq_some_iff.mp h).1
  rw [rowsD_len _ _ hl] at hi
  have h1 : rs[i]? = some rs[i] := List.getElem?_eq_getElem hi
  have h2 : ks[i]? = some (ks[i]'(by omega)) := List.getElem?_eq_getElem (by omega)
  rw [rowsD_get rs ks i _ _ h1 h2] at h
  exact ⟨_, _, h1, h2, (Option.some.inj h).symm⟩
def spBlocks (K : PySem.W.Frag) : Sp := fun vs H Q _ => ∃ v h ks, vs = [v] ∧ okH h ks ∧ Td K H v (Oh.T.mk h ks).d ∧ ∀ v H', Same H H' → (VP.nls (F := F0) K H (· = bbd ks)).p v H' → Q v H'
theorem hd_at0 {h : Hd} {ks : List (List Oh.T)} : ∃ (z : Str) (r : List PyData), (Oh.T.mk h ks).d = .tuple (.str z :: r) := by cases h <;> exact ⟨_, _, rfl⟩
theorem sc_blocks_of : FnScope ["statement", "kind", "row"] ["statement"] (fnScope s_blocks_of) := ⟨rfl, rfl, rfl, by decide +kernel, rfl, by decide +kernel, by decide +kernel⟩
theorem c_blocks_of (T : Tx w K mg) : Cal P w K mg base 1 "blocks_of" (spBlocks K) [] := by
  refine T.d_blocks_of.cal sc_blocks_of (fun F => ⟨[], .nil, F.bindsN fun _ _ _ _ _ _ us hl => match us, hl with | [_], _ => rfl⟩) (by rintro vs H Q E ⟨a, xs, _, rfl, _⟩; rfl) fun f cdv A outer s H vs Q E hr h => ?_
  obtain ⟨v, h, ks, rfl, ok, td, hQ⟩ := h
  refine ⟨_, (pss_cons (ps_set (i := 1) sc_blocks_of.nd rfl (Or.inl rfl) (pe_ix (r := rIxT K) ix_tup (pv 0) pe_int (fun _ _ => rfl)))
    (pss_cons (ps_if (pt_cmpR op_eq (pv 1) pe_str (nomark _))
      (pss_one (ps_ret (pe_lc (own := [("row", 2)]) (g := (gName 2)) (tt := tYes) rfl sc_blocks_of.nd (pi_tup (pe_ix (r := rIxT K) ix_tup (pv 0) pe_int (fun _ _ => rfl))) (blkOk_by (own := [("row", 2)]) (N := ["statement", "kind", "row"]) (sc := fnScope s_blocks_of) (by decide +kernel)) (fun _ _ _ _ _ => (pg_name (i := 2) sc_blocks_of.nd rfl (Or.inl rfl))) (fun _ _ _ _ _ => pts_nil) (fun _ _ _ _ _ => (pe_ix (r := rIxT K) ix_tup (pv 2) pe_int (fun _ _ => rfl))))))
      pss_nil)
    (pss_cons (ps_if (pt_cmpR op_eq (pv 1) pe_str (nomark _))
      (pss_one (ps_ret (pe_callTy call_list_of rfl T.z_list (by decide +kernel) (pa_cons (pe_ix (r := rIxT K) ix_tup (pv 0) pe_int (fun _ _ => rfl)) pa_nil))))
      pss_nil)
    (pss_cons (ps_if (pt_cmpR op_eq (pv 1) pe_str (nomark _))
      (pss_one (ps_ret (pe_lst (pa_cons (pe_ix (r := rIxT K) ix_tup (pv 0) pe_int (fun _ _ => rfl)) (pa_cons (pe_ix (r := rIxT K) ix_tup (pv 0) pe_int (fun _ _ => rfl)) pa_nil)))))
      pss_nil)
    (pss_cons (ps_if (pt_cmpR op_eq (pv 1) pe_str (nomark _))
      (pss_one (ps_ret (pe_lst (pa_cons (pe_ix (r := rIxT K) ix_tup (pv 0) pe_int (fun _ _ => rfl)) pa_nil))))
      pss_nil)
    (pss_one (ps_ret (pe_lst pa_nil)))))))), ?_⟩
  refine run_go (R := .nls K H (· = bbd ks)) ?_ hQ
  obtain ⟨z, r, hd⟩ := hd_at0 (h := h) (ks := ks)
  have hv : ∀ {σ : L2.St}, σ[0]? = some (some v) → EvD F0 K (tVar 0) σ H (.tuple (.str z :: r)) := fun h => evd_var trivial h (hd ▸ td)
  have hz : ∀ {σ : L2.St}, σ[1]? = some (some (.str z)) → EvV F0 (tVar 1) σ H (.str z) := fun h => evv_var trivial h
  refine run_asgV (evd_s (evd_ix trivial (hv rfl) (evv_c trivial) (atI_nat (j := 0) rfl))) ?_
  have no : ∀ {y : Str}, decide (V.str z = V.str y) = false → EvB F0 (tTest (tOp rEq (tVar 1) (tC (.str y)))) ((L2.start ["statement", "kind", "row"] [v]).set 1 (some (.str z))) H false := fun h => evb_is (et_test (evv_eq (hz rfl) (evv_c trivial) rfl)) h
  have yes : EvB F0 (tTest (tOp rEq (tVar 1) (tC (.str z)))) ((L2.start ["statement", "kind", "row"] [v]).set 1 (some (.str z))) H true := evb_is (et_test (evv_eq (hz rfl) (evv_c trivial) rfl)) (by simp)
  cases h with
  | set x e => cases hd; obtain ⟨_, rfl⟩ := ok; exact run_whenF (no (by decide)) rfl (run_whenF (no (by decide)) rfl (run_whenF (no (by decide)) rfl (run_whenF (no (by decide)) rfl (run_ret (ev_lst eda_nil (by decide))))))
  | tell x e => cases hd; obtain ⟨_, rfl⟩ := ok; exact run_whenF (no (by decide)) rfl (run_whenF (no (by decide)) rfl (run_whenF (no (by decide)) rfl (run_whenF (no (by decide)) rfl (run_ret (ev_lst eda_nil (by decide))))))
  | hear x e => cases hd; obtain ⟨_, rfl⟩ := ok; exact run_whenF (no (by decide)) rfl (run_whenF (no (by decide)) rfl (run_whenF (no (by decide)) rfl (run_whenF (no (by decide)) rfl (run_ret (ev_lst eda_nil (by decide))))))
  | leave => cases hd; cases (show ks = [] from ok); exact run_whenF (no (by decide)) rfl (run_whenF (no (by decide)) rfl (run_whenF (no (by decide)) rfl (run_whenF (no (by decide)) rfl (run_ret (ev_lst eda_nil (by decide))))))
  | home => cases hd; cases (show ks = [] from ok); exact run_whenF (no (by decide)) rfl (run_whenF (no (by decide)) rfl (run_whenF (no (by decide)) rfl (run_whenF (no (by decide)) rfl (run_ret (ev_lst eda_nil (by decide))))))
  | fail => cases hd; cases (show ks = [] from ok); exact run_whenF (no (by decide)) rfl (run_whenF (no (by decide)) rfl (run_whenF (no (by decide)) rfl (run_whenF (no (by decide)) rfl (run_ret (ev_lst eda_nil (by decide))))))
  | iff e =>
    match ks, ok.2 with
    | [a, b], _ =>
      cases hd
      exact run_whenF (no (by decide)) rfl (run_whenF (no (by decide)) rfl (run_whenT yes rfl (run_ret (ev_lst (eda_cons (evd_ix (d := .tuple (bd a)) trivial (hv rfl) (evv_c trivial) rfl) (eda_cons (evd_ix (d := .tuple (bd b)) trivial (hv rfl) (evv_c trivial) rfl) eda_nil)) (show 2 ≤ 100000 by decide)))))
  | rep =>
    match ks, (show ks.length = 1 from ok) with
    | [a], _ =>
      cases hd
      exact run_whenF (no (by decide)) rfl (run_whenF (no (by decide)) rfl (run_whenF (no (by decide)) rfl (run_whenT yes rfl (run_ret (ev_lst (eda_cons (evd_ix (d := .tuple (bd a)) trivial (hv rfl) (evv_c trivial) rfl) eda_nil) (show 1 ≤ 100000 by decide))))))
  | opn =>
    cases hd
    exact run_whenF (no (by decide)) rfl (run_whenT yes rfl (run_ret (ev_listT (evd_ix (d := .tuple (bbd ks)) trivial (hv rfl) (evv_c trivial) rfl))))
  | wait rows =>
    obtain ⟨hrk, hk, hn, hnd⟩ := ok
    cases hd
    have hlen : (rowsD rows (bbd ks)).length = ks.length := by rw [rowsD_len _ _ (by rw [bbd_len]; exact hrk), hrk]
    refine run_whenT yes rfl (run_ret ((ev_lcT (evd_ix (d := .tuple (rowsD rows (bbd ks))) trivial (hv rfl) (evv_c trivial) rfl) (by omega) (fun i d => (bbd ks)[i]? = some d) ?_).sub ?_))
    · intro i d x H2 hi e2 tx
      obtain ⟨r, k, h1, h2, rfl⟩ := rowsD_at (by rw [bbd_len]; exact hrk) hi
      exact (evd_ix (d := k) trivial (evd_var trivial rfl tx) (evv_c trivial) rfl).sub fun v H3 _ ⟨d0, e0, p0⟩ => ⟨d0, e0 ▸ h2, p0⟩
    · rintro v H3 e3 ⟨p, xs, es, h1, h2, h3, h4, h5, h6, h7⟩
      refine ⟨p, xs, es, h1, h2, h3, h4, h5, List.ext_getElem? fun i => ?_⟩
      cases q : es[i]? with
      | some d => exact (h7 i d q).symm
      | none =>
        have := List.getElem?_eq_none_iff.mp q
        exact (List.getElem?_eq_none (by rw [bbd_len]; omega)).symm
theorem ev_blocks {h : Hd} {ks : List (List Oh.T)} (hh : EvD F K te σ H (Oh.T.mk h ks).d) (ok : okH h ks) : Ev F (tCall (spBlocks K) [] E (tCons te tNil)) σ H (.nls K H (· = bbd ks)) := fun H1 e Q q =>
  hh H1 e _ fun v H2 e2 ⟨d0, e0, p⟩ => by
    subst e0
    exact ⟨v, h, ks, rfl, ok, p, fun v H' e3 ⟨p, xs, ds, h1, h2, h3, h4, h5, h6⟩ => q _ _ (e2.trans (.of e2.good e3)) ⟨p, xs, ds, h1, L_back (e.trans e2) h2, Fm.nosp e2.good h2, h4, h5, h6⟩⟩
/-- a list of texts, new -/
def spNames (K : PySem.W.Frag) : Sp := fun vs H Q _ => ∃ v h ks, vs = [v] ∧ okH h ks ∧ Td K H v (Oh.T.mk h ks).d ∧ ∀ v H', Same H H' → (VP.nstr (F := F0) H (·.length ≤ 40)).p v H' → Q v H'
theorem ev_names {e : Ex} {n : Nat} (hh : EvD F K te σ H e.d) (ok : e.ok) (hn : e.ht ≤ n) (h5 : n ≤ 5) : Ev F (tCall (spEN K n) [] E (tCons te tNil)) σ H (.nstr H (· = e.nms)) := fun H1 e1 Q q =>
  hh H1 e1 _ fun v H2 e2 ⟨d0, e0, p⟩ => by
    subst e0
    exact ⟨v, e, rfl, ok, hn, h5, p, fun p H' hp e3 hl => q _ _ (e2.trans (.of e2.good e3)) ⟨p, _, rfl, L_back (e1.trans e2) hp, Fm.nosp e2.good hp, hl, rfl⟩⟩
theorem nstr_sub {φ ψ : List Str → Prop} {v : V} (h : (VP.nstr (F := F) H φ).p v H') (w : ∀ ss, φ ss → ψ ss) : (VP.nstr (F := F) H ψ).p v H' := by
  obtain ⟨p, ss, h1, h2, h3, h4, h5⟩ := h
  exact ⟨p, ss, h1, h2, h3, h4, w _ h5⟩
theorem ex_nms {e : Ex} (h : e.ht ≤ 5) : e.nms.length ≤ 32 := nms_len e 5 h
theorem sc_names_of : FnScope ["statement", "kind", "row"] ["statement"] (fnScope s_names_of) := ⟨rfl, rfl, rfl, by decide +kernel, rfl, by decide +kernel, by decide +kernel⟩
theorem c_names_of (T : Tx w K mg) : Cal P w K mg base 9 "names_of" (spNames K) [] := by
  have c_expression_names := c_expression_names (P := P) (base := base) T 5
  refine T.d_names_of.cal sc_names_of (fun F => ⟨[], .nil, F.bindsN fun _ _ _ _ _ _ us hl => match us, hl with | [_], _ => rfl⟩) (by rintro vs H Q E ⟨a, xs, _, rfl, _⟩; rfl) fun f cdv A outer s H vs Q E hr h => ?_
  obtain ⟨v, h, ks, rfl, ok, td, hQ⟩ := h
  refine ⟨_, (pss_cons (ps_set (i := 1) sc_names_of.nd rfl (Or.inl rfl) (pe_ix (r := rIxT K) ix_tup (pv 0) pe_int (fun _ _ => rfl)))
    (pss_cons (ps_if (pt_cmpR op_eq (pv 1) pe_str (nomark _))
      (pss_one (ps_ret (pe_op op_cat (pe_lst (pa_cons (pe_ix (r := rIxT K) ix_tup (pv 0) pe_int (fun _ _ => rfl)) pa_nil)) (pe_c c_expression_names hr (by omega) rfl (pa_cons (pe_ix (r := rIxT K) ix_tup (pv 0) pe_int (fun _ _ => rfl)) pa_nil)))))
      pss_nil)
    (pss_cons (ps_if (pt_cmpR op_eq (pv 1) pe_str (nomark _))
      (pss_one (ps_ret (pe_c c_expression_names hr (by omega) rfl (pa_cons (pe_ix (r := rIxT K) ix_tup (pv 0) pe_int (fun _ _ => rfl)) pa_nil))))
      pss_nil)
    (pss_cons (ps_if (pt_cmpR op_eq (pv 1) pe_str (nomark _))
      (pss_one (ps_ret (pe_lst (pa_cons (pe_ix (r := rIxT K) ix_tup (pv 0) pe_int (fun _ _ => rfl)) pa_nil))))
      pss_nil)
    (pss_cons (ps_if (pt_cmpR op_eq (pv 1) pe_str (nomark _))
      (pss_one (ps_ret (pe_lc (own := [("row", 2)]) (g := (gName 2)) (tt := tYes) rfl sc_names_of.nd (pi_tup (pe_ix (r := rIxT K) ix_tup (pv 0) pe_int (fun _ _ => rfl))) (blkOk_by (own := [("row", 2)]) (N := ["statement", "kind", "row"]) (sc := fnScope s_names_of) (by decide +kernel)) (fun _ _ _ _ _ => (pg_name (i := 2) sc_names_of.nd rfl (Or.inl rfl))) (fun _ _ _ _ _ => pts_nil) (fun _ _ _ _ _ => (pe_ix (r := rIxT K) ix_tup (pv 2) pe_int (fun _ _ => rfl))))))
      pss_nil)
    (pss_cons (ps_if (pt_cmpR op_eq (pv 1) pe_str (nomark _))
      (pss_one (ps_ret (pe_c c_expression_names hr (by omega) rfl (pa_cons (pe_ix (r := rIxT K) ix_tup (pv 0) pe_int (fun _ _ => rfl)) pa_nil))))
      pss_nil)
    (pss_one (ps_ret (pe_lst pa_nil))))))))), ?_⟩
  refine run_go (R := .nstr H (·.length ≤ 40)) ?_ hQ
  obtain ⟨z, r, hd⟩ := hd_at0 (h := h) (ks := ks)
  have hv : ∀ {σ : L2.St}, σ[0]? = some (some v) → EvD F0 K (tVar 0) σ H (.tuple (.str z :: r)) := fun h => evd_var trivial h (hd ▸ td)
  have hz : ∀ {σ : L2.St}, σ[1]? = some (some (.str z)) → EvV F0 (tVar 1) σ H (.str z) := fun h => evv_var trivial h
  refine run_asgV (evd_s (evd_ix trivial (hv rfl) (evv_c trivial) (atI_nat (j := 0) rfl))) ?_
  have no : ∀ {y : Str}, decide (V.str z = V.str y) = false → EvB F0 (tTest (tOp rEq (tVar 1) (tC (.str y)))) ((L2.start ["statement", "kind", "row"] [v]).set 1 (some (.str z))) H false := fun h => evb_is (et_test (evv_eq (hz rfl) (evv_c trivial) rfl)) h
  have yes : EvB F0 (tTest (tOp rEq (tVar 1) (tC (.str z)))) ((L2.start ["statement", "kind", "row"] [v]).set 1 (some (.str z))) H true := evb_is (et_test (evv_eq (hz rfl) (evv_c trivial) rfl)) (by simp)
  have emp : RunS F0 (tRet (tLst tNil)) ((L2.start ["statement", "kind", "row"] [v]).set 1 (some (.str z))) H (.nstr H (·.length ≤ 40)) := run_ret ((ev_lst eda_nil (by decide) (K := K)).sub fun v H' _ h => nls_str h fun ds e => ⟨[], e, by decide⟩)
  cases h with
  | set x e =>
    cases hd
    obtain ⟨⟨hx, he, h5⟩, _⟩ := ok
    refine run_whenT yes rfl (fun H1 e1 D q => ?_)
    have hL := ev_lst (F := F0) (K := K) (eda_cons (evd_ix (d := .str x) (z := 1) trivial (hv (σ := (L2.start ["statement", "kind", "row"] [v]).set 1 (some (.str "set"))) rfl) (evv_c trivial) rfl) eda_nil) (show 1 ≤ 100000 by decide)
    unfold tRet tOp
    refine hL H1 e1 _ fun v2 H2 e2 ⟨p, xs, ds, h1, h2, h3, h4, h5', h6⟩ => ?_
    subst h6
    refine ev_names (n := 5) (evd_ix (d := e.d) trivial (hv rfl) (evv_c trivial) rfl) he h5 (by decide) H2 (e1.trans e2) _ fun v3 H3 e3 ⟨p2, ss, g1, g2, g3, g4, g5⟩ => ?_
    subst g5
    refine ⟨p, p2, _, _, h1, g1, e3.1 _ _ h4 h3, g4, ?_, fun p3 hp3 => ?_⟩
    · have := ex_nms h5
      rw [tda_strs (ss := [x]) h5', List.length_map, List.length_map, sizeLine_eq]
      simp only [List.length_singleton]
      omega
    · have en : F0.L H3 (upd H3 p3 (.lst (xs ++ (e.nms.map V.str)))) := .new trivial hp3
      refine q _ _ ((e2.trans e3).trans en) ⟨p3, x :: e.nms, rfl, L_back (e1.trans (e2.trans e3)) hp3, fun z => z, ?_, ?_⟩
      · rw [upd_same, tda_strs (ss := [x]) h5'] <;> rfl
      · have := ex_nms h5
        simp only [List.length_cons]
        omega
  | tell x e =>
    cases hd
    obtain ⟨⟨hx, he, h5⟩, _⟩ := ok
    exact run_whenF (no (by decide)) rfl (run_whenT yes rfl (run_ret ((ev_names (n := 5) (evd_ix (d := e.d) trivial (hv rfl) (evv_c trivial) rfl) he h5 (by decide)).sub fun v H' _ h => nstr_sub h fun ss z => by subst z; have := ex_nms h5; omega)))
  | hear x e =>
    cases hd
    exact run_whenF (no (by decide)) rfl (run_whenF (no (by decide)) rfl (run_whenT yes rfl (run_ret ((ev_lst (K := K) (eda_cons (evd_ix (d := .str e) trivial (hv rfl) (evv_c trivial) rfl) eda_nil) (show 1 ≤ 100000 by decide)).sub fun v H' _ h => nls_str h fun ds z => ⟨[e], z, show 1 ≤ 40 by decide⟩))))
  | leave => cases hd; exact run_whenF (no (by decide)) rfl (run_whenF (no (by decide)) rfl (run_whenF (no (by decide)) rfl (run_whenF (no (by decide)) rfl (run_whenF (no (by decide)) rfl emp))))
  | home => cases hd; exact run_whenF (no (by decide)) rfl (run_whenF (no (by decide)) rfl (run_whenF (no (by decide)) rfl (run_whenF (no (by decide)) rfl (run_whenF (no (by decide)) rfl emp))))
  | fail => cases hd; exact run_whenF (no (by decide)) rfl (run_whenF (no (by decide)) rfl (run_whenF (no (by decide)) rfl (run_whenF (no (by decide)) rfl (run_whenF (no (by decide)) rfl emp))))
  | opn => cases hd; exact run_whenF (no (by decide)) rfl (run_whenF (no (by decide)) rfl (run_whenF (no (by decide)) rfl (run_whenF (no (by decide)) rfl (run_whenF (no (by decide)) rfl emp))))
  | rep => cases hd; exact run_whenF (no (by decide)) rfl (run_whenF (no (by decide)) rfl (run_whenF (no (by decide)) rfl (run_whenF (no (by decide)) rfl (run_whenF (no (by decide)) rfl emp))))
  | iff e =>
    cases hd
    obtain ⟨⟨he, h5⟩, _⟩ := ok
    exact run_whenF (no (by decide)) rfl (run_whenF (no (by decide)) rfl (run_whenF (no (by decide)) rfl (run_whenF (no (by decide)) rfl (run_whenT yes rfl (run_ret ((ev_names (n := 5) (evd_ix (d := e.d) trivial (hv rfl) (evv_c trivial) (atI_nat (j := 1) rfl)) he h5 (by decide)).sub fun v H' _ h => nstr_sub h fun ss z => by subst z; have := ex_nms h5; omega))))))
  | wait rows =>
    obtain ⟨hrk, hk, hn, hnd⟩ := ok
    cases hd
    have hlen : (rowsD rows (bbd ks)).length = ks.length := by rw [rowsD_len _ _ (by rw [bbd_len]; exact hrk), hrk]
    refine run_whenF (no (by decide)) rfl (run_whenF (no (by decide)) rfl (run_whenF (no (by decide)) rfl (run_whenT yes rfl (run_ret ((ev_lcT (evd_ix (d := .tuple (rowsD rows (bbd ks))) trivial (hv rfl) (evv_c trivial) rfl) (by omega) (fun i d => (rows.map fun r => PyData.str r.2)[i]? = some d) ?_).sub ?_)))))
    · intro i d x H2 hi e2 tx
      obtain ⟨r, k, h1, h2, rfl⟩ := rowsD_at (by rw [bbd_len]; exact hrk) hi
      exact (evd_ix (d := .str r.2) trivial (evd_var trivial rfl tx) (evv_c trivial) rfl).sub fun v H3 _ ⟨d0, e0, p0⟩ => ⟨d0, by rw [List.getElem?_map, h1]; exact e0 ▸ rfl, p0⟩
    · refine fun v H3 e3 h => nls_str h fun ds ⟨g1, g2⟩ => ⟨rows.map (·.2), ?_, by rw [List.length_map]; omega⟩
      rw [List.map_map]
      refine List.ext_getElem? fun i => ?_
      cases q : ds[i]? with
      | some d => exact (g2 i d q).symm
      | none =>
        have := List.getElem?_eq_none_iff.mp q
        exact (List.getElem?_eq_none (by rw [List.length_map]; omega)).symm
theorem sc_ports_of : FnScope ["statement", "kind", "row"] ["statement"] (fnScope s_ports_of) := ⟨rfl, rfl, rfl, by decide +kernel, rfl, by decide +kernel, by decide +kernel⟩
theorem c_ports_of (T : Tx w K mg) : Cal P w K mg base 9 "ports_of" (spNames K) [] := by
  refine T.d_ports_of.cal sc_ports_of (fun F => ⟨[], .nil, F.bindsN fun _ _ _ _ _ _ us hl => match us, hl with | [_], _ => rfl⟩) (by rintro vs H Q E ⟨a, xs, _, rfl, _⟩; rfl) fun f cdv A outer s H vs Q E hr h => ?_
  obtain ⟨v, h, ks, rfl, ok, td, hQ⟩ := h
  refine ⟨_, (pss_cons (ps_set (i := 1) sc_ports_of.nd rfl (Or.inl rfl) (pe_ix (r := rIxT K) ix_tup (pv 0) pe_int (fun _ _ => rfl)))
    (pss_cons (ps_if (pt_cmpR op_in_seq (pv 1) (pe_tup (pa_cons pe_str (pa_cons pe_str pa_nil))) rfl)
      (pss_one (ps_ret (pe_lst (pa_cons (pe_ix (r := rIxT K) ix_tup (pv 0) pe_int (fun _ _ => rfl)) pa_nil))))
      pss_nil)
    (pss_cons (ps_if (pt_cmpR op_eq (pv 1) pe_str (nomark _))
      (pss_one (ps_ret (pe_lc (own := [("row", 2)]) (g := (gName 2)) (tt := tYes) rfl sc_ports_of.nd (pi_tup (pe_ix (r := rIxT K) ix_tup (pv 0) pe_int (fun _ _ => rfl))) (blkOk_by (own := [("row", 2)]) (N := ["statement", "kind", "row"]) (sc := fnScope s_ports_of) (by decide +kernel)) (fun _ _ _ _ _ => (pg_name (i := 2) sc_ports_of.nd rfl (Or.inl rfl))) (fun _ _ _ _ _ => pts_nil) (fun _ _ _ _ _ => (pe_ix (r := rIxT K) ix_tup (pv 2) pe_int (fun _ _ => rfl))))))
      pss_nil)
    (pss_one (ps_ret (pe_lst pa_nil)))))), ?_⟩
  refine run_go (R := .nstr H (·.length ≤ 40)) ?_ hQ
  obtain ⟨z, r, hd⟩ := hd_at0 (h := h) (ks := ks)
  have hv : ∀ {σ : L2.St}, σ[0]? = some (some v) → EvD F0 K (tVar 0) σ H (.tuple (.str z :: r)) := fun h => evd_var trivial h (hd ▸ td)
  have hz : ∀ {σ : L2.St}, σ[1]? = some (some (.str z)) → EvV F0 (tVar 1) σ H (.str z) := fun h => evv_var trivial h
  refine run_asgV (evd_s (evd_ix trivial (hv rfl) (evv_c trivial) (atI_nat (j := 0) rfl))) ?_
  have i1 : EvB F0 (tTest (tOp (rIn K false) (tVar 1) (tTup (tCons (tC (.str "tell")) (tCons (tC (.str "hear")) tNil))))) ((L2.start ["statement", "kind", "row"] [v]).set 1 (some (.str z))) H ((["tell", "hear"] : List Str).contains z) :=
    et_test (evv_in (ss := ["tell", "hear"]) (hz rfl) (evd_tup (eda_cons (evd_str trivial) (eda_cons (evd_str trivial) eda_nil)) (by decide)))
  have no : ∀ {y : Str}, decide (V.str z = V.str y) = false → EvB F0 (tTest (tOp rEq (tVar 1) (tC (.str y)))) ((L2.start ["statement", "kind", "row"] [v]).set 1 (some (.str z))) H false := fun h => evb_is (et_test (evv_eq (hz rfl) (evv_c trivial) rfl)) h
  have yes : EvB F0 (tTest (tOp rEq (tVar 1) (tC (.str z)))) ((L2.start ["statement", "kind", "row"] [v]).set 1 (some (.str z))) H true := evb_is (et_test (evv_eq (hz rfl) (evv_c trivial) rfl)) (by simp)
  have emp : RunS F0 (tRet (tLst tNil)) ((L2.start ["statement", "kind", "row"] [v]).set 1 (some (.str z))) H (.nstr H (·.length ≤ 40)) := run_ret ((ev_lst eda_nil (by decide) (K := K)).sub fun v H' _ h => nls_str h fun ds e => ⟨[], e, by decide⟩)
  cases h with
  | tell x e => cases hd; exact run_whenT i1 (by decide) (run_ret ((ev_lst (K := K) (eda_cons (evd_ix (d := .str x) trivial (hv rfl) (evv_c trivial) rfl) eda_nil) (show 1 ≤ 100000 by decide)).sub fun v H' _ h => nls_str h fun ds z => ⟨[x], z, show 1 ≤ 40 by decide⟩))
  | hear x e => cases hd; exact run_whenT i1 (by decide) (run_ret ((ev_lst (K := K) (eda_cons (evd_ix (d := .str x) trivial (hv rfl) (evv_c trivial) rfl) eda_nil) (show 1 ≤ 100000 by decide)).sub fun v H' _ h => nls_str h fun ds z => ⟨[x], z, show 1 ≤ 40 by decide⟩))
  | set x e => cases hd; exact run_whenF i1 (by decide) (run_whenF (no (by decide)) rfl emp)
  | leave => cases hd; exact run_whenF i1 (by decide) (run_whenF (no (by decide)) rfl emp)
  | home => cases hd; exact run_whenF i1 (by decide) (run_whenF (no (by decide)) rfl emp)
  | fail => cases hd; exact run_whenF i1 (by decide) (run_whenF (no (by decide)) rfl emp)
  | opn => cases hd; exact run_whenF i1 (by decide) (run_whenF (no (by decide)) rfl emp)
  | rep => cases hd; exact run_whenF i1 (by decide) (run_whenF (no (by decide)) rfl emp)
  | iff e => cases hd; exact run_whenF i1 (by decide) (run_whenF (no (by decide)) rfl emp)
  | wait rows =>
    obtain ⟨hrk, hk, hn, hnd⟩ := ok
    cases hd
    have hlen : (rowsD rows (bbd ks)).length = ks.length := by rw [rowsD_len _ _ (by rw [bbd_len]; exact hrk), hrk]
    refine run_whenF i1 (by decide) (run_whenT yes rfl (run_ret ((ev_lcT (evd_ix (d := .tuple (rowsD rows (bbd ks))) trivial (hv rfl) (evv_c trivial) rfl) (by omega) (fun i d => (rows.map fun r => PyData.str r.1)[i]? = some d) ?_).sub ?_)))
    · intro i d x H2 hi e2 tx
      obtain ⟨r, k, h1, h2, rfl⟩ := rowsD_at (by rw [bbd_len]; exact hrk) hi
      exact (evd_ix (d := .str r.1) trivial (evd_var trivial rfl tx) (evv_c trivial) rfl).sub fun v H3 _ ⟨d0, e0, p0⟩ => ⟨d0, by rw [List.getElem?_map, h1]; exact e0 ▸ rfl, p0⟩
    · refine fun v H3 e3 h => nls_str h fun ds ⟨g1, g2⟩ => ⟨rows.map (·.1), ?_, by rw [List.length_map]; omega⟩
      rw [List.map_map]
      refine List.ext_getElem? fun i => ?_
      cases q : ds[i]? with
      | some d => exact (g2 i d q).symm
      | none =>
        have := List.getElem?_eq_none_iff.mp q
        exact (List.getElem?_eq_none (by rw [List.length_map]; omega)).symm
end
end Oh
set_option maxHeartbeats 4000000
namespace Oh
open PySem PySem.Spec PyProof.Rows L2
open C8 (Cal Met Mak pe_c pe_mk pe_mt pe_mt0 pe_gc InsC call_isC tCut pss_cut fnBody fnArgs fnScope)
theorem bbThr_any : ∀ ks : List (List T), bbThr ks = (ks.map bThr).any id
  | [] => rfl
  | b :: bs => by simp [bbThr, bbThr_any bs]
theorem bbLv_any : ∀ ks : List (List T), bbLv ks = (ks.map bLv).any id
  | [] => rfl
  | b :: bs => by simp [bbLv, bbLv_any bs]
theorem eq_of_gets {α : Type} {l m : List α} (hl : l.length = m.length) (h : ∀ (i : Nat) x, l[i]? = some x → m[i]? = some x) : l = m := List.ext_getElem? fun i => by
  cases q : l[i]? with
  | some d => exact (h i d q).symm
  | none =>
    have := List.getElem?_eq_none_iff.mp q
    exact (List.getElem?_eq_none (by omega)).symm
theorem T.Ok.inv {lp : Bool} {h : Hd} {ks : List (List T)} (o : T.Ok lp (.mk h ks)) : okH h ks ∧ (∀ b ∈ ks, b.length ≤ 12) ∧ (∀ b ∈ ks, ∀ t ∈ b, T.Ok (lp || h.isRep) t) ∧ (h = .leave → lp = true) ∧ (h = .rep → ∀ b ∈ ks, bThr b = false) := by
  cases o with
  | mk a b c d e => exact ⟨a, b, c, d, e⟩
section
variable {P : Program} {w : World} {K : PySem.W.Frag} {mg : Str → Option Value} {base : Heap} {F : Fm} {te tb : TE} {σ : L2.St} {H : Hp} {E : XK} {VT : VP F} {t : TA} {ds : List PyData}
theorem evd_bool {b : Bool} (g : F.G H) : EvD F K (tC (.bl b)) σ H (.bool b) := ev_c g ⟨_, rfl, .bl b⟩
theorem evv_db {b : Bool} (h : EvV F te σ H (.bl b)) : EvD F K te σ H (.bool b) := h.sub fun v H1 _ e => ⟨_, rfl, by rw [show v = V.bl b from e]; exact .bl b⟩
theorem evd_b {b : Bool} (h : EvD F K te σ H (.bool b)) : EvV F te σ H (.bl b) := h.sub fun v H1 _ ⟨d, e, p⟩ => by subst e; cases p; rfl
theorem tda_bools {ss : List Bool} {vs : List V} (h : TdA K H vs (ss.map .bool)) : vs = ss.map .bl := by
  induction ss generalizing vs with
  | nil => cases h; rfl
  | cons s ss ih =>
    cases h with
    | cons a b => cases a; rw [ih b] <;> rfl
theorem evv_any {H0 : Hp} {bs : List Bool} (h : Ev F te σ H (.nls K H0 (· = bs.map .bool))) : EvV F (tCB (rAny K) (tCons te tNil)) σ H (.bl (bs.any id)) := fun H1 e Q q =>
  h H1 e _ fun v H2 e2 ⟨a, xs, ds, ev, _, hsp, hl, hx, hφ⟩ => by
    subst ev
    subst hφ
    rw [tda_bools hx] at hl
    exact ⟨a, bs, rfl, .of hl, q _ _ e2 rfl⟩
/-! ### dealing.py -/
def spWo (K : PySem.W.Frag) (n : Nat) : Sp := fun vs H Q _ => ∃ v h ks lp, ∃ dep : Int, vs = [v, .int dep] ∧ T.Ok lp (.mk h ks) ∧ (T.mk h ks).ht ≤ n ∧ dep + ((T.mk h ks).ht : Int) ≤ 12 ∧ Td K H v (T.mk h ks).d ∧
  ∀ v H', Same H H' → Td K H' v (.tuple [.bool (T.mk h ks).thr, .bool (T.mk h ks).lv]) → Q v H'
def spWt (K : PySem.W.Frag) (n : Nat) : Sp := fun vs H Q _ => ∃ v b lp, ∃ dep : Int, vs = [v, .int dep] ∧ (∀ t ∈ b, T.Ok lp t) ∧ bHt b + 1 ≤ n ∧ dep + (bHt b : Int) ≤ 12 ∧ Td K H v (blkD b) ∧
  ∀ v H', Same H H' → Td K H' v (.tuple [.bool (bThr b), .bool (bLv b)]) → Q v H'
theorem evd_wt {n : Nat} {b : List T} {lp : Bool} {dep : Int} (h : EvD F K te σ H (blkD b)) (hd : EvV F tb σ H (.int dep)) (ok : ∀ t ∈ b, T.Ok lp t) (hn : bHt b + 1 ≤ n) (h12 : dep + (bHt b : Int) ≤ 12) : EvD F K (tCall (spWt K n) [] E (tCons te (tCons tb tNil))) σ H (.tuple [.bool (bThr b), .bool (bLv b)]) :=
  ev_call (ea_cons h (ea_cons hd ea_nil)) fun vs H1 e1 p Q q => by
    match vs, p with
    | [x, y], ⟨⟨d0, e0, p0⟩, p1, _⟩ =>
      subst e0
      exact ⟨x, b, lp, dep, by rw [show y = V.int dep from p1]; rfl, ok, hn, h12, p0, fun v H' e td => q _ _ (.of e1.good e) ⟨_, rfl, td⟩⟩
theorem evd_wo {n : Nat} {h : Hd} {ks : List (List T)} {lp : Bool} {dep : Int} (hh : EvD F K te σ H (T.mk h ks).d) (hd : EvV F tb σ H (.int dep)) (ok : T.Ok lp (.mk h ks)) (hn : (T.mk h ks).ht ≤ n) (h12 : dep + ((T.mk h ks).ht : Int) ≤ 12) : EvD F K (tCall (spWo K n) [] E (tCons te (tCons tb tNil))) σ H (.tuple [.bool (T.mk h ks).thr, .bool (T.mk h ks).lv]) :=
  ev_call (ea_cons hh (ea_cons hd ea_nil)) fun vs H1 e1 p Q q => by
    match vs, p with
    | [x, y], ⟨⟨d0, e0, p0⟩, p1, _⟩ =>
      subst e0
      exact ⟨x, h, ks, lp, dep, by rw [show y = V.int dep from p1]; rfl, ok, hn, h12, p0, fun v H' e td => q _ _ (.of e1.good e) ⟨_, rfl, td⟩⟩
theorem sc_ways_of : FnScope ["statement", "depth", "kind", "found", "block", "left", "pair"] ["statement", "depth"] (fnScope s_ways_of) := ⟨rfl, rfl, rfl, by decide +kernel, rfl, by decide +kernel, by decide +kernel⟩
theorem ways_of_step (T : Tx w K mg) (n : Nat) (c_ways_through : Cal P w K mg base (2 * n + 11) "ways_through" (spWt K n) []) : Cal P w K mg base (2 * n + 12) "ways_of" (spWo K n) [] := by
  have c_is_statement := c_is_statement (P := P) (base := base) T
  have c_blocks_of := c_blocks_of (P := P) (base := base) T
  refine T.d_ways_of.cal (k := 2 * n + 11) sc_ways_of (fun F => ⟨[], .nil, F.bindsN fun _ _ _ _ _ _ us hl => match us, hl with | [_, _], _ => rfl⟩) (by rintro vs H Q E ⟨v, _, _, _, _, rfl, _⟩; rfl) fun f cdv A outer s H vs Q E hr h => ?_
  obtain ⟨v, h, ks, lp, dep, rfl, ok, hn, h12, td, hQ⟩ := h
  refine ⟨_, (pss_cons (ps_if (pt_not (pt_val (pe_c c_is_statement hr (by omega) rfl (pa_cons (pv 0) pa_nil))))
      (pss_one (ps_ret (pe_tup (pa_cons pe_bl (pa_cons pe_bl pa_nil)))))
      pss_nil)
    (pss_cons (ps_set (i := 2) sc_ways_of.nd rfl (Or.inl rfl) (pe_ix (r := rIxT K) ix_tup (pv 0) pe_int (fun _ _ => rfl)))
    (pss_cons (ps_if (pt_cmpR op_eq (pv 2) pe_str (nomark _))
      (pss_one (ps_ret (pe_tup (pa_cons pe_bl (pa_cons pe_bl pa_nil)))))
      pss_nil)
    (pss_cons (ps_if (pt_cmpR op_eq (pv 2) pe_str (nomark _))
      (pss_one (ps_ret (pe_tup (pa_cons pe_bl (pa_cons pe_bl pa_nil)))))
      pss_nil)
    (pss_cons (ps_if (PW.pt (pw_or (pt_cmpR op_notIn_seq (pv 2) (pe_tup (pa_cons pe_str (pa_cons pe_str (pa_cons pe_str pa_nil)))) rfl) (pw_or1 (pt_cmpR op_ge (pv 1) (pe_gc rfl T.g_MOST_DEPTH) (nomark _)))))
      (pss_one (ps_ret (pe_tup (pa_cons pe_bl (pa_cons pe_bl pa_nil)))))
      pss_nil)
    (pss_cons (ps_setLc (i := 3) (own := [("block", 4)]) (g := (gName 4)) (tt := tYes) rfl sc_ways_of.nd rfl rfl (sw_true rfl rfl rfl (by decide +kernel)) (pi_list (pe_c c_blocks_of hr (by omega) rfl (pa_cons (pv 0) pa_nil))) (blkOk_by (own := [("block", 4)]) (N := ["statement", "depth", "kind", "found", "block", "left", "pair"]) (sc := fnScope s_ways_of) (by decide +kernel)) (fun _ _ _ _ _ => (pg_name (i := 4) sc_ways_of.nd rfl (Or.inl rfl))) (fun _ _ _ _ _ => pts_nil) (fun _ _ _ _ _ => (pe_c c_ways_through hr (by omega) rfl (pa_cons (pv 4) (pa_cons (pe_op op_add (pv 1) pe_int) pa_nil)))))
    (pss_cons (ps_set (i := 5) sc_ways_of.nd rfl (Or.inl rfl) (pe_callB (cr_any rfl) rfl T.z_any (by decide +kernel) (pa_cons (pe_lc (own := [("pair", 6)]) (g := (gName 6)) (tt := tYes) rfl sc_ways_of.nd (pi_list (pv 3)) (blkOk_by (own := [("pair", 6)]) (N := ["statement", "depth", "kind", "found", "block", "left", "pair"]) (sc := fnScope s_ways_of) (by decide +kernel)) (fun _ _ _ _ _ => (pg_name (i := 6) sc_ways_of.nd rfl (Or.inl rfl))) (fun _ _ _ _ _ => pts_nil) (fun _ _ _ _ _ => (pe_ix (r := rIxT K) ix_tup (pv 6) pe_int (fun _ _ => rfl)))) pa_nil)))
    (pss_cons (ps_if (pt_cmpR op_eq (pv 2) pe_str (nomark _))
      (pss_one (ps_ret (pe_tup (pa_cons (pv 5) (pa_cons pe_bl pa_nil)))))
      pss_nil)
    (pss_one (ps_ret (pe_tup (pa_cons (pe_callB (cr_any rfl) rfl T.z_any (by decide +kernel) (pa_cons (pe_lc (own := [("pair", 6)]) (g := (gName 6)) (tt := tYes) rfl sc_ways_of.nd (pi_list (pv 3)) (blkOk_by (own := [("pair", 6)]) (N := ["statement", "depth", "kind", "found", "block", "left", "pair"]) (sc := fnScope s_ways_of) (by decide +kernel)) (fun _ _ _ _ _ => (pg_name (i := 6) sc_ways_of.nd rfl (Or.inl rfl))) (fun _ _ _ _ _ => pts_nil) (fun _ _ _ _ _ => (pe_ix (r := rIxT K) ix_tup (pv 6) pe_int (fun _ _ => rfl)))) pa_nil)) (pa_cons (pv 5) pa_nil))))))))))))), ?_⟩
  refine run_go (R := .dt K (· = .tuple [.bool (Oh.T.mk h ks).thr, .bool (Oh.T.mk h ks).lv])) ?_ (fun v H' e ⟨d, e0, p⟩ => hQ v H' e (e0 ▸ p))
  obtain ⟨oh, o12, oall, olv, orep⟩ := ok.inv
  obtain ⟨z, r, hd⟩ := hd_at0 (h := h) (ks := ks)
  have hv0 : ∀ {σ : L2.St}, σ[0]? = some (some v) → EvD F0 K (tVar 0) σ H (Oh.T.mk h ks).d := fun h => evd_var trivial h td
  have hz : ∀ {σ : L2.St}, σ[2]? = some (some (.str z)) → EvV F0 (tVar 2) σ H (.str z) := fun h => evv_var trivial h
  refine run_whenF (et_not (et_B (evv_stm (hv0 rfl) oh o12))) rfl ?_
  refine run_asgV (evd_s (evd_ix trivial (hd ▸ hv0 rfl) (evv_c trivial) (atI_nat (j := 0) rfl))) ?_
  have no : ∀ {y : Str}, decide (V.str z = V.str y) = false → EvB F0 (tTest (tOp rEq (tVar 2) (tC (.str y)))) ((L2.start ["statement", "depth", "kind", "found", "block", "left", "pair"] [v, .int dep]).set 2 (some (.str z))) H false := fun h => evb_is (et_test (evv_eq (hz rfl) (evv_c trivial) rfl)) h
  have yes : EvB F0 (tTest (tOp rEq (tVar 2) (tC (.str z)))) ((L2.start ["statement", "depth", "kind", "found", "block", "left", "pair"] [v, .int dep]).set 2 (some (.str z))) H true := evb_is (et_test (evv_eq (hz rfl) (evv_c trivial) rfl)) (by simp)
  have i1 : EvB F0 (tTest (tOp (rIn K true) (tVar 2) (tTup (tCons (tC (.str "if")) (tCons (tC (.str "open")) (tCons (tC (.str "repeat")) tNil)))))) ((L2.start ["statement", "depth", "kind", "found", "block", "left", "pair"] [v, .int dep]).set 2 (some (.str z))) H (!(["if", "open", "repeat"] : List Str).contains z) :=
    et_test (evv_in (ss := ["if", "open", "repeat"]) (neg := true) (hz rfl) (evd_tup (eda_cons (evd_str trivial) (eda_cons (evd_str trivial) (eda_cons (evd_str trivial) eda_nil))) (by decide)))
  have pair : ∀ {b c : Bool}, RunS F0 (tRet (tTup (tCons (tC (.bl b)) (tCons (tC (.bl c)) tNil)))) ((L2.start ["statement", "depth", "kind", "found", "block", "left", "pair"] [v, .int dep]).set 2 (some (.str z))) H (.dt K (· = .tuple [.bool b, .bool c])) := run_ret (evd_tup (eda_cons (evd_bool trivial) (eda_cons (evd_bool trivial) eda_nil)) (show 2 ≤ 100000 by decide))
  by_cases hc : h = .opn ∨ (∃ e, h = .iff e) ∨ h = .rep
  · have hz2 : z = "open" ∨ z = "if" ∨ z = "repeat" := by
      rcases hc with rfl | ⟨e, rfl⟩ | rfl <;> (cases hd; first | exact .inl rfl | exact .inr (.inl rfl) | exact .inr (.inr rfl))
    have hks : ks ≠ [] := by
      rintro rfl
      rcases hc with rfl | ⟨e, rfl⟩ | rfl
      · exact absurd (show 1 ≤ 0 ∧ _ from oh).1 (by decide)
      · exact absurd (show _ ∧ 0 = 2 from oh).2 (by decide)
      · exact absurd (show 0 = 1 from oh) (by decide)
    have hk4 : ks.length ≤ 4 := by
      rcases hc with rfl | ⟨e, rfl⟩ | rfl
      · exact (show _ ∧ ks.length ≤ 4 from oh).2
      · have := (show _ ∧ ks.length = 2 from oh).2
        omega
      · have := (show ks.length = 1 from oh)
        omega
    have hpos : 1 ≤ (Oh.T.mk h ks).ht := by
      cases ks with
      | nil => exact absurd rfl hks
      | cons b bs => simp only [Oh.T.ht, bbHt]; omega
    have hkid : ∀ b ∈ ks, bHt b + 1 ≤ (Oh.T.mk h ks).ht := fun b hb => bht_mem hb
    have n1 : decide (V.str z = V.str "set") = false := by rcases hz2 with rfl | rfl | rfl <;> decide
    have n2 : decide (V.str z = V.str "leave") = false := by rcases hz2 with rfl | rfl | rfl <;> decide
    have n3 : (!(["if", "open", "repeat"] : List Str).contains z) = false := by rcases hz2 with rfl | rfl | rfl <;> decide
    refine run_whenF (no n1) rfl (run_whenF (no n2) rfl ?_)
    refine run_whenF (et_or i1 fun _ => et_test (evv_I0 (evv_var (v := .int dep) trivial rfl) (evv_c trivial))) ?_ ?_
    · rw [n3]
      exact decide_eq_false (by omega)
    refine run_asg (T := .nls K H (· = ks.map fun b => PyData.tuple [.bool (bThr b), .bool (bLv b)])) ((ev_lcL (ev_blocks (hv0 rfl) oh) (fun ds e => by subst e; rw [bbd_len]; omega) (fun _ i d => (ks.map fun b => PyData.tuple [.bool (bThr b), .bool (bLv b)])[i]? = some d) ?_).sub ?_) ?_
    · rintro _ i d x H2 rfl hi e2 tx
      rw [bbd_get] at hi
      cases hb : ks[i]? with
      | none => rw [hb] at hi; cases hi
      | some b =>
        rw [hb] at hi
        obtain rfl : blkD b = d := Option.some.inj hi
        have hm := List.mem_of_getElem? hb
        have := hkid b hm
        refine (evd_wt (F := F0) (dep := dep + 1) (b := b) (evd_var trivial rfl tx) (evv_I0 (evv_var (v := .int dep) trivial rfl) (evv_c trivial)) (oall b hm) (by omega) (by omega)).sub fun v H3 _ ⟨d0, e0, p0⟩ => ⟨d0, by rw [List.getElem?_map, hb]; exact e0 ▸ rfl, p0⟩
    · rintro v H3 e3 ⟨p, xs, es, h1, h2, h3, h4, h5, _, rfl, g1, g2⟩
      refine ⟨p, xs, es, h1, h2, h3, h4, h5, eq_of_gets (by rw [g1, bbd_len, List.length_map]) g2⟩
    · intro fv H1 e1 hf
      have anyAt : ∀ {σ : L2.St} {k : Int} (f : List Oh.T → Bool), σ[3]? = some (some fv) → ((wipe σ [6])[3]? = some (some fv)) → (∀ b : List Oh.T, atI [PyData.bool (bThr b), .bool (bLv b)] k = some (.bool (f b))) → σ.length = 7 → EvV F0 (tCB (rAny K) (tCons (tLc (iList K (tVar 3)) (gName 6) tYes (tOp (rIxT K) (tVar 6) (tC (.int k))) [6]) tNil)) σ H1 (.bl ((ks.map f).any id)) := by
        intro σ k f h3 _ hk hl
        refine evv_any (H0 := H1) ((ev_lcL (ev_var trivial h3 hf) (fun ds e => by subst e; rw [List.length_map]; omega) (fun _ i d => ((ks.map f).map PyData.bool)[i]? = some d) ?_).sub ?_)
        · rintro _ i d x H2 rfl hi e2 tx
          rw [List.getElem?_map] at hi
          cases hb : ks[i]? with
          | none => rw [hb] at hi; cases hi
          | some b =>
            rw [hb] at hi
            cases hi
            exact (evd_ix (d := .bool (f b)) trivial (evd_var trivial (by simp [wipe, hl]) tx) (evv_c trivial) (hk b)).sub fun v H3 _ ⟨d0, e0, p0⟩ => ⟨d0, by rw [List.map_map, List.getElem?_map, hb]; exact e0 ▸ rfl, p0⟩
        · rintro v H3 e3 ⟨p, xs, es, h1, h2, h3, h4, h5, _, rfl, g1, g2⟩
          exact ⟨p, xs, es, h1, h2, h3, h4, h5, eq_of_gets (by rw [g1]; simp) g2⟩
      refine run_asgV (v := .bl (bbLv ks)) (by rw [bbLv_any]; exact anyAt bLv rfl rfl (fun _ => rfl) rfl) ?_
      have hz1 : ∀ {σ : L2.St} {y : Str}, σ[2]? = some (some (.str z)) → EvB F0 (tTest (tOp rEq (tVar 2) (tC (.str y)))) σ H1 (decide (V.str z = V.str y)) := fun h => et_test (evv_eq (evv_var trivial h) (evv_c trivial) rfl)
      rcases hc with rfl | ⟨e, rfl⟩ | rfl
      · cases hd
        refine run_whenF (hz1 rfl) (by decide) (run_ret (evd_tup (eda_cons (evv_db (evv_is (anyAt bThr rfl rfl (fun _ => rfl) rfl) ?_)) (eda_cons (evv_db (evv_var trivial rfl)) eda_nil)) (show 2 ≤ 100000 by decide)))
        rw [← bbThr_any]
        rfl
      · match ks, oh.2 with
        | [a, b], _ =>
          cases hd
          refine run_whenF (hz1 rfl) (by decide) (run_ret (evd_tup (eda_cons (evv_db (evv_is (anyAt bThr rfl rfl (fun _ => rfl) rfl) ?_)) (eda_cons (evv_db (evv_var trivial rfl)) eda_nil)) (show 2 ≤ 100000 by decide)))
          rw [← bbThr_any]
          rfl
      · match ks, (show ks.length = 1 from oh) with
        | [a], _ =>
          cases hd
          exact run_whenT (hz1 rfl) (by decide) (run_ret (evd_tup (eda_cons (evv_db (evv_var trivial rfl)) (eda_cons (evd_bool trivial) eda_nil)) (show 2 ≤ 100000 by decide)))
  · cases h with
    | opn => exact absurd (.inl rfl) hc
    | iff e => exact absurd (.inr (.inl ⟨e, rfl⟩)) hc
    | rep => exact absurd (.inr (.inr rfl)) hc
    | set x e => cases hd; exact run_whenT yes rfl pair
    | leave => cases hd; exact run_whenF (no (by decide)) rfl (run_whenT yes rfl pair)
    | tell x e => cases hd; exact run_whenF (no (by decide)) rfl (run_whenF (no (by decide)) rfl (run_whenT (et_or (c := false) i1 fun h => absurd h (by decide)) (by decide) pair))
    | hear x e => cases hd; exact run_whenF (no (by decide)) rfl (run_whenF (no (by decide)) rfl (run_whenT (et_or (c := false) i1 fun h => absurd h (by decide)) (by decide) pair))
    | home => cases hd; exact run_whenF (no (by decide)) rfl (run_whenF (no (by decide)) rfl (run_whenT (et_or (c := false) i1 fun h => absurd h (by decide)) (by decide) pair))
    | fail => cases hd; exact run_whenF (no (by decide)) rfl (run_whenF (no (by decide)) rfl (run_whenT (et_or (c := false) i1 fun h => absurd h (by decide)) (by decide) pair))
    | wait x => cases hd; exact run_whenF (no (by decide)) rfl (run_whenF (no (by decide)) rfl (run_whenT (et_or (c := false) i1 fun h => absurd h (by decide)) (by decide) pair))
theorem thr_all : ∀ {b : List Oh.T}, (∀ t ∈ b, t.thr = true) → bThr b = true ∧ bLv b = b.any Oh.T.lv
  | [], _ => ⟨rfl, rfl⟩
  | t :: ts, h => by
    have h1 := h t (List.mem_cons_self ..)
    obtain ⟨h2, h3⟩ := thr_all (b := ts) fun u hu => h u (List.mem_cons_of_mem _ hu)
    simp [bThr, bLv, h1, h2, h3]
theorem thr_stop : ∀ {b : List Oh.T} {i : Nat} {t : Oh.T}, (∀ u ∈ b.take i, u.thr = true) → b[i]? = some t → t.thr = false → bThr b = false ∧ bLv b = ((b.take i).any Oh.T.lv || t.lv)
  | [], i, t, _, h, _ => by simp at h
  | u :: us, 0, t, _, h, hn => by
    simp at h
    subst h
    simp [bThr, bLv, hn]
  | u :: us, i + 1, t, h, hi, hn => by
    have h1 := h u (by simp)
    obtain ⟨h2, h3⟩ := thr_stop (b := us) (i := i) (t := t) (fun v hv => h v (by simp [hv])) (by simpa using hi) hn
    simp [bThr, bLv, h1, h2, h3, Bool.or_assoc]
theorem sc_ways_through : FnScope ["block", "depth", "left", "statement", "through", "leaving"] ["block", "depth"] (fnScope s_ways_through) := ⟨rfl, rfl, rfl, by decide +kernel, rfl, by decide +kernel, by decide +kernel⟩
theorem ways_through_step (T : Tx w K mg) (n m : Nat) (c_ways_of : Cal P w K mg base n "ways_of" (spWo K m) []) : Cal P w K mg base (n + 1) "ways_through" (spWt K (m + 1)) [] := by
  refine T.d_ways_through.cal sc_ways_through (fun F => ⟨[], .nil, F.bindsN fun _ _ _ _ _ _ us hl => match us, hl with | [_, _], _ => rfl⟩) (by rintro vs H Q E ⟨v, _, _, _, rfl, _⟩; rfl) fun f cdv A outer s H vs Q E hr h => ?_
  obtain ⟨v, b, lp, dep, rfl, ok, hn, h12, td, hQ⟩ := h
  refine ⟨_, (pss_cons (ps_set (i := 2) sc_ways_through.nd rfl (Or.inl rfl) pe_bl)
    (pss_cons (ps_for PassesOwn.never rfl (pi_tup (pv 0)) (pg_name (i := 3) sc_ways_through.nd rfl (Or.inl rfl))
      (pss_cons (ps_asg (pe_c c_ways_of hr (by omega) rfl (pa_cons (pv 3) (pa_cons (pv 1) pa_nil))) (pg_tup rfl (pgs_cons (pg_name (i := 4) sc_ways_through.nd rfl (Or.inl rfl)) (pgs_cons (pg_name (i := 5) sc_ways_through.nd rfl (Or.inl rfl)) pgs_nil))))
      (pss_cons (ps_set (i := 2) sc_ways_through.nd rfl (Or.inl rfl) (pe_or (pv 2) (pe_one (pv 5))))
      (pss_one (ps_if (pt_not (pt_val (pv 4)))
        (pss_one (ps_ret (pe_tup (pa_cons pe_bl (pa_cons (pv 2) pa_nil)))))
        pss_nil)))))
    (pss_one (ps_ret (pe_tup (pa_cons pe_bl (pa_cons (pv 2) pa_nil))))))), ?_⟩
  obtain ⟨a, xs, rfl, hs, hx⟩ := td.tupE
  refine ⟨.ref a, rfl, a, rfl, ⟨_, hs⟩, for_tup (xs := xs) (fun i σ H2 => Same H H2 ∧ σ.length = 6 ∧ σ[1]? = some (some (.int dep)) ∧ σ[2]? = some (some (.bl ((b.take i).any Oh.T.lv))) ∧ ∀ t ∈ b.take i, t.thr = true) ⟨fun _ _ h => h, rfl, rfl, rfl, by simp⟩ (fun i σ H2 _ z => Same.sqt z.1 hs) ?_ ?_⟩
  · rintro i x σ H2 hi ⟨e2, hl, h1, h2, hthr⟩
    obtain ⟨d, hd, tx⟩ := hx.getV hi
    rw [bd_get] at hd
    cases hb : b[i]? with
    | none => rw [hb] at hd; cases hd
    | some t =>
      rw [hb] at hd
      obtain rfl : t.d = d := Option.some.inj hd
      have hm := List.mem_of_getElem? hb
      obtain ⟨th, tk⟩ := t
      have hht := ht_mem hm
      refine (evd_wo (F := F0) (E := C8.E0) (dep := dep) (evd_var (i := 3) (σ := σ.set 3 (some x)) trivial (by simp [hl]) (tx.same e2)) (evv_var (i := 1) trivial (by simpa using h1)) (ok _ hm) (by omega) (by omega)) H2 (.refl trivial) _ fun v H3 e3 ⟨d0, e0, p0⟩ => ?_
      subst e0
      obtain ⟨pa, ps, rfl, hps, hpd⟩ := p0.tupE
      cases hpd with
      | cons q1 hpd => cases hpd with
        | cons q2 hpd =>
          cases hpd
          cases q1
          cases q2
          have e3 := e2.trans e3.same
          refine ⟨pa, _, rfl, hps, rfl, _, _, rfl, _, _, rfl, rfl, ?_⟩
          refine ⟨.bl ((b.take i).any Oh.T.lv), by simpa using h2, _, rfl, ?_⟩
          have fin : ∀ k : Bool, k = ((b.take i).any Oh.T.lv || (Oh.T.mk th tk).lv) → tIfS (tNot (tB (tVar 4))) (tRet (tTup (tCons (tC (.bl false)) (tCons (tVar 2) tNil)))) tNext
              { nx := fun σ H2 => Same H H2 ∧ σ.length = 6 ∧ σ[1]? = some (some (.int dep)) ∧ σ[2]? = some (some (.bl ((b.take (i + 1)).any Oh.T.lv))) ∧ ∀ t ∈ b.take (i + 1), t.thr = true, ct := fun σ H2 => Same H H2 ∧ σ.length = 6 ∧ σ[1]? = some (some (.int dep)) ∧ σ[2]? = some (some (.bl ((b.take (i + 1)).any Oh.T.lv))) ∧ ∀ t ∈ b.take (i + 1), t.thr = true, bk := fun σ H => (tRet (tTup (tCons (tC (.bl true)) (tCons (tVar 2) tNil)))) { nx := fun _ H' => Q .non H', rt := Q } σ H, rt := Q }
              ((((σ.set 3 (some x)).set 4 (some (.bl (Oh.T.mk th tk).thr))).set 5 (some (.bl (Oh.T.mk th tk).lv))).set 2 (some (.bl k))) H3 := by
            intro k hk
            refine ⟨_, by simp [hl]; rfl, _, rfl, ?_⟩
            cases ht : (Oh.T.mk th tk).thr with
            | true =>
              have hthr' : ∀ t ∈ b.take (i + 1), t.thr = true := by
                intro u hu
                rw [List.take_add_one, hb] at hu
                rcases List.mem_append.mp hu with z | z
                · exact hthr u z
                · obtain rfl : u = Oh.T.mk th tk := by simpa using z
                  exact ht
              refine ⟨e3, by simp [hl], by simpa using h1, ?_, hthr'⟩
              rw [List.getElem?_set_self (by simp [hl]), hk, List.take_add_one, hb]
              simp
            | false =>
              obtain ⟨g1, g2⟩ := thr_stop hthr hb ht
              refine ⟨_, by rw [List.getElem?_set_self (by simp [hl])], (show 2 ≤ sizeLine by decide), fun p hp => hQ _ _ (e3.trans (same_new hp)) (.tup (.of upd_same) (.cons ?_ (.cons ?_ .nil)))⟩
              · rw [g1]; exact .bl false
              · rw [g2, ← hk]; exact .bl k
          cases hk : (b.take i).any Oh.T.lv with
          | true => exact fin true (by rw [hk]; rfl)
          | false => exact ⟨_, by simp [hl]; rfl, fin _ (by rw [hk]; simp)⟩
  · rintro σ H2 ⟨e2, hl, h1, h2, hthr⟩
    have hxl : xs.length = b.length := by rw [hx.len, bd_len]
    rw [hxl, List.take_length] at h2 hthr
    obtain ⟨g1, g2⟩ := thr_all hthr
    refine ⟨_, h2, (show 2 ≤ sizeLine by decide), fun p hp => hQ _ _ (e2.trans (same_new hp)) (.tup (.of upd_same) (.cons ?_ (.cons ?_ .nil)))⟩
    · rw [g1]; exact .bl true
    · rw [g2]; exact .bl _
theorem c_ways (T : Tx w K mg) : ∀ n : Nat, Cal P w K mg base (2 * n + 12) "ways_of" (spWo K n) [] ∧ Cal P w K mg base (2 * n + 13) "ways_through" (spWt K (n + 1)) []
  | 0 => by
    have no : ∀ vs H Q E, ¬ spWt K 0 vs H Q E := fun vs H Q E ⟨v, b, lp, dep, _, _, h, _⟩ => by omega
    have h0 : Cal P w K mg base (10 + 1) "ways_through" (spWt K 0) [] := T.d_ways_through.cal sc_ways_through (fun F => ⟨[], .nil, F.bindsN fun _ _ _ _ _ _ us hl => match us, hl with | [_, _], _ => rfl⟩) (fun vs H Q E h => (no vs H Q E h).elim) fun _ _ _ _ _ _ _ _ _ _ h => (no _ _ _ _ h).elim
    have h1 := ways_of_step T 0 h0
    exact ⟨h1, ways_through_step T _ _ h1⟩
  | n + 1 => by
    have h1 := ways_of_step T (n + 1) (c_ways T n).2
    exact ⟨h1, ways_through_step T _ _ h1⟩
def spDeals (K : PySem.W.Frag) : Sp := fun vs H Q _ => ∃ v b lp, ∃ dep : Int, vs = [v, .int dep] ∧ (∀ t ∈ b, T.Ok lp t) ∧ bHt b ≤ 11 ∧ dep + (bHt b : Int) ≤ 12 ∧ Td K H v (blkD b) ∧ ∀ H', Same H H' → Q (.bl (!bThr b)) H'
theorem sc_deals : FnScope ["block", "depth"] ["block", "depth"] (fnScope s_deals) := ⟨rfl, rfl, rfl, by decide +kernel, rfl, by decide +kernel, by decide +kernel⟩
theorem c_deals (T : Tx w K mg) : Cal P w K mg base 36 "deals" (spDeals K) [] := by
  have c_ways_through := (c_ways (P := P) (base := base) T 11).2
  refine T.d_deals.cal sc_deals (fun F => F.binds1 2 1 (by simp) rfl fun _ _ _ _ _ _ _ us its hu hi => match us, hu, its, hi with | [_, _], _, [_], _ => ⟨_, rfl, rfl⟩) (by rintro vs H Q E ⟨v, _, _, _, rfl, _⟩; rfl) fun f cdv A outer s H vs Q E hr h => ?_
  obtain ⟨v, b, lp, dep, rfl, ok, hn, h12, td, hQ⟩ := h
  refine ⟨_, (pss_one (ps_ret (pe_not (pe_ix (r := rIxT K) ix_tup (pe_c c_ways_through hr (by omega) rfl (pa_cons (pv 0) (pa_cons (pv 1) pa_nil))) pe_int (fun _ _ => rfl))))), ?_⟩
  refine run_go (R := .eq (.bl (!bThr b))) ?_ (fun v H1 e p => by rw [show v = V.bl (!bThr b) from p]; exact hQ _ e)
  exact run_retV (evv_not (evd_b (evd_ix (d := .bool (bThr b)) trivial (evd_wt (b := b) (dep := dep) (evd_var trivial rfl td) (evv_var trivial rfl) ok (by omega) h12) (evv_c trivial) rfl))) fun _ _ => rfl
theorem evv_deals {b : List Oh.T} {lp : Bool} {dep : Int} (h : EvD F K te σ H (blkD b)) (hd : EvV F tb σ H (.int dep)) (ok : ∀ t ∈ b, Oh.T.Ok lp t) (hn : bHt b ≤ 11) (h12 : dep + (bHt b : Int) ≤ 12) : EvV F (tCall (spDeals K) [] E (tCons te (tCons tb tNil))) σ H (.bl (!bThr b)) :=
  ev_call (ea_cons h (ea_cons hd ea_nil)) fun vs H1 e1 p Q q => by
    match vs, p with
    | [x, y], ⟨⟨d0, e0, p0⟩, p1, _⟩ =>
      subst e0
      exact ⟨x, b, lp, dep, by rw [show y = V.int dep from p1]; rfl, ok, hn, h12, p0, fun H' e => q _ _ (.of e1.good e) rfl⟩
def spWrong (K : PySem.W.Frag) : Sp := fun vs H Q _ => ∃ v h ks lp, ∃ dep : Int, vs = [v, .int dep, .bl lp] ∧ T.Ok lp (.mk h ks) ∧ 1 ≤ dep ∧ dep + ((T.mk h ks).ht : Int) ≤ 12 ∧ Td K H v (T.mk h ks).d ∧ ∀ H', Same H H' → Q (.bl false) H'
theorem evv_lenL {H0 : Hp} {φ : List PyData → Prop} {n : Nat} (h : Ev F te σ H (.nls K H0 φ)) (hn : ∀ ds, φ ds → ds.length = n) : EvV F (tCB (rLenQ K) (tCons te tNil)) σ H (.int n) := fun H1 e Q q =>
  h H1 e _ fun v H2 e2 ⟨a, xs, ds, ev, _, hsp, hl, hx, hφ⟩ => by
    subst ev
    exact ⟨a, xs, rfl, .inl (.of hl), q _ _ e2 (by rw [hx.len, hn ds hφ]; rfl)⟩
theorem sc_is_wrong : FnScope ["item", "depth", "looped"] ["item", "depth", "looped"] (fnScope s_is_wrong) := ⟨rfl, rfl, rfl, by decide +kernel, rfl, by decide +kernel, by decide +kernel⟩
theorem c_is_wrong (T : Tx w K mg) : Cal P w K mg base 37 "is_wrong" (spWrong K) [] := by
  have c_is_statement := c_is_statement (P := P) (base := base) T
  have c_blocks_of := c_blocks_of (P := P) (base := base) T
  have c_deals := c_deals (P := P) (base := base) T
  refine T.d_is_wrong.cal sc_is_wrong (fun F => ⟨[], .nil, F.bindsN fun _ _ _ _ _ _ us hl => match us, hl with | [_, _, _], _ => rfl⟩) (by rintro vs H Q E ⟨v, _, _, _, _, rfl, _⟩; rfl) fun f cdv A outer s H vs Q E hr h => ?_
  obtain ⟨v, h, ks, lp, dep, rfl, ok, h1, h12, td, hQ⟩ := h
  refine ⟨_, (pss_cons (ps_if (pt_not (pt_val (pe_c c_is_statement hr (by omega) rfl (pa_cons (pv 0) pa_nil))))
      (pss_one (ps_ret pe_bl))
      pss_nil)
    (pss_cons (ps_if (pt_cmpR op_eq (pe_ix (r := rIxT K) ix_tup (pv 0) pe_int (fun _ _ => rfl)) pe_str (nomark _))
      (pss_one (ps_ret (pe_not (pv 2))))
      pss_nil)
    (pss_cons (ps_if (PW.pt (pw_and (pt_cmpR op_gt (pe_callB (r := rLenQ K) call_len_seq rfl T.z_len PySem.boot_len (pa_cons (pe_c c_blocks_of hr (by omega) rfl (pa_cons (pv 0) pa_nil)) pa_nil)) pe_int (nomark _)) (pw_and1 (pt_cmpR op_ge (pv 1) (pe_gc rfl T.g_MOST_DEPTH) (nomark _)))))
      (pss_one (ps_ret pe_bl))
      pss_nil)
    (pss_one (ps_ret (pe_and (pe_cmpR op_eq (pe_ix (r := rIxT K) ix_tup (pv 0) pe_int (fun _ _ => rfl)) pe_str (nomark _)) (pe_one (pe_not (pe_c c_deals hr (by omega) rfl (pa_cons (pe_ix (r := rIxT K) ix_tup (pv 0) pe_int (fun _ _ => rfl)) (pa_cons (pe_op op_add (pv 1) pe_int) pa_nil))))))))))), ?_⟩
  refine run_go (R := .eq (.bl false)) ?_ (fun v H1 e p => by rw [show v = V.bl false from p]; exact hQ _ e)
  obtain ⟨oh, o12, oall, olv, orep⟩ := ok.inv
  obtain ⟨z, r, hd⟩ := hd_at0 (h := h) (ks := ks)
  have hv0 : EvD F0 K (tVar 0) (L2.start ["item", "depth", "looped"] [v, .int dep, .bl lp]) H (Oh.T.mk h ks).d := evd_var trivial rfl td
  have hdep : EvV F0 (tVar 1) (L2.start ["item", "depth", "looped"] [v, .int dep, .bl lp]) H (.int dep) := evv_var trivial rfl
  refine run_whenF (et_not (et_B (evv_stm hv0 oh o12))) rfl ?_
  have hz : EvV F0 (tOp (rIxT K) (tVar 0) (tC (.int 0))) (L2.start ["item", "depth", "looped"] [v, .int dep, .bl lp]) H (.str z) := evd_s (evd_ix trivial (hd ▸ hv0) (evv_c trivial) (atI_nat (j := 0) rfl))
  have hzy : ∀ {y : Str}, EvB F0 (tTest (tOp rEq (tOp (rIxT K) (tVar 0) (tC (.int 0))) (tC (.str y)))) (L2.start ["item", "depth", "looped"] [v, .int dep, .bl lp]) H (decide (V.str z = V.str y)) := et_test (evv_eq hz (evv_c trivial) rfl)
  have hk : ks.length = 0 ∨ 1 ≤ (Oh.T.mk h ks).ht := by
    cases ks with
    | nil => exact .inl rfl
    | cons b bs => refine .inr ?_; simp only [Oh.T.ht, bbHt]; omega
  have hblk := ev_blocks (F := F0) (E := C8.E0) hv0 oh
  have hlen : EvV F0 (tCB (rLenQ K) (tCons (tCall (spBlocks K) [] C8.E0 (tCons (tVar 0) tNil)) tNil)) (L2.start ["item", "depth", "looped"] [v, .int dep, .bl lp]) H (.int (ks.length : Nat)) := evv_lenL hblk fun ds e => by rw [e, bbd_len]
  have t2 : EvB F0 (tAnd (tTest (tOp (rI0 fun i j => .bl (decide (j < i))) (tCB (rLenQ K) (tCons (tCall (spBlocks K) [] C8.E0 (tCons (tVar 0) tNil)) tNil)) (tC (.int 0)))) (tTest (tOp (rI0 fun i j => .bl (decide (j ≤ i))) (tVar 1) (tC (.int 12))))) (L2.start ["item", "depth", "looped"] [v, .int dep, .bl lp]) H (decide ((0 : Int) < (ks.length : Nat)) && decide ((12 : Int) ≤ dep)) :=
    et_and (et_test (evv_I0 hlen (evv_c trivial))) fun _ => et_test (evv_I0 hdep (evv_c trivial))
  have f2 : (decide ((0 : Int) < (ks.length : Nat)) && decide ((12 : Int) ≤ dep)) = false := by
    rcases hk with hk | hk
    · rw [hk]; rfl
    · rw [decide_eq_false (show ¬ (12 : Int) ≤ dep by omega), Bool.and_false]
  by_cases hl : h = .leave
  · subst hl
    have := olv rfl
    subst this
    cases hd
    exact run_whenT hzy (by decide) (run_retV (evv_not (evv_var (v := .bl true) trivial rfl)) fun _ _ => rfl)
  · have hzl : z ≠ "leave" := by
      rintro rfl
      cases h <;> first | exact absurd rfl hl | (cases hd)
    refine run_whenF hzy (decide_eq_false fun e => hzl (V.str.inj e)) ?_
    refine run_whenF t2 f2 ?_
    by_cases hr2 : h = .rep
    · subst hr2
      match ks, (show ks.length = 1 from oh) with
      | [b], _ =>
        cases hd
        have hb := orep rfl b (by simp)
        have hh : bHt b + 1 ≤ (Oh.T.mk .rep [b]).ht := bht_mem (by simp)
        refine run_retV ((evv_and (c := false) (evv_eq hz (evv_c trivial) rfl) fun _ => evv_is (evv_not (evv_deals (b := b) (dep := dep + 1) (evd_ix (d := blkD b) trivial hv0 (evv_c trivial) rfl) (evv_I0 hdep (evv_c trivial)) (oall b (by simp)) (by omega) (by omega))) (by rw [hb]; rfl))) fun _ _ => ?_
        show V.bl (decide (V.str "repeat" = V.str "repeat") && false) = V.bl false
        simp
    · have hzr : z ≠ "repeat" := by
        rintro rfl
        cases h <;> first | exact absurd rfl hr2 | (cases hd)
      have e2 : decide (V.str z = V.str "repeat") = false := decide_eq_false fun e => hzr (V.str.inj e)
      exact run_retV (evv_and (c := false) (evv_is (evv_eq hz (evv_c trivial) rfl) (congrArg V.bl e2)) fun h => absurd h (by decide)) fun _ _ => rfl
theorem evv_wrong {h : Hd} {ks : List (List Oh.T)} {lp : Bool} {dep : Int} {tc : TE} (hh : EvD F K te σ H (Oh.T.mk h ks).d) (hd : EvV F tb σ H (.int dep)) (hl : EvV F tc σ H (.bl lp)) (ok : Oh.T.Ok lp (.mk h ks)) (h1 : 1 ≤ dep) (h12 : dep + ((Oh.T.mk h ks).ht : Int) ≤ 12) : EvV F (tCall (spWrong K) [] E (tCons te (tCons tb (tCons tc tNil)))) σ H (.bl false) :=
  ev_call (ea_cons hh (ea_cons hd (ea_cons hl ea_nil))) fun vs H1 e1 p Q q => by
    match vs, p with
    | [x, y, u], ⟨⟨d0, e0, p0⟩, p1, p2, _⟩ =>
      subst e0
      exact ⟨x, h, ks, lp, dep, by rw [show y = V.int dep from p1, show u = V.bl lp from p2]; rfl, ok, h1, h12, p0, fun H' e => q _ _ (.of e1.good e) rfl⟩
end
end Oh
set_option maxHeartbeats 4000000
namespace Oh
open PySem PySem.Spec PyProof.Rows L2
open C8 (Cal Met Mak pe_c pe_mk pe_mt pe_mt0 pe_gc InsC call_isC tCut pss_cut fnBody fnArgs fnScope)
section
variable {P : Program} {w : World} {K : PySem.W.Frag} {mg : Str → Option Value} {base : Heap} {F : Fm} {te tb ta : TE} {σ : L2.St} {H : Hp} {E : XK} {VT : VP F} {t : TA} {ds es : List PyData}
theorem evd_cat (ha : EvD F K ta σ H (.tuple ds)) (hb : EvD F K tb σ H (.tuple es)) (hl : ds.length + es.length ≤ 100000) : EvD F K (tOp (rCatA K) ta tb) σ H (.tuple (ds ++ es)) :=
  ev_op ha hb fun x y H1 e1 ⟨d0, e0, p0⟩ ⟨d1, e1', p1⟩ Q q => by
    subst e0
    subst e1'
    obtain ⟨a, xs, rfl, hs, hx⟩ := p0.tupE
    obtain ⟨b, ys, rfl, hs2, hy⟩ := p1.tupE
    refine ⟨a, b, xs, ys, rfl, rfl, hs, hs2, by rw [hx.len, hy.len]; exact Nat.le_trans hl (by decide), fun hn => ?_, fun _ hn => ?_, fun _ _ p hp => ?_⟩
    · subst hn
      cases hx
      exact q _ _ (.refl e1.good) ⟨_, rfl, by simpa using p1⟩
    · subst hn
      cases hy
      exact q _ _ (.refl e1.good) ⟨_, rfl, by simpa using p0⟩
    · have en : F.L H1 (upd H1 p (.tup (xs ++ ys))) := .new e1.good hp
      exact q _ _ en ⟨_, rfl, .tup (.of upd_same) ((hx.append hy).tl (en.tl e1.good))⟩
/-- a path and what is put behind it -/
theorem evd_path {ns : List Int} {m : Int} (ha : EvD F K ta σ H (.tuple (ns.map .int))) (hb : EvV F tb σ H (.int m)) (hl : ns.length ≤ 1000) : EvD F K (tOp (rCatA K) ta (tTup (tCons tb tNil))) σ H (.tuple ((ns ++ [m]).map .int)) :=
  (evd_cat ha (evd_tup (eda_cons (evv_di hb) eda_nil) (show 1 ≤ 100000 by decide)) (by rw [List.length_map]; simp only [List.length_singleton]; omega)).sub fun v H1 _ ⟨d, e, p⟩ => ⟨d, by rw [e]; simp, p⟩
theorem Emp.td {a : Addr} (h : Emp K a) : Td K H (.ref a) (.tuple []) := .tup (.inr h) .nil
def spFW (K : PySem.W.Frag) (n : Nat) : Sp := fun vs H Q _ => ∃ v b lp, ∃ dep : Int, ∃ av, ∃ ns : List Int, vs = [v, av, .int dep, .bl lp] ∧ (∀ t ∈ b, T.Ok lp t) ∧ bHt b + 1 ≤ n ∧ (1 ≤ dep ∧ dep + (bHt b : Int) ≤ 12) ∧ Td K H v (blkD b) ∧ (Td K H av (.tuple (ns.map .int)) ∧ ns.length + 2 * n ≤ 100) ∧ ∀ H', Same H H' → Q .non H'
theorem sc_first_wrong : FnScope ["block", "ahead", "depth", "looped", "index", "item", "path", "within", "number", "part", "found"] ["block", "ahead", "depth", "looped"] (fnScope s_first_wrong) := ⟨rfl, rfl, rfl, by decide +kernel, rfl, by decide +kernel, by decide +kernel⟩
theorem evv_fw {n : Nat} {b : List Oh.T} {lp : Bool} {dep : Int} {ns : List Int} {tc : TE} (h : EvD F K te σ H (blkD b)) (ha : EvD F K ta σ H (.tuple (ns.map .int))) (hd : EvV F tb σ H (.int dep)) (hl : EvV F tc σ H (.bl lp)) (ok : ∀ t ∈ b, Oh.T.Ok lp t) (hn : bHt b + 1 ≤ n) (h12 : 1 ≤ dep ∧ dep + (bHt b : Int) ≤ 12)
    (hns : ns.length + 2 * n ≤ 100) : EvV F (tCall (spFW K n) [] E (tCons te (tCons ta (tCons tb (tCons tc tNil))))) σ H .non :=
  ev_call (ea_cons h (ea_cons ha (ea_cons hd (ea_cons hl ea_nil)))) fun vs H1 e1 p Q q => by
    match vs, p with
    | [x, y, u, z], ⟨⟨d0, e0, p0⟩, ⟨d1, e1', p1⟩, p2, p3, _⟩ =>
      subst e0
      subst e1'
      exact ⟨x, b, lp, dep, y, ns, by rw [show u = V.int dep from p2, show z = V.bl lp from p3]; rfl, ok, hn, h12, p0, ⟨p1, hns⟩, fun H' e => q _ _ (.of e1.good e) rfl⟩
theorem fw_step (T : Tx w K mg) (m n : Nat) (hm : 37 ≤ m) (c_first_wrong : Cal P w K mg base m "first_wrong" (spFW K n) []) {e : Addr} (D : Has K mg "first_wrong" s_first_wrong [.ref e, .int 1, .bl false]) :
    Cal P w K mg base (m + 1) "first_wrong" (spFW K (n + 1)) [] ∧ Cal P w K mg base (m + 1) "first_wrong" (spFW K (n + 1)) [.ref e, .int 1, .bl false] := by
  have c_is_wrong := c_is_wrong (P := P) (base := base) T
  have c_blocks_of := c_blocks_of (P := P) (base := base) T
  have body : ∀ (f : Addr) (cdv : Value) (A : Around) (outer : List Env) (s : Shared) (H : Hp) (vs : List V) (Q : VK) (E : XK), Room m (A.deeper (envOfC "first_wrong" (fnScope s_first_wrong) s.heap.objs.size f cdv)) → spFW K (n + 1) vs H Q E →
      ∃ t, PSs (cxOf C8.CX0 P w K mg base ["block", "ahead", "depth", "looped", "index", "item", "path", "within", "number", "part", "found"] "first_wrong" (fnScope s_first_wrong) f cdv A outer s H E).nox (fnBody s_first_wrong) t ∧ t { nx := fun _ H' => Q .non H', rt := Q } (L2.start ["block", "ahead", "depth", "looped", "index", "item", "path", "within", "number", "part", "found"] vs) H := by
    intro f cdv A outer s H vs Q E hr h
    obtain ⟨v, b, lp, dep, av, ns, rfl, ok, hn, ⟨h1, h12⟩, td, ⟨ta, hns⟩, hQ⟩ := h
    refine ⟨_, (pss_cons (ps_for PassesOwn.never rfl (pi_enumT rfl T.z_enumerate (pa_cons (pv 0) pa_nil)) (pg_tup rfl (pgs_cons (pg_name (i := 4) sc_first_wrong.nd rfl (Or.inl rfl)) (pgs_cons (pg_name (i := 5) sc_first_wrong.nd rfl (Or.inl rfl)) pgs_nil)))
      (pss_cons (ps_set (i := 6) sc_first_wrong.nd rfl (Or.inl rfl) (pe_op (r := rCatA K) op_catA (pv 1) (pe_tup (pa_cons (pv 4) pa_nil))))
      (pss_cons (ps_if (pt_val (pe_c c_is_wrong hr (by omega) rfl (pa_cons (pv 5) (pa_cons (pv 2) (pa_cons (pv 3) pa_nil)))))
        (pss_one (ps_ret (pv 6)))
        pss_nil)
      (pss_cons (ps_set (i := 7) sc_first_wrong.nd rfl (Or.inl rfl) (pe_or (pv 3) (pe_one (pe_cmpR op_eq (pe_ix (r := rIxT K) ix_tup (pv 5) pe_int (fun _ _ => rfl)) pe_str (nomark _)))))
      (pss_one (ps_for PassesOwn.never rfl (pi_enum rfl T.z_enumerate (pa_cons (pe_c c_blocks_of hr (by omega) rfl (pa_cons (pv 5) pa_nil)) pa_nil)) (pg_tup rfl (pgs_cons (pg_name (i := 8) sc_first_wrong.nd rfl (Or.inl rfl)) (pgs_cons (pg_name (i := 9) sc_first_wrong.nd rfl (Or.inl rfl)) pgs_nil)))
        (pss_cons (ps_set (i := 10) sc_first_wrong.nd rfl (Or.inl rfl) (pe_c c_first_wrong hr (by omega) rfl (pa_cons (pv 9) (pa_cons (pe_op (r := rCatA K) op_catA (pv 6) (pe_tup (pa_cons (pv 8) pa_nil))) (pa_cons (pe_op op_add (pv 2) pe_int) (pa_cons (pv 7) pa_nil))))))
        (pss_one (ps_if (pt_cmpR op_notN1 (pv 10) pe_non (nomark _))
          (pss_one (ps_ret (pv 10)))
          pss_nil)))))))))
    (pss_one (ps_ret pe_non))), ?_⟩
    refine run_go (R := .eq .non) ?_ (fun v H1 e p => by rw [show v = V.non from p]; exact hQ _ e)
    refine runP_seqS (runP_forE (ds := bd b) (evd_var trivial rfl td) (fun i σ => σ.length = 11 ∧ σ[1]? = some (some av) ∧ σ[2]? = some (some (.int dep)) ∧ σ[3]? = some (some (.bl lp))) ⟨rfl, rfl, rfl, rfl⟩ ?_) fun σ' _ => run_retV (evv_c trivial) fun _ _ => rfl
    rintro i d x σ H1 hi ⟨hl, s1, s2, s3⟩ e1 tx
    rw [bd_get] at hi
    cases hb : b[i]? with
    | none => rw [hb] at hi; cases hi
    | some t =>
      rw [hb] at hi
      obtain rfl : t.d = d := Option.some.inj hi
      have hm' := List.mem_of_getElem? hb
      have hht := ht_mem hm'
      obtain ⟨th, tk⟩ := t
      have ok1 := ok _ hm'
      obtain ⟨oh, o12, oall, olv, orep⟩ := ok1.inv
      have ta1 := ta.same e1.same
      refine runP_seqG (evd_path (ns := ns) (evd_var trivial (by simpa using s1) ta1) (evv_var (v := .int (i : Nat)) trivial (by simp [hl])) (by omega)) fun pv H2 e2 ⟨d2, e0, tp⟩ => ?_
      subst e0
      have tx2 := tx.same e2.same
      refine runP_seq (P' := fun σ2 => σ2 = (((σ.set 4 (some (.int (i : Nat)))).set 5 (some x)).set 6 (some pv))) (runP_skip (et_B (evv_wrong (evd_var trivial (by simp [hl]) tx2) (evv_var (v := .int dep) trivial (by simpa using s2)) (evv_var (v := .bl lp) trivial (by simpa using s3)) ok1 h1 (by omega))) rfl rfl) fun σ2 hσ2 => ?_
      subst hσ2
      obtain ⟨z, r, hd⟩ := hd_at0 (h := th) (ks := tk)
      have hz : EvV F0 (tOp (rIxT K) (tVar 5) (tC (.int 0))) (((σ.set 4 (some (.int (i : Nat)))).set 5 (some x)).set 6 (some pv)) H2 (.str z) := evd_s (evd_ix trivial (hd ▸ evd_var trivial (by simp [hl]) tx2) (evv_c trivial) (atI_nat (j := 0) rfl))
      have hrep : decide (V.str z = V.str "repeat") = th.isRep := by cases th <;> (cases hd; first | decide | (show decide _ = false; decide))
      refine runP_seqV (v := .bl (lp || th.isRep)) (evv_or (evv_var (v := .bl lp) trivial (by simpa using s3)) fun _ => evv_is (evv_eq hz (evv_c trivial) rfl) (congrArg V.bl hrep)) ?_
      refine (runP_forLE (ev_blocks (evd_var trivial (by simp [hl]) tx2) oh) (fun _ _ σ => σ.length = 11 ∧ σ[1]? = some (some av) ∧ σ[2]? = some (some (.int dep)) ∧ σ[3]? = some (some (.bl lp)) ∧ σ[6]? = some (some pv) ∧ σ[7]? = some (some (.bl (lp || th.isRep)))) (fun ds _ => ⟨by simp [hl], by simpa using s1, by simpa using s2, by simpa using s3, by simp [hl], by simp [hl]⟩) ?_).sub fun σ3 ⟨_, _, a1, a2, a3, a4, _⟩ => ⟨a1, a2, a3, a4⟩
      rintro _ k d3 y σ3 H3 rfl hk ⟨hl3, s13, s23, s33, s63, s73⟩ e3 ty
      rw [bbd_get] at hk
      cases hbk : tk[k]? with
      | none => rw [hbk] at hk; cases hk
      | some c =>
        rw [hbk] at hk
        obtain rfl : blkD c = d3 := Option.some.inj hk
        have hmc := List.mem_of_getElem? hbk
        have hc : bHt c + 1 ≤ (Oh.T.mk th tk).ht := bht_mem hmc
        have tp3 := tp.same e3.same
        refine runP_seqV (v := .non) (evv_fw (b := c) (dep := dep + 1) (ns := ns ++ [(i : Int)] ++ [(k : Int)]) (evd_var trivial (by simp [hl3]) ty) (evd_path (evd_var trivial (by simpa using s63) tp3) (evv_var (v := .int (k : Nat)) trivial (by simp [hl3])) (by simp; omega)) (evv_I0 (evv_var (v := .int dep) trivial (by simpa using s23)) (evv_c trivial)) (evv_var (v := .bl (lp || th.isRep)) trivial (by simpa using s73)) (oall c hmc) (by omega) ⟨by omega, by omega⟩ (by simp; omega)) ?_
        refine runP_skip (b := false) (fun H4 e4 Q q => ?_) rfl ⟨by simp [hl3], by simpa using s13, by simpa using s23, by simpa using s33, by simpa using s63, by simpa using s73⟩
        exact ⟨.non, by simp [hl3], rfl, false, rfl, q _ _ (.refl trivial) rfl⟩
  refine ⟨D.cal sc_first_wrong (fun F => F.binds1 4 3 (by simp) rfl fun _ _ _ _ _ _ _ us its hu hi => match us, hu, its, hi with | [_, _, _, _], _, [_, _, _], _ => ⟨_, rfl, rfl⟩) ?_ body, D.cal sc_first_wrong (fun F => F.binds1 1 0 (by simp) rfl fun _ _ _ _ _ _ _ us its hu hi => match us, hu, its, hi with | [_], _, [_, _, _], _ => ⟨_, rfl, rfl⟩) ?_ body⟩ <;> (rintro vs H Q E ⟨v, _, _, _, _, _, rfl, _⟩; rfl)
theorem c_first_wrong (T : Tx w K mg) {e : Addr} (D : Has K mg "first_wrong" s_first_wrong [.ref e, .int 1, .bl false]) : ∀ n : Nat, Cal P w K mg base (n + 38) "first_wrong" (spFW K (n + 1)) [] ∧ Cal P w K mg base (n + 38) "first_wrong" (spFW K (n + 1)) [.ref e, .int 1, .bl false]
  | 0 => by
    have no : ∀ vs H Q E, ¬ spFW K 0 vs H Q E := fun vs H Q E ⟨v, b, lp, dep, _, _, _, _, h, _⟩ => by omega
    have h0 : Cal P w K mg base (36 + 1) "first_wrong" (spFW K 0) [] := D.cal sc_first_wrong (fun F => F.binds1 4 3 (by simp) rfl fun _ _ _ _ _ _ _ us its hu hi => match us, hu, its, hi with | [_, _, _, _], _, [_, _, _], _ => ⟨_, rfl, rfl⟩) (fun vs H Q E h => (no vs H Q E h).elim) fun _ _ _ _ _ _ _ _ _ _ h => (no _ _ _ _ h).elim
    exact fw_step T 37 0 (by omega) h0 D
  | n + 1 => fw_step T _ _ (by omega) (c_first_wrong T D n).1 D
def T.kids : T → List (List T)
  | .mk _ ks => ks
def sumK (b : List Oh.T) : Nat := (b.map fun t => bbCnt t.kids).sum
theorem bCnt_sum : ∀ b : List Oh.T, bCnt b = b.length + sumK b
  | [] => rfl
  | .mk h ks :: ts => by
    have := bCnt_sum ts
    simp only [bCnt, T.cnt, sumK, List.map_cons, List.sum_cons, List.length_cons, T.kids] at *
    omega
theorem bbCnt_sum : ∀ ks : List (List Oh.T), bbCnt ks = (ks.map bCnt).sum
  | [] => rfl
  | b :: bs => by simp [bbCnt, bbCnt_sum bs]
theorem sum_take {α : Type} (f : α → Nat) {l : List α} {i : Nat} {x : α} (h : l[i]? = some x) : ((l.take (i + 1)).map f).sum = ((l.take i).map f).sum + f x := by
  rw [List.take_add_one, h]
  simp
def spCnt (K : PySem.W.Frag) (n : Nat) : Sp := fun vs H Q _ => ∃ v b lp, vs = [v] ∧ (∀ t ∈ b, T.Ok lp t) ∧ bHt b + 1 ≤ n ∧ Td K H v (blkD b) ∧ ∀ H', Same H H' → Q (.int (bCnt b : Nat)) H'
theorem evv_cnt {n : Nat} {b : List Oh.T} {lp : Bool} (h : EvD F K te σ H (blkD b)) (ok : ∀ t ∈ b, Oh.T.Ok lp t) (hn : bHt b + 1 ≤ n) : EvV F (tCall (spCnt K n) [] E (tCons te tNil)) σ H (.int (bCnt b : Nat)) :=
  ev_call (ea_cons h ea_nil) fun vs H1 e1 p Q q => by
    match vs, p with
    | [x], ⟨⟨d0, e0, p0⟩, _⟩ =>
      subst e0
      exact ⟨x, b, lp, rfl, ok, hn, p0, fun H' e => q _ _ (.of e1.good e) rfl⟩
theorem sc_statement_count : FnScope ["block", "many", "statement", "part"] ["block"] (fnScope s_statement_count) := ⟨rfl, rfl, rfl, by decide +kernel, rfl, by decide +kernel, by decide +kernel⟩
theorem c_statement_count (T : Tx w K mg) (n : Nat) : Cal P w K mg base (n + 2) "statement_count" (spCnt K n) [] := by
  have c_blocks_of := c_blocks_of (P := P) (base := base) T
  induction n with
  | zero =>
    have no : ∀ vs H Q E, ¬ spCnt K 0 vs H Q E := fun vs H Q E ⟨v, b, lp, _, _, h, _⟩ => by omega
    exact T.d_statement_count.cal sc_statement_count (fun F => ⟨[], .nil, F.bindsN fun _ _ _ _ _ _ us hl => match us, hl with | [_], _ => rfl⟩) (fun vs H Q E h => (no vs H Q E h).elim) fun _ _ _ _ _ _ _ _ _ _ h => (no _ _ _ _ h).elim
  | succ n ih =>
    have c_statement_count := ih
    refine T.d_statement_count.cal sc_statement_count (fun F => ⟨[], .nil, F.bindsN fun _ _ _ _ _ _ us hl => match us, hl with | [_], _ => rfl⟩) (by rintro vs H Q E ⟨v, _, _, rfl, _⟩; rfl) fun f cdv A outer s H vs Q E hr h => ?_
    obtain ⟨v, b, lp, rfl, ok, hn, td, hQ⟩ := h
    refine ⟨_, (pss_cons (ps_set (i := 1) sc_statement_count.nd rfl (Or.inl rfl) (pe_callB (r := rLenQ K) call_len_seq rfl T.z_len PySem.boot_len (pa_cons (pv 0) pa_nil)))
    (pss_cons (ps_for PassesOwn.never rfl (pi_tup (pv 0)) (pg_name (i := 2) sc_statement_count.nd rfl (Or.inl rfl))
      (pss_one (ps_for PassesOwn.never rfl (pi_list (pe_c c_blocks_of hr (by omega) rfl (pa_cons (pv 2) pa_nil))) (pg_name (i := 3) sc_statement_count.nd rfl (Or.inl rfl))
        (pss_one (ps_set (i := 1) sc_statement_count.nd rfl (Or.inl rfl) (pe_op op_add (pv 1) (pe_c c_statement_count hr (by omega) rfl (pa_cons (pv 3) pa_nil))))))))
    (pss_one (ps_ret (pv 1))))), ?_⟩
    refine run_go (R := .eq (.int (bCnt b : Nat))) ?_ (fun v H1 e p => by rw [show v = V.int (bCnt b : Nat) from p]; exact hQ _ e)
    refine run_asgV (evv_len (evd_var trivial rfl td)) ?_
    refine runP_seqS (runP_forT (ds := bd b) (evd_var trivial rfl td) (fun i σ => σ.length = 4 ∧ σ[1]? = some (some (.int ((b.length + sumK (b.take i) : Nat) : Int)))) ⟨rfl, by rw [bd_len]; rfl⟩ ?_) fun σ' hσ => run_retV (evv_var trivial (by rw [hσ.2, bd_len, List.take_length, ← bCnt_sum])) fun _ _ => rfl
    rintro i d x σ H1 hi ⟨hl, s1⟩ e1 tx
    rw [bd_get] at hi
    cases hb : b[i]? with
    | none => rw [hb] at hi; cases hi
    | some t =>
      rw [hb] at hi
      obtain rfl : t.d = d := Option.some.inj hi
      have hm' := List.mem_of_getElem? hb
      have hht := ht_mem hm'
      obtain ⟨th, tk⟩ := t
      obtain ⟨oh, o12, oall, olv, orep⟩ := (ok _ hm').inv
      refine (runP_forL (ev_blocks (evd_var trivial (by simp [hl]) tx) oh) (fun _ k σ => σ.length = 4 ∧ σ[1]? = some (some (.int ((b.length + sumK (b.take i) + ((tk.take k).map bCnt).sum : Nat) : Int)))) (fun ds _ => ⟨by simp [hl], by simpa using s1⟩) ?_).sub fun σ3 ⟨_, e, a1, a2⟩ => ⟨a1, ?_⟩
      · rintro _ k d3 y σ3 H3 rfl hk ⟨hl3, s13⟩ e3 ty
        rw [bbd_get] at hk
        cases hbk : tk[k]? with
        | none => rw [hbk] at hk; cases hk
        | some c =>
          rw [hbk] at hk
          obtain rfl : blkD c = d3 := Option.some.inj hk
          have hmc := List.mem_of_getElem? hbk
          have hc : bHt c + 1 ≤ (Oh.T.mk th tk).ht := bht_mem hmc
          refine runP_asgV (evv_I0 (evv_var trivial (by rw [List.getElem?_set_ne (by decide)]; exact s13)) (evv_cnt (b := c) (evd_var trivial (by simp [hl3]) ty) (oall c hmc) (by omega))) ⟨by simp [hl3], ?_⟩
          rw [List.getElem?_set_self (by simp [hl3]), sum_take bCnt hbk]
          exact congrArg (fun z : Int => some (some (V.int z))) (by omega)
      · subst e
        rw [a2, bbd_len, List.take_length, ← bbCnt_sum]
        unfold sumK
        rw [sum_take (fun t => bbCnt t.kids) hb]
        simp only [Oh.T.kids, Nat.add_assoc]
def spTop (K : PySem.W.Frag) : Sp := fun vs H Q _ => ∃ v b, vs = [v] ∧ BOk b ∧ Td K H v (blkD b) ∧ ∀ H', Same H H' → Q .non H'
theorem sc_check_top_block : FnScope ["value", "wrong"] ["value"] (fnScope s_check_top_block) := ⟨rfl, rfl, rfl, by decide +kernel, rfl, by decide +kernel, by decide +kernel⟩
theorem c_check_top_block (T : Tx w K mg) : Cal P w K mg base 51 "check_top_block" (spTop K) [] := by
  obtain ⟨e, he, D⟩ := T.d_first_wrong
  have c_is_block_shape := c_is_block_shape (P := P) (base := base) T
  have c_first_wrong := (c_first_wrong (P := P) (base := base) T D 11).2
  have c_statement_count := c_statement_count (P := P) (base := base) T 12
  refine T.d_check_top_block.cal sc_check_top_block (fun F => ⟨[], .nil, F.bindsN fun _ _ _ _ _ _ us hl => match us, hl with | [_], _ => rfl⟩) (by rintro vs H Q E ⟨v, _, rfl, _⟩; rfl) fun f cdv A outer s H vs Q E hr h => ?_
  obtain ⟨v, b, rfl, ok, td, hQ⟩ := h
  refine ⟨_, (pss_cons (ps_if (pt_not (pt_val (pe_c c_is_block_shape hr (by omega) rfl (pa_cons (pv 0) pa_nil))))
      pss_never
      pss_nil)
    (pss_cons (ps_set (i := 1) sc_check_top_block.nd rfl (Or.inl rfl) (pe_c c_first_wrong hr (by omega) rfl (pa_cons (pv 0) pa_nil)))
    (pss_cons (ps_if (pt_cmpR op_notN1 (pv 1) pe_non (nomark _))
      pss_never
      pss_nil)
    (pss_one (ps_if (pt_cmpR op_gt (pe_c c_statement_count hr (by omega) rfl (pa_cons (pv 0) pa_nil)) (pe_gc rfl T.g_MOST_ALL) (nomark _))
      pss_never
      pss_nil))))), ?_⟩
  have hv : ∀ {σ : L2.St} {H1 : Hp}, Same H H1 → σ[0]? = some (some v) → EvD F0 K (tVar 0) σ H1 (blkD b) := fun e h => evd_var trivial h (td.same e)
  have skip : ∀ {t : TT} {σ : L2.St} {H1 : Hp} {c : Bool} {nx : L2.St → Hp → Prop} {D : Ends}, EvB F0 t σ H1 c → c = false → (∀ H2, Same H1 H2 → D.nx σ H2) → tIfS t tNever tNext D σ H1 := by
    intro t σ H1 c nx D h hc k
    exact h H1 (.refl trivial) _ fun v H2 e2 p => by
      rw [show v = false from p.trans hc]
      exact k H2 e2.same
  refine skip (nx := fun _ _ => True) (et_not (et_B (evv_blk (hv (fun _ _ h => h) rfl) (by rw [bd_len]; exact ok.len)))) rfl fun H1 e1 => ?_
  have hfw : EvV F0 (tCall (spFW K 12) [.ref e, .int 1, .bl false] C8.E0 (tCons (tVar 0) tNil)) (L2.start ["value", "wrong"] [v]) H1 .non := ev_call (ea_cons (hv e1 rfl) ea_nil) fun vs H2 e2 p Q q => by
    match vs, p with
    | [x], ⟨⟨d0, e0, p0⟩, _⟩ =>
      subst e0
      exact ⟨x, b, false, 1, .ref e, [], rfl, ok.all, by have := ok.ht; omega, ⟨by decide, by have := ok.ht; omega⟩, p0, ⟨he.td, by decide⟩, fun H' e => q _ _ (.of e2.good e) rfl⟩
  refine hfw H1 (.refl trivial) _ fun x H2 e2 px => ?_
  rw [show x = V.non from px]
  have e2 := e1.trans e2.same
  show tIfS (tTest (tOp rNotN (tVar 1) (tC .non))) tNever tNext _ ((L2.start ["value", "wrong"] [v]).set 1 (some .non)) H2
  refine skip (nx := fun _ _ => True) (c := false) (fun H3 e3 Q q => ⟨.non, rfl, rfl, false, rfl, q _ _ (.refl trivial) rfl⟩) rfl fun H3 e3 => ?_
  have e3 := e2.trans e3
  show tIfS (tTest (tOp (rI0 fun i j => .bl (decide (j < i))) (tCall (spCnt K 12) [] C8.E0 (tCons (tVar 0) tNil)) (tC (.int 6000)))) tNever tNext { nx := fun _ H' => Q .non H', rt := Q } ((L2.start ["value", "wrong"] [v]).set 1 (some .non)) H3
  refine skip (nx := fun _ _ => True) (et_test (evv_I0 (evv_cnt (n := 12) (b := b) (hv e3 rfl) ok.all (by have := ok.ht; omega)) (evv_c trivial))) (decide_eq_false ?_) fun H4 e4 => hQ _ (e3.trans e4)
  have := ok.cnt
  omega
end
end Oh
set_option maxHeartbeats 4000000
namespace Oh
open PySem PySem.Spec PyProof.Rows L2
open C8 (Cal Met Mak pe_c pe_mk pe_mt pe_mt0 pe_gc InsC call_isC tCut pss_cut fnBody fnArgs fnScope)
theorem hu64 {k : Nat} {A : Around} (h : Room k A) : A.units + 64 < cLine := h.units
theorem hu1 {k : Nat} {A : Around} (h : Room k A) : A.units + 1 < cLine := by have := h.units; omega
theorem hu0 {k : Nat} {A : Around} (h : Room k A) : A.units < cLine := by have := h.units; omega
/-! ### all statements with their paths -/
mutual
def T.lst (path : List Int) : T → List (List Int × T)
  | .mk h ks => (path, .mk h ks) :: bbLst path 0 ks
def bbLst (path : List Int) (i : Nat) : List (List T) → List (List Int × T)
  | [] => []
  | b :: bs => bLst (path ++ [(i : Int)]) 0 b ++ bbLst path (i + 1) bs
def bLst (above : List Int) (i : Nat) : List T → List (List Int × T)
  | [] => []
  | t :: ts => t.lst (above ++ [(i : Int)]) ++ bLst above (i + 1) ts
end
theorem bLst_snoc (above : List Int) : ∀ (ts : List T) (i : Nat) (t : T), bLst above i (ts ++ [t]) = bLst above i ts ++ t.lst (above ++ [((i + ts.length : Nat) : Int)])
  | [], i, t => by simp [bLst]
  | u :: us, i, t => by
    rw [List.cons_append, bLst, bLst, bLst_snoc above us (i + 1) t, List.append_assoc, List.length_cons]
    rw [show i + 1 + us.length = i + (us.length + 1) by omega]
theorem bbLst_snoc (path : List Int) : ∀ (bs : List (List T)) (i : Nat) (b : List T), bbLst path i (bs ++ [b]) = bbLst path i bs ++ bLst (path ++ [((i + bs.length : Nat) : Int)]) 0 b
  | [], i, b => by simp [bbLst]
  | u :: us, i, b => by
    rw [List.cons_append, bbLst, bbLst, bbLst_snoc path us (i + 1) b, List.append_assoc, List.length_cons]
    rw [show i + 1 + us.length = i + (us.length + 1) by omega]
theorem bLst_take {above : List Int} {b : List T} {i : Nat} {t : T} (h : b[i]? = some t) : bLst above 0 (b.take (i + 1)) = bLst above 0 (b.take i) ++ t.lst (above ++ [(i : Int)]) := by
  have hi := (List.getElem?_eq_some_iff.mp h).1
  rw [List.take_add_one, h]
  have := bLst_snoc above (b.take i) 0 t
  rw [List.length_take, Nat.min_eq_left (by omega), Nat.zero_add] at this
  exact this
theorem bbLst_take {path : List Int} {b : List (List T)} {i : Nat} {t : List T} (h : b[i]? = some t) : bbLst path 0 (b.take (i + 1)) = bbLst path 0 (b.take i) ++ bLst (path ++ [(i : Int)]) 0 t := by
  have hi := (List.getElem?_eq_some_iff.mp h).1
  rw [List.take_add_one, h]
  have := bbLst_snoc path (b.take i) 0 t
  rw [List.length_take, Nat.min_eq_left (by omega), Nat.zero_add] at this
  exact this
mutual
theorem lst_len (path : List Int) : ∀ t : T, (t.lst path).length = t.cnt
  | .mk h ks => by simp only [T.lst, T.cnt, List.length_cons, bbLst_len path 0 ks]
theorem bbLst_len (path : List Int) (i : Nat) : ∀ ks : List (List T), (bbLst path i ks).length = bbCnt ks
  | [] => rfl
  | b :: bs => by simp only [bbLst, bbCnt, List.length_append, bLst_len _ 0 b, bbLst_len path (i + 1) bs]
theorem bLst_len (above : List Int) (i : Nat) : ∀ ts : List T, (bLst above i ts).length = bCnt ts
  | [] => rfl
  | t :: ts => by simp only [bLst, bCnt, List.length_append, lst_len _ t, bLst_len above (i + 1) ts]
end
theorem cnt_take : ∀ (b : List T) (i : Nat), bCnt (b.take i) ≤ bCnt b
  | [], i => by simp [bCnt]
  | t :: ts, 0 => Nat.zero_le _
  | t :: ts, i + 1 => by have := cnt_take ts i; simp only [List.take_succ_cons, bCnt]; omega
theorem bcnt_take : ∀ (b : List (List T)) (i : Nat), bbCnt (b.take i) ≤ bbCnt b
  | [], i => by simp [bbCnt]
  | t :: ts, 0 => Nat.zero_le _
  | t :: ts, i + 1 => by have := bcnt_take ts i; simp only [List.take_succ_cons, bbCnt]; omega
theorem cnt_mem : ∀ {b : List T} {t : T}, t ∈ b → t.cnt ≤ bCnt b
  | u :: us, t, h => by
    simp only [bCnt]
    rcases List.mem_cons.mp h with rfl | h
    · omega
    · have := cnt_mem h; omega
theorem bcnt_mem : ∀ {b : List (List T)} {t : List T}, t ∈ b → bCnt t ≤ bbCnt b
  | u :: us, t, h => by
    simp only [bbCnt]
    rcases List.mem_cons.mp h with rfl | h
    · omega
    · have := bcnt_mem h; omega
theorem paired_append {α β : Type} {R : α → β → Prop} : ∀ {a c : List α} {b d : List β}, Paired R a b → Paired R c d → Paired R (a ++ c) (b ++ d)
  | _, _, _, _, .nil, h => h
  | _, _, _, _, .cons x y, h => .cons x (paired_append y h)
section
variable {P : Program} {w : World} {K : PySem.W.Frag} {mg : Str → Option Value} {base : Heap} {F : Fm} {te tb ta : TE} {σ : L2.St} {H H' : Hp} {E : XK} {VT : VP F} {t : TA} {ds es : List PyData}
/-- a path: a tuple of ints, made by the run -/
def VP.pth (ns : List Int) : VP F := ⟨fun v H => ∃ b, v = .ref b ∧ H b = some (.tup (ns.map V.int)), fun _ _ _ g e ⟨b, h1, h2⟩ => ⟨b, h1, e.1 _ _ h2 fun z => (F.notup _ _ g z _).1 h2⟩⟩
theorem ev_pth {ns : List Int} {m : Int} (ha : EvD F K ta σ H (.tuple (ns.map .int))) (hb : EvV F tb σ H (.int m)) (hl : ns.length ≤ 1000) : Ev F (tOp (rCatA K) ta (tTup (tCons tb tNil))) σ H (.pth (ns ++ [m])) := fun H1 e Q q =>
  ha H1 e _ fun x H2 e2 ⟨d0, e0, p0⟩ => hb H2 (e.trans e2) _ fun y H3 e3 py => by
    subst e0
    rw [show y = V.int m from py]
    refine ⟨(show 1 ≤ sizeLine by decide), fun p hp => ?_⟩
    have en : F.L H3 (upd H3 p (.tup [.int m])) := .new e3.good hp
    obtain ⟨a, xs, rfl, hs, hx⟩ := (p0.tl ((e3.trans en).tl e2.good)).tupE
    have hxs := tda_ints hx
    subst hxs
    refine ⟨a, p, _, _, rfl, rfl, hs, .of upd_same, by rw [List.length_map, sizeLine_eq]; simp only [List.length_singleton]; omega, fun hn => ?_, fun _ hn => (List.cons_ne_nil _ _ hn).elim, fun _ _ r hr => ?_⟩
    · have : ns = [] := List.map_eq_nil_iff.mp hn
      subst this
      exact q _ _ ((e2.trans e3).trans en) ⟨p, rfl, upd_same⟩
    · have en2 : F.L (upd H3 p (.tup [.int m])) (upd (upd H3 p (.tup [.int m])) r (.tup (ns.map V.int ++ [.int m]))) := .new en.good hr
      exact q _ _ (((e2.trans e3).trans en).trans en2) ⟨r, rfl, by rw [upd_same]; simp⟩
theorem pth_td {ns : List Int} {v : V} (h : (VP.pth (F := F) ns).p v H) : Td K H v (.tuple (ns.map .int)) := by
  obtain ⟨b, rfl, hb⟩ := h
  have : ∀ l : List Int, TdA K H (l.map V.int) (l.map .int) := by
    intro l
    induction l with
    | nil => exact .nil
    | cons i l ih => exact .cons (.int i) ih
  exact .tup (.of hb) (this ns)
/-- (path, statement) -/
def RowOk (K : PySem.W.Frag) (H : Hp) (x : V) (p : List Int × T) : Prop := ∃ c pb sv, x = .ref c ∧ H c = some (.tup [.ref pb, sv]) ∧ H pb = some (.tup (p.1.map V.int)) ∧ Td K H sv p.2.d
theorem RowOk.up {x : V} {p : List Int × T} (h : RowOk K H x p) (k : ∀ a xs, H a = some (.tup xs) → H' a = some (.tup xs)) (e : TL H H') : RowOk K H' x p := by
  obtain ⟨c, pb, sv, h1, h2, h3, h4⟩ := h
  exact ⟨c, pb, sv, h1, k _ _ h2, k _ _ h3, h4.tl e⟩
theorem RowOk.same {x : V} {p : List Int × T} (h : RowOk K H x p) (e : Same H H') : RowOk K H' x p := h.up (fun _ _ => e _ _) (Same.tl e)
theorem RowOk.lst {x : V} {p : List Int × T} {l : Addr} {xs : List V} {o : HO} (h : RowOk K H x p) (hl : H l = some (.lst xs)) : RowOk K (upd H l o) x p := h.up (fun a ys z => by
  rw [upd_ne]
  · exact z
  · rintro rfl
    rw [hl] at z
    cases z) (tl_upd hl)
def spListed (K : PySem.W.Frag) (n : Nat) : Sp := fun vs H Q _ => ∃ v b av, ∃ ns : List Int, vs = [v, av] ∧ (∀ t ∈ b, ∃ lp, T.Ok lp t) ∧ (bHt b + 1 ≤ n ∧ bCnt b ≤ 6000) ∧ Td K H v (blkD b) ∧ (Td K H av (.tuple (ns.map .int)) ∧ ns.length + 2 * n ≤ 100) ∧
  ∀ p xs H', H p = none → Same H H' → H' p = some (.lst xs) → Paired (RowOk K H') xs (bLst ns 0 b) → Q (.ref p) H'
theorem lt_sl {n : Nat} (h : n ≤ 100000) : n < sizeLine := Nat.lt_of_le_of_lt h (by decide)
theorem le_sl {n : Nat} (h : n ≤ 100000) : n ≤ sizeLine := Nat.le_trans h (by decide)
theorem sc_listed : FnScope ["block", "ahead", "rows", "index", "statement", "path", "number", "part"] ["block", "ahead"] (fnScope s_listed) := ⟨rfl, rfl, rfl, by decide +kernel, rfl, by decide +kernel, by decide +kernel⟩
theorem listed_step (T : Tx w K mg) (m n : Nat) (hm : 1 ≤ m) (c_listed : Cal P w K mg base m "listed" (spListed K n) []) {e : Addr} (D : Has K mg "listed" s_listed [.ref e]) :
    Cal P w K mg base (m + 1) "listed" (spListed K (n + 1)) [] ∧ Cal P w K mg base (m + 1) "listed" (spListed K (n + 1)) [.ref e] := by
  have c_blocks_of := c_blocks_of (P := P) (base := base) T
  have body : ∀ (f : Addr) (cdv : Value) (A : Around) (outer : List Env) (s : Shared) (H : Hp) (vs : List V) (Q : VK) (E : XK), Room m (A.deeper (envOfC "listed" (fnScope s_listed) s.heap.objs.size f cdv)) → spListed K (n + 1) vs H Q E →
      ∃ t, PSs (cxOf C8.CX0 P w K mg base ["block", "ahead", "rows", "index", "statement", "path", "number", "part"] "listed" (fnScope s_listed) f cdv A outer s H E).nox (fnBody s_listed) t ∧ t { nx := fun _ H' => Q .non H', rt := Q } (L2.start ["block", "ahead", "rows", "index", "statement", "path", "number", "part"] vs) H := by
    intro f cdv A outer s H vs Q E hr h
    obtain ⟨v, b, av, ns, rfl, ok, ⟨hn, hcnt⟩, td, ⟨ta, hns⟩, hQ⟩ := h
    refine ⟨_, (pss_cons (ps_set (i := 2) sc_listed.nd rfl (Or.inl rfl) (pe_lst pa_nil))
    (pss_cons (ps_for PassesOwn.never rfl (pi_enumT rfl T.z_enumerate (pa_cons (pv 0) pa_nil)) (pg_tup rfl (pgs_cons (pg_name (i := 3) sc_listed.nd rfl (Or.inl rfl)) (pgs_cons (pg_name (i := 4) sc_listed.nd rfl (Or.inl rfl)) pgs_nil)))
      (pss_cons (ps_set (i := 5) sc_listed.nd rfl (Or.inl rfl) (pe_op (r := rCatA K) op_catA (pv 1) (pe_tup (pa_cons (pv 3) pa_nil))))
      (pss_cons (ps_expr (pe_bm PySem.F.plainAttrs_list PySem.F.slot_list_append PySem.F.type_list_append mt_append (pv 2) (pa_cons (pe_tup (pa_cons (pv 5) (pa_cons (pv 4) pa_nil))) pa_nil)))
      (pss_one (ps_for PassesOwn.never rfl (pi_enum rfl T.z_enumerate (pa_cons (pe_c c_blocks_of hr (by omega) rfl (pa_cons (pv 4) pa_nil)) pa_nil)) (pg_tup rfl (pgs_cons (pg_name (i := 6) sc_listed.nd rfl (Or.inl rfl)) (pgs_cons (pg_name (i := 7) sc_listed.nd rfl (Or.inl rfl)) pgs_nil)))
        (pss_one (ps_expr (pe_bm PySem.F.plainAttrs_list PySem.F.slot_list_extend PySem.F.type_list_extend mt_extend (pv 2) (pa_cons (pe_c c_listed hr (by omega) rfl (pa_cons (pv 7) (pa_cons (pe_op (r := rCatA K) op_catA (pv 5) (pe_tup (pa_cons (pv 6) pa_nil))) pa_nil))) pa_nil)))))))))
    (pss_one (ps_ret (pv 2))))), ?_⟩
    obtain ⟨a, xs, rfl, hs, hx⟩ := td.tupE
    refine ⟨by decide, fun l hl => ?_⟩
    refine ⟨.ref a, rfl, a, xs, rfl, Same.sqt (same_new hl) hs, for_it (walk_enumT (K := K) (a := a) (xs := xs)) (fun i σ H2 => Same H H2 ∧ (σ.length = 8 ∧ σ[1]? = some (some av) ∧ σ[2]? = some (some (.ref l))) ∧ ∃ ys, H2 l = some (.lst ys) ∧ Paired (RowOk K H2) ys (bLst ns 0 (b.take i)))
      ⟨same_new hl, ⟨rfl, rfl, rfl⟩, [], upd_same, .nil⟩ (fun i σ H2 _ z => Same.sqt z.1 hs) ?_ ?_⟩
    · rintro i x σ H2 H3 hi ⟨e2, ⟨hσ, s1, s2⟩, ys, hl2, hys⟩ ⟨Tp, y, z, rfl, hT, rfl, hy, hz⟩
      cases hy
      obtain ⟨d, hd, tz⟩ := hx.getV hz
      rw [bd_get] at hd
      cases hb : b[i]? with
      | none => rw [hb] at hd; cases hd
      | some t =>
        rw [hb] at hd
        obtain rfl : t.d = d := Option.some.inj hd
        have hm' := List.mem_of_getElem? hb
        have hht := ht_mem hm'
        have htc := cnt_mem hm'
        obtain ⟨lp, okt⟩ := ok _ hm'
        obtain ⟨th, tk⟩ := t
        obtain ⟨oh, o12, oall, olv, orep⟩ := okt.inv
        have e3 := e2.trans (same_new (o := .tup [.int (i : Nat), z]) hT)
        have e23 := same_new (o := .tup [.int (i : Nat), z]) hT
        refine pair_into upd_same ?_
        refine ev_pth (F := F0) (K := K) (ns := ns) (m := (i : Nat)) (evd_var (i := 1) trivial (by simpa using s1) (ta.same e3)) (evv_var (i := 3) trivial (by simp [hσ])) (by omega) _ (.refl trivial) _ fun pv H4 e4 hpv => ?_
        have e24 := e23.trans e4.same
        have e4 := e3.trans e4.same
        obtain ⟨pb, rfl, hpb⟩ := hpv
        have hl4 := e24 _ _ hl2
        have tz4 := tz.same e4
        refine ⟨.ref l, by simpa using s2, .inl ⟨rfl, _, .of hl4⟩, .ref pb, by simp [hσ], z, by simp [hσ], (show 2 ≤ sizeLine by decide), fun c hc => ?_⟩
        have e5 := same_new (o := .tup [.ref pb, z]) hc
        have hl5 := e5 _ _ hl4
        have hyl : ys.length ≤ 6000 := by
          have := cnt_take b i
          rw [Paired.length hys, bLst_len]
          omega
        refine ⟨l, ys, .ref c, rfl, rfl, hl5, lt_sl (by omega), ?_⟩
        have hcl : c ≠ l := fun z => by rw [z, hl4] at hc; cases hc
        have hbl : pb ≠ l := fun z => by rw [z, hl4] at hpb; cases hpb
        have hlH : H l = none := hl
        have e6 : Same H (upd (upd H4 c (.tup [.ref pb, z])) l (.lst (ys ++ [.ref c]))) := Same.late (e4.trans e5) hlH
        have tz6 := tz.same e6
        have hpb6 : (upd (upd H4 c (.tup [.ref pb, z])) l (.lst (ys ++ [.ref c]))) pb = some (.tup ((ns ++ [(i : Int)]).map V.int)) := by rw [upd_ne hbl]; exact e5 _ _ hpb
        have hrow : RowOk K (upd (upd H4 c (.tup [.ref pb, z])) l (.lst (ys ++ [.ref c]))) (.ref c) (ns ++ [(i : Int)], Oh.T.mk th tk) := ⟨c, pb, z, rfl, by rw [upd_ne hcl, upd_same], hpb6, tz6⟩
        have hys6 : Paired (RowOk K (upd (upd H4 c (.tup [.ref pb, z])) l (.lst (ys ++ [.ref c])))) (ys ++ [.ref c]) (bLst ns 0 (b.take i) ++ [(ns ++ [(i : Int)], Oh.T.mk th tk)]) :=
          paired_append (Paired.mapP hys fun x p r => ((r.same e24).same e5).lst hl5) (.cons hrow .nil)
        have hl6 : (upd (upd H4 c (.tup [.ref pb, z])) l (.lst (ys ++ [.ref c]))) l = some (.lst (ys ++ [.ref c])) := upd_same
        generalize (upd (upd H4 c (.tup [.ref pb, z])) l (.lst (ys ++ [.ref c]))) = H6 at e6 tz6 hpb6 hys6 hl6 ⊢
        refine ev_blocks (F := F0) (E := C8.E0) (evd_var (i := 4) trivial (by simp [hσ]) tz6) oh H6 (.refl trivial) _ fun bv H7 e7 ⟨q, zs, ds, ev, hq6, _, hq, hzs, hds⟩ => ?_
        subst ev
        subst hds
        have e7 := e7.same
        have hql : q ≠ l := fun z => by rw [z, hl6] at hq6; cases hq6
        refine ⟨q, zs, rfl, .of hq, for_it (walk_enum (K := K) (a := q) (xs := zs)) (fun k σ H8 => Same H H8 ∧ (σ.length = 8 ∧ σ[1]? = some (some av) ∧ σ[2]? = some (some (.ref l)) ∧ σ[5]? = some (some (.ref pb))) ∧ H8 pb = some (.tup ((ns ++ [(i : Int)]).map V.int)) ∧ H8 q = some (.lst zs) ∧ TdA K H8 zs (bbd tk) ∧
            ∃ ys, H8 l = some (.lst ys) ∧ Paired (RowOk K H8) ys (bLst ns 0 (b.take i) ++ ((ns ++ [(i : Int)], Oh.T.mk th tk) :: bbLst (ns ++ [(i : Int)]) 0 (tk.take k))))
          ⟨e6.trans e7, ⟨by simp [hσ], by simpa using s1, by simpa using s2, by simp [hσ]⟩, e7 _ _ hpb6, hq, hzs, _, e7 _ _ hl6, by simpa [bbLst] using Paired.mapP hys6 fun x p r => r.same e7⟩ (fun k σ H8 _ z => .of z.2.2.2.1) ?_ ?_⟩
        · rintro k x2 σ2 H8 H9 hk ⟨e8, ⟨hσ2, t1, t2, t5⟩, hpb8, hq8, hzs8, us, hl8, hus⟩ ⟨Tp2, y2, z2, rfl, hT2, rfl, hy2, hz2⟩
          cases hy2
          obtain ⟨d2, hd2, tz2⟩ := hzs8.getV hz2
          rw [bbd_get] at hd2
          cases hbk : tk[k]? with
          | none => rw [hbk] at hd2; cases hd2
          | some c2 =>
            rw [hbk] at hd2
            obtain rfl : blkD c2 = d2 := Option.some.inj hd2
            have hmc := List.mem_of_getElem? hbk
            have hc2 : bHt c2 + 1 ≤ (Oh.T.mk th tk).ht := bht_mem hmc
            have hcc := bcnt_mem hmc
            have hc3 : bbCnt tk + 1 ≤ bCnt b := htc
            have e89 := same_new (o := .tup [.int (k : Nat), z2]) hT2
            refine pair_into upd_same ?_
            refine ⟨.ref l, by simpa using t2, .inl ⟨rfl, _, .of (e89 _ _ hl8)⟩, z2, by simp [hσ2], ?_⟩
            refine ev_pth (F := F0) (K := K) (ns := ns ++ [(i : Int)]) (m := (k : Nat)) (evd_var (i := 5) trivial (by simpa using t5) (pth_td (F := F0) ⟨pb, rfl, e89 _ _ hpb8⟩)) (evv_var (i := 6) trivial (by simp [hσ2])) (by simp; omega) _ (.refl trivial) _ fun pv2 H10 e10 hp2 => ?_
            have e80 := e89.trans e10.same
            refine ⟨z2, c2, pv2, ns ++ [(i : Int)] ++ [(k : Int)], rfl, fun t ht => ⟨_, oall c2 hmc t ht⟩, ⟨by omega, by omega⟩, tz2.same e80, ⟨pth_td hp2, by simp; omega⟩, fun p2 ws H11 hp2' e11 hl11 hws => ?_⟩
            have e81 := e80.trans e11
            have hl12 := e81 _ _ hl8
            have hul : us.length ≤ 12000 := by
              have g1 := cnt_take b i
              have g2 := bcnt_take tk k
              rw [Paired.length hus, List.length_append, List.length_cons, bLst_len, bbLst_len]
              omega
            have hwl : ws.length ≤ 6000 := by rw [Paired.length hws, bLst_len]; omega
            refine ⟨l, p2, us, ws, rfl, rfl, hl12, hl11, le_sl (by omega), ?_⟩
            have hq12 := e81 _ _ hq8
            have hpb12 := e81 _ _ hpb8
            refine ⟨Same.late (e8.trans e81) hlH, ⟨by simp [hσ2], by simpa using t1, by simpa using t2, by simpa using t5⟩, by rw [upd_ne hbl]; exact hpb12, by rw [upd_ne hql]; exact hq12, (hzs8.same e81).tl (tl_upd hl12), us ++ ws, upd_same, ?_⟩
            have g : bLst ns 0 (b.take i) ++ ((ns ++ [(i : Int)], Oh.T.mk th tk) :: bbLst (ns ++ [(i : Int)]) 0 (tk.take (k + 1))) = (bLst ns 0 (b.take i) ++ ((ns ++ [(i : Int)], Oh.T.mk th tk) :: bbLst (ns ++ [(i : Int)]) 0 (tk.take k))) ++ bLst (ns ++ [(i : Int)] ++ [(k : Int)]) 0 c2 := by
              rw [bbLst_take hbk]
              simp
            rw [g]
            exact paired_append (Paired.mapP hus fun x p r => (r.same e81).lst hl12) (Paired.mapP hws fun x p r => r.lst hl12)
        · rintro σ2 H8 ⟨e8, ⟨hσ2, t1, t2, _⟩, _, _, _, us, hl8, hus⟩
          refine ⟨e8, ⟨hσ2, t1, t2⟩, us, hl8, ?_⟩
          rw [bLst_take hb]
          have hzl : zs.length = tk.length := by rw [hzs.len, bbd_len]
          rw [hzl, List.take_length] at hus
          exact hus
    · rintro σ H2 ⟨e2, ⟨hσ, s1, s2⟩, ys, hl2, hys⟩
      have hxl : xs.length = b.length := by rw [hx.len, bd_len]
      rw [hxl, List.take_length] at hys
      exact ⟨.ref l, s2, hQ l ys H2 hl e2 hl2 hys⟩
  refine ⟨D.cal sc_listed (fun F => F.binds1 2 1 (by simp) rfl fun _ _ _ _ _ _ _ us its hu hi => match us, hu, its, hi with | [_, _], _, [_], _ => ⟨_, rfl, rfl⟩) ?_ body, D.cal sc_listed (fun F => F.binds1 1 0 (by simp) rfl fun _ _ _ _ _ _ _ us its hu hi => match us, hu, its, hi with | [_], _, [_], _ => ⟨_, rfl, rfl⟩) ?_ body⟩ <;> (rintro vs H Q E ⟨v, _, _, _, rfl, _⟩; rfl)
theorem c_listed (T : Tx w K mg) {e : Addr} (D : Has K mg "listed" s_listed [.ref e]) : ∀ n : Nat, Cal P w K mg base (n + 2) "listed" (spListed K (n + 1)) [] ∧ Cal P w K mg base (n + 2) "listed" (spListed K (n + 1)) [.ref e]
  | 0 => by
    have no : ∀ vs H Q E, ¬ spListed K 0 vs H Q E := fun vs H Q E ⟨v, b, _, _, _, _, h, _⟩ => by omega
    have h0 : Cal P w K mg base (0 + 1) "listed" (spListed K 0) [] := D.cal sc_listed (fun F => F.binds1 2 1 (by simp) rfl fun _ _ _ _ _ _ _ us its hu hi => match us, hu, its, hi with | [_, _], _, [_], _ => ⟨_, rfl, rfl⟩) (fun vs H Q E h => (no vs H Q E h).elim) fun _ _ _ _ _ _ _ _ _ _ h => (no _ _ _ _ h).elim
    exact listed_step T 1 0 (by omega) h0 D
  | n + 1 => listed_step T _ _ (by omega) (c_listed T D n).1 D
end
end Oh
set_option maxHeartbeats 4000000
namespace Oh
open PySem PySem.Spec PyProof.Rows L2
open C8 (Cal Met Mak pe_c pe_mk pe_mt pe_mt0 pe_gc InsC call_isC tCut pss_cut fnBody fnArgs fnScope)
/-! ### the paths are apart -/
mutual
theorem lst_pre (path : List Int) : ∀ (t : T) (p : List Int × T), p ∈ t.lst path → path <+: p.1
  | .mk h ks, p, hp => by
    simp only [T.lst] at hp
    rcases List.mem_cons.mp hp with rfl | hp
    · exact List.prefix_rfl
    · obtain ⟨j, _, q⟩ := bbLst_pre path 0 ks p hp
      exact List.IsPrefix.trans (List.prefix_append _ _) q
theorem bbLst_pre (path : List Int) (i : Nat) : ∀ (ks : List (List T)) (p : List Int × T), p ∈ bbLst path i ks → ∃ j : Nat, i ≤ j ∧ path ++ [(j : Int)] <+: p.1
  | [], p, hp => by simp [bbLst] at hp
  | b :: bs, p, hp => by
    simp only [bbLst] at hp
    rcases List.mem_append.mp hp with hp | hp
    · obtain ⟨j, _, q⟩ := bLst_pre _ 0 b p hp
      exact ⟨i, Nat.le_refl _, List.IsPrefix.trans (List.prefix_append _ _) q⟩
    · obtain ⟨j, hj, q⟩ := bbLst_pre path (i + 1) bs p hp
      exact ⟨j, by omega, q⟩
theorem bLst_pre (above : List Int) (i : Nat) : ∀ (ts : List T) (p : List Int × T), p ∈ bLst above i ts → ∃ j : Nat, i ≤ j ∧ above ++ [(j : Int)] <+: p.1
  | [], p, hp => by simp [bLst] at hp
  | t :: ts, p, hp => by
    simp only [bLst] at hp
    rcases List.mem_append.mp hp with hp | hp
    · exact ⟨i, Nat.le_refl _, lst_pre _ t p hp⟩
    · obtain ⟨j, hj, q⟩ := bLst_pre above (i + 1) ts p hp
      exact ⟨j, by omega, q⟩
end
theorem pre_inj {a p : List Int} {i j : Int} (h1 : a ++ [i] <+: p) (h2 : a ++ [j] <+: p) : i = j := by
  obtain ⟨r, rfl⟩ := h1
  obtain ⟨q, e⟩ := h2
  rw [List.append_assoc, List.append_assoc] at e
  have := List.append_cancel_left e
  simp at this
  exact this.1.symm
theorem nodup_app {α β : Type} {f : α → β} {l m : List α} (h1 : (l.map f).Nodup) (h2 : (m.map f).Nodup) (h3 : ∀ x ∈ l, ∀ y ∈ m, f x ≠ f y) : ((l ++ m).map f).Nodup := by
  rw [List.map_append]
  refine List.nodup_append.mpr ⟨h1, h2, fun a ha b hb => ?_⟩
  obtain ⟨x, hx, rfl⟩ := List.mem_map.mp ha
  obtain ⟨y, hy, rfl⟩ := List.mem_map.mp hb
  exact h3 x hx y hy
mutual
theorem lst_nodup (path : List Int) : ∀ t : T, ((t.lst path).map (·.1)).Nodup
  | .mk h ks => by
    simp only [T.lst, List.map_cons]
    refine List.nodup_cons.mpr ⟨fun hm => ?_, bbLst_nodup path 0 ks⟩
    obtain ⟨p, hp, e⟩ := List.mem_map.mp hm
    obtain ⟨j, _, q⟩ := bbLst_pre path 0 ks p hp
    have := q.length_le
    rw [e, List.length_append] at this
    simp only [List.length_singleton] at this
    omega
theorem bbLst_nodup (path : List Int) (i : Nat) : ∀ ks : List (List T), ((bbLst path i ks).map (·.1)).Nodup
  | [] => List.nodup_nil
  | b :: bs => by
    simp only [bbLst]
    refine nodup_app (bLst_nodup _ 0 b) (bbLst_nodup path (i + 1) bs) fun x hx y hy e => ?_
    obtain ⟨j, _, q⟩ := bLst_pre _ 0 b x hx
    obtain ⟨k, hk, q2⟩ := bbLst_pre path (i + 1) bs y hy
    have q1 : path ++ [(i : Int)] <+: y.1 := e ▸ List.IsPrefix.trans (List.prefix_append _ _) q
    have := pre_inj q1 q2
    omega
theorem bLst_nodup (above : List Int) (i : Nat) : ∀ ts : List T, ((bLst above i ts).map (·.1)).Nodup
  | [] => List.nodup_nil
  | t :: ts => by
    simp only [bLst]
    refine nodup_app (lst_nodup _ t) (bLst_nodup above (i + 1) ts) fun x hx y hy e => ?_
    have q1 : above ++ [(i : Int)] <+: y.1 := e ▸ lst_pre _ t x hx
    obtain ⟨k, hk, q2⟩ := bLst_pre above (i + 1) ts y hy
    have := pre_inj q1 q2
    omega
end
mutual
theorem lst_ok {path : List Int} (h0 : path ≠ [] ∧ ∀ n ∈ path, 0 ≤ n) : ∀ (t : T) (p : List Int × T), p ∈ t.lst path → p.1 ≠ [] ∧ ∀ n ∈ p.1, 0 ≤ n
  | .mk h ks, p, hp => by
    simp only [T.lst] at hp
    rcases List.mem_cons.mp hp with rfl | hp
    · exact h0
    · exact bbLst_ok (fun n hn => h0.2 n hn) 0 ks p hp
theorem bbLst_ok {path : List Int} (h0 : ∀ n ∈ path, 0 ≤ n) (i : Nat) : ∀ (ks : List (List T)) (p : List Int × T), p ∈ bbLst path i ks → p.1 ≠ [] ∧ ∀ n ∈ p.1, 0 ≤ n
  | [], p, hp => by simp [bbLst] at hp
  | b :: bs, p, hp => by
    simp only [bbLst] at hp
    rcases List.mem_append.mp hp with hp | hp
    · exact bLst_ok (fun n hn => by rcases List.mem_append.mp hn with z | z; exact h0 n z; (obtain rfl : n = (i : Int) := by simpa using z); omega) 0 b p hp
    · exact bbLst_ok h0 (i + 1) bs p hp
theorem bLst_ok {above : List Int} (h0 : ∀ n ∈ above, 0 ≤ n) (i : Nat) : ∀ (ts : List T) (p : List Int × T), p ∈ bLst above i ts → p.1 ≠ [] ∧ ∀ n ∈ p.1, 0 ≤ n
  | [], p, hp => by simp [bLst] at hp
  | t :: ts, p, hp => by
    simp only [bLst] at hp
    rcases List.mem_append.mp hp with hp | hp
    · exact lst_ok ⟨by simp, fun n hn => by rcases List.mem_append.mp hn with z | z; exact h0 n z; (obtain rfl : n = (i : Int) := by simpa using z); omega⟩ t p hp
    · exact bLst_ok h0 (i + 1) ts p hp
end
/-! ### the table -/
def pK (p : List Int) : List L2.Key := p.map Sum.inl
theorem pK_kV (p : List Int) : (pK p).map kV = p.map V.int := by unfold pK; rw [List.map_map]; rfl
theorem pK_inj {p q : List Int} (h : pK p = pK q) : p = q := by
  unfold pK at h
  have := congrArg (List.map fun k : L2.Key => match k with | .inl i => i | .inr _ => 0) h
  rw [List.map_map, List.map_map] at this
  have id' : ∀ l : List Int, List.map ((fun k : L2.Key => match k with | .inl i => i | .inr _ => (0 : Int)) ∘ Sum.inl) l = l := fun l => by
    induction l with
    | nil => rfl
    | cons a l ih => rw [List.map_cons, ih]; rfl
  rwa [id', id'] at this
def TabOk (K : PySem.W.Frag) (H : Hp) (kvs : List (List L2.Key × V)) (rows : List (List Int × T)) : Prop := Paired (fun kv p => kv.1 = pK p.1 ∧ Td K H kv.2 p.2.d) kvs rows
section
variable {P : Program} {w : World} {K : PySem.W.Frag} {mg : Str → Option Value} {base : Heap} {F : Fm} {te tb ta : TE} {σ : L2.St} {H H' : Hp} {E : XK} {VT : VP F} {t : TA} {ds es : List PyData}
theorem TabOk.tl {kvs : List (List L2.Key × V)} {rows : List (List Int × T)} (h : TabOk K H kvs rows) (e : TL H H') : TabOk K H' kvs rows := Paired.mapP h fun _ _ r => ⟨r.1, r.2.tl e⟩
theorem tl_updT {l : Addr} {o o' : HO} (hl : H l = some o) (hn : NoTup (some o)) : TL H (upd H l o') := fun b us r => by
  have nb : b ≠ l := by
    rintro rfl
    rcases r with r | ⟨q, r⟩
    · exact (hn us).1 (hl.symm.trans r)
    · exact (hn us).2 q (hl.symm.trans r)
  rcases r with r | ⟨q, r⟩
  · exact .inl (by rw [upd_ne nb]; exact r)
  · exact .inr ⟨q, by rw [upd_ne nb]; exact r⟩
theorem notup_dT {kvs : List (List L2.Key × V)} : NoTup (some (.dT kvs)) := fun _ => ⟨(fun z => by cases z), fun _ z => by cases z⟩
theorem notup_dK {kvs : List (L2.Key × V)} : NoTup (some (.dK kvs)) := fun _ => ⟨(fun z => by cases z), fun _ z => by cases z⟩
def spTable (K : PySem.W.Frag) : Sp := fun vs H Q _ => ∃ v b, vs = [v] ∧ ((∀ t ∈ b, ∃ lp, T.Ok lp t) ∧ bHt b ≤ 11 ∧ bCnt b ≤ 6000) ∧ Td K H v (blkD b) ∧
  ∀ p kvs H', H p = none → Same H H' → H' p = some (.dT kvs) → TabOk K H' kvs (bLst [] 0 b) → Q (.ref p) H'
theorem sc_statement_table : FnScope ["block", "table", "path", "statement"] ["block"] (fnScope s_statement_table) := ⟨rfl, rfl, rfl, by decide +kernel, rfl, by decide +kernel, by decide +kernel⟩
theorem c_statement_table (T : Tx w K mg) : Cal P w K mg base 14 "statement_table" (spTable K) [] := by
  obtain ⟨e, he, D⟩ := T.d_listed
  have c_listed := (c_listed (P := P) (base := base) T D 11).2
  refine T.d_statement_table.cal sc_statement_table (fun F => ⟨[], .nil, F.bindsN fun _ _ _ _ _ _ us hl => match us, hl with | [_], _ => rfl⟩) (by rintro vs H Q E ⟨v, _, rfl, _⟩; rfl) fun f cdv A outer s H vs Q E hr h => ?_
  obtain ⟨v, b, rfl, ⟨ok, hht, hcnt⟩, td, hQ⟩ := h
  refine ⟨_, (pss_cons (ps_set (i := 1) sc_statement_table.nd rfl (Or.inl rfl) pe_dnewT)
    (pss_cons (ps_for PassesOwn.never rfl (pi_list (pe_c c_listed hr (by omega) rfl (pa_cons (pv 0) pa_nil))) (pg_tup rfl (pgs_cons (pg_name (i := 2) sc_statement_table.nd rfl (Or.inl rfl)) (pgs_cons (pg_name (i := 3) sc_statement_table.nd rfl (Or.inl rfl)) pgs_nil)))
      (pss_one (ps_dput (hu1 hr) (pv 1) (pv 2) (pv 3) rfl)))
    (pss_one (ps_ret (pv 1))))), ?_⟩
  intro d hd
  refine ⟨v, rfl, v, b, .ref e, [], rfl, ok, ⟨by omega, hcnt⟩, td.same (same_new hd), ⟨he.td, by decide⟩, fun l xs H1 hl e1 hl1 hxs => ?_⟩
  have hd1 : H1 d = some (.dT []) := e1 _ _ upd_same
  have hld : l ≠ d := fun z => by rw [z, upd_same] at hl; cases hl
  refine ⟨l, rfl, ⟨xs, .of hl1⟩, for_it (walk_list (K := K) (a := l) (xs := xs)) (fun i σ H2 => (Same H H2 ∧ H2 l = some (.lst xs) ∧ Paired (RowOk K H2) xs (bLst [] 0 b)) ∧ (σ.length = 4 ∧ σ[1]? = some (some (.ref d))) ∧ ∃ kvs, H2 d = some (.dT kvs) ∧ TabOk K H2 kvs ((bLst [] 0 b).take i))
    ⟨⟨(same_new hd).trans e1, hl1, hxs⟩, ⟨rfl, rfl⟩, [], hd1, .nil⟩ (fun i σ H2 _ z => .of z.1.2.1) ?_ ?_⟩
  · rintro i x σ H2 H3 hi ⟨⟨e2, hl2, hx2⟩, ⟨hσ, s1⟩, kvs, hd2, hk2⟩ ⟨rfl, hxi⟩
    have hi2 : i < (bLst [] 0 b).length := by rw [← Paired.length hx2]; exact hi
    obtain ⟨p, hp⟩ : ∃ p, (bLst [] 0 b)[i]? = some p := ⟨_, List.getElem?_eq_getElem hi2⟩
    have hrow : RowOk K H3 x p := by
      have : ∀ {xs : List V} {rows : List (List Int × Oh.T)}, Paired (RowOk K H3) xs rows → ∀ {i : Nat} {x p}, xs[i]? = some x → rows[i]? = some p → RowOk K H3 x p := by
        intro xs rows h
        induction h with
        | nil => intro i x p h; simp at h
        | cons r t ih =>
          intro i x p h1 h2
          cases i with
          | zero => simp at h1 h2; subst h1; subst h2; exact r
          | succ i => exact ih (by simpa using h1) (by simpa using h2)
      exact this hx2 hxi hp
    obtain ⟨c, pb, sv, rfl, hc, hpb, hsv⟩ := hrow
    refine pair_into hc ?_
    have hkl : kvs.length = i := by rw [Paired.length hk2, List.length_take]; omega
    have hfresh : (kvs.any fun kv => decide (kv.1 = pK p.1)) = false := by
      cases q : kvs.any fun kv => decide (kv.1 = pK p.1) with
      | false => rfl
      | true =>
        exfalso
        obtain ⟨kv, hkv, e3⟩ := List.any_eq_true.mp q
        have e3 := of_decide_eq_true e3
        have key : ∀ {kvs : List (List L2.Key × V)} {rows : List (List Int × Oh.T)}, TabOk K H3 kvs rows → ∀ kv ∈ kvs, ∃ r ∈ rows, kv.1 = pK r.1 := by
          intro kvs rows h
          induction h with
          | nil => intro kv h; cases h
          | cons r t ih =>
            intro kv h
            rcases List.mem_cons.mp h with rfl | h
            · exact ⟨_, List.mem_cons_self .., r.1⟩
            · obtain ⟨r', hr', e⟩ := ih kv h
              exact ⟨r', List.mem_cons_of_mem _ hr', e⟩
        obtain ⟨r, hr', e4⟩ := key hk2 kv hkv
        have e5 : r.1 = p.1 := pK_inj (e4.symm.trans e3)
        have nd := bLst_nodup [] 0 b
        have hsplit : (bLst [] 0 b).take i ++ (bLst [] 0 b).drop i = bLst [] 0 b := List.take_append_drop _ _
        rw [← hsplit, List.map_append] at nd
        refine (List.nodup_append.mp nd).2.2 r.1 (List.mem_map_of_mem hr') p.1 (List.mem_map_of_mem ?_) e5
        obtain ⟨hlt, e⟩ := List.getElem?_eq_some_iff.mp hp
        rw [List.drop_eq_getElem_cons hlt, e]
        exact List.mem_cons_self ..
    refine ⟨sv, by simp [hσ], .ref d, by simpa using s1, .ref pb, by simp [hσ], d, _, rfl, .t (k := pK p.1) hd2 (by rw [pK_kV]; exact hpb) (lt_sl (by rw [hkl]; have := bLst_len [] 0 b; omega)), ?_⟩
    have hput : putK kvs (pK p.1) sv = kvs ++ [(pK p.1, sv)] := by unfold putK; rw [hfresh]; rfl
    rw [hput]
    have hcd : ∀ {a : Addr} {o : HO}, H3 a = some o → (∀ k, o ≠ .dT k) → a ≠ d := fun h n z => n kvs (by rw [z, hd2] at h; exact (Option.some.inj h).symm)
    have tlu : TL H3 (upd H3 d (.dT (kvs ++ [(pK p.1, sv)]))) := tl_updT hd2 notup_dT
    refine ⟨⟨Same.late e2 hd, by rw [upd_ne hld]; exact hl2, Paired.mapP hx2 fun x r h => h.up (fun a xs z => by rw [upd_ne (hcd z fun k z => by cases z)]; exact z) tlu⟩, ⟨by simp [hσ], by simpa using s1⟩, _, upd_same, ?_⟩
    rw [List.take_add_one, hp]
    exact paired_append (hk2.tl tlu) (.cons ⟨rfl, hsv.tl tlu⟩ .nil)
  · rintro σ H2 ⟨⟨e2, _, hx2⟩, ⟨hσ, s1⟩, kvs, hd2, hk2⟩
    rw [Paired.length hx2, List.take_length] at hk2
    exact ⟨.ref d, s1, hQ d kvs H2 hd e2 hd2 hk2⟩
theorem putK_keys {kvs : List (L2.Key × V)} {ss : List Str} {x : Str} {v : V} (h : kvs.map (·.1) = ss.map Sum.inr) : ∃ us : List Str, (putK kvs (.inr x) v).map (·.1) = us.map Sum.inr ∧ us.length ≤ ss.length + 1 ∧ (∀ z, z ∈ us ↔ z ∈ ss ∨ z = x) ∧ (ss.Nodup → us.Nodup) := by
  unfold putK
  cases q : kvs.any fun kv => decide (kv.1 = Sum.inr x) with
  | true =>
    rw [if_pos rfl]
    obtain ⟨kv, hkv, e⟩ := List.any_eq_true.mp q
    have e := of_decide_eq_true e
    have hx : x ∈ ss := by
      have : kv.1 ∈ ss.map Sum.inr := h ▸ List.mem_map_of_mem hkv
      obtain ⟨y, hy, e2⟩ := List.mem_map.mp this
      rw [e] at e2
      cases e2
      exact hy
    refine ⟨ss, ?_, by omega, fun z => ⟨.inl, fun z => z.elim id fun z => z ▸ hx⟩, id⟩
    rw [← h, List.map_map]
    refine List.map_congr_left fun kv _ => ?_
    show (if kv.1 = Sum.inr x then (kv.1, v) else kv).1 = kv.1
    split <;> rfl
  | false =>
    rw [if_neg (by simp)]
    refine ⟨ss ++ [x], by simp [h], by simp, fun z => by simp, fun nd => List.nodup_append.mpr ⟨nd, by simp, fun a ha b hb e => ?_⟩⟩
    obtain rfl : b = x := by simpa using hb
    subst e
    have : Sum.inr a ∈ kvs.map (·.1) := by rw [h]; exact List.mem_map_of_mem ha
    obtain ⟨kv, hkv, e2⟩ := List.mem_map.mp this
    have := List.any_eq_false.mp q kv hkv
    exact this (decide_eq_true e2)
def spAsc (K : PySem.W.Frag) : Sp := fun vs H Q _ => ∃ a, ∃ ss : List Str, vs = [.ref a] ∧ H a = some (.lst (ss.map V.str)) ∧ ss.length ≤ 1000000 ∧ ∀ v H', Same H H' → (VP.nstr (F := F0) H fun _ => True).p v H' → Q v H'
theorem sc_ascending : FnScope ["items", "known", "item"] ["items"] (fnScope s_ascending) := ⟨rfl, rfl, rfl, by decide +kernel, rfl, by decide +kernel, by decide +kernel⟩
theorem c_ascending (T : Tx w K mg) : Cal P w K mg base 1 "ascending" (spAsc K) [] := by
  refine T.d_ascending.cal sc_ascending (fun F => ⟨[], .nil, F.bindsN fun _ _ _ _ _ _ us hl => match us, hl with | [_], _ => rfl⟩) (by rintro vs H Q E ⟨v, _, rfl, _⟩; rfl) fun f cdv A outer s H vs Q E hr h => ?_
  obtain ⟨a, ss, rfl, ha, hss, hQ⟩ := h
  refine ⟨_, (pss_cons (ps_set (i := 1) sc_ascending.nd rfl (Or.inl rfl) pe_dnewK)
    (pss_cons (ps_for PassesOwn.never rfl (pi_list (pv 0)) (pg_name (i := 2) sc_ascending.nd rfl (Or.inl rfl))
      (pss_one (ps_dput (hu1 hr) (pv 1) (pv 2) pe_bl rfl)))
    (pss_one (ps_ret (pe_callB cr_sortedSt rfl T.z_sorted (by decide +kernel) (pa_cons (pe_callTy (call_list_dK rfl) rfl T.z_list (by decide +kernel) (pa_cons (pv 1) pa_nil)) pa_nil)))))), ?_⟩
  intro d hd
  have had : a ≠ d := fun z => by rw [z, hd] at ha; cases ha
  refine ⟨.ref a, rfl, a, rfl, ⟨_, .of (same_new hd _ _ ha)⟩, for_it (walk_list (K := K) (a := a) (xs := ss.map V.str)) (fun i σ H2 => (Same H H2 ∧ σ.length = 3 ∧ σ[1]? = some (some (.ref d))) ∧ ∃ kvs us, H2 d = some (.dK kvs) ∧ kvs.map (·.1) = us.map Sum.inr ∧ (us : List Str).length ≤ i)
    ⟨⟨same_new hd, rfl, rfl⟩, [], [], upd_same, rfl, Nat.le_refl _⟩ (fun i σ H2 _ z => .of (z.1.1 _ _ ha)) ?_ ?_⟩
  · rintro i x σ H2 H3 hi ⟨⟨e2, hσ, s1⟩, kvs, us, hd2, hk, hul⟩ ⟨rfl, hxi⟩
    rw [List.getElem?_map] at hxi
    cases hz : ss[i]? with
    | none => rw [hz] at hxi; cases hxi
    | some z =>
      rw [hz] at hxi
      obtain rfl : V.str z = x := Option.some.inj hxi
      rw [List.length_map] at hi
      have hkl : kvs.length = us.length := by have := congrArg List.length hk; rw [List.length_map, List.length_map] at this; exact this
      refine ⟨.ref d, by simpa using s1, .str z, by simp [hσ], d, _, rfl, .k (k := .inr z) hd2 (by rw [hkl, sizeLine_eq]; omega), ?_⟩
      obtain ⟨us', h1, h2, _⟩ := putK_keys (x := z) (v := .bl true) hk
      exact ⟨⟨Same.late e2 hd, by simpa using hσ, by simpa using s1⟩, _, us', upd_same, h1, by omega⟩
  · rintro σ H2 ⟨⟨e2, hσ, s1⟩, kvs, us, hd2, hk, hul⟩
    rw [List.length_map] at hul
    have hkv : (kvs.map fun kv => kV kv.1) = us.map V.str := by
      have : (kvs.map (·.1)).map kV = (us.map Sum.inr).map kV := by rw [hk]
      rw [List.map_map, List.map_map] at this
      exact this
    refine ⟨.ref d, s1, d, kvs, rfl, hd2, fun l hl => ?_⟩
    refine ⟨l, us, rfl, .of (by rw [upd_same, hkv]), fun ys p hp _ hpn => hQ _ _ ((e2.trans (same_new hl)).trans (same_new hpn)) ⟨p, ys, rfl, fresh_back (e2.trans (same_new hl)) hpn, fun z => z, upd_same, trivial⟩⟩
def spBN (K : PySem.W.Frag) : Sp := fun vs H Q _ => ∃ a, ∃ xs, ∃ rows : List (List Int × Oh.T), vs = [.ref a] ∧ H a = some (.lst xs) ∧ Paired (fun v p => Td K H v p.2.d) xs rows ∧ (∀ p ∈ rows, ∃ lp, T.Ok lp p.2) ∧ rows.length ≤ 6000 ∧ ∀ v H', Same H H' → (VP.nstr (F := F0) H fun _ => True).p v H' → Q v H'
theorem paired_get {α β : Type} {R : α → β → Prop} : ∀ {xs : List α} {ys : List β} {i : Nat} {x : α}, Paired R xs ys → xs[i]? = some x → ∃ y, ys[i]? = some y ∧ R x y
  | _, _, i, x, .nil, h => by simp at h
  | _, _, 0, x, .cons r t, h => by simp at h; subst h; exact ⟨_, rfl, r⟩
  | _, _, i + 1, x, .cons r t, h => by
    obtain ⟨y, h1, h2⟩ := paired_get t (i := i) (by simpa using h)
    exact ⟨y, by simpa using h1, h2⟩
theorem sc_block_names : FnScope ["statements", "found", "statement"] ["statements"] (fnScope s_block_names) := ⟨rfl, rfl, rfl, by decide +kernel, rfl, by decide +kernel, by decide +kernel⟩
theorem c_block_names (T : Tx w K mg) : Cal P w K mg base 10 "block_names" (spBN K) [] := by
  have c_names_of := c_names_of (P := P) (base := base) T
  have c_ascending := c_ascending (P := P) (base := base) T
  refine T.d_block_names.cal sc_block_names (fun F => ⟨[], .nil, F.bindsN fun _ _ _ _ _ _ us hl => match us, hl with | [_], _ => rfl⟩) (by rintro vs H Q E ⟨v, _, _, rfl, _⟩; rfl) fun f cdv A outer s H vs Q E hr h => ?_
  obtain ⟨a, xs, rows, rfl, ha, hx, hok, hrl, hQ⟩ := h
  refine ⟨_, (pss_cons (ps_set (i := 1) sc_block_names.nd rfl (Or.inl rfl) (pe_lst pa_nil))
    (pss_cons (ps_for PassesOwn.never rfl (pi_list (pv 0)) (pg_name (i := 2) sc_block_names.nd rfl (Or.inl rfl))
      (pss_one (ps_expr (pe_bm PySem.F.plainAttrs_list PySem.F.slot_list_extend PySem.F.type_list_extend mt_extend (pv 1) (pa_cons (pe_c c_names_of hr (by omega) rfl (pa_cons (pv 2) pa_nil)) pa_nil)))))
    (pss_one (ps_ret (pe_c c_ascending hr (by omega) rfl (pa_cons (pv 1) pa_nil)))))), ?_⟩
  refine ⟨by decide, fun d hd => ?_⟩
  have had : a ≠ d := fun z => by rw [z, hd] at ha; cases ha
  refine ⟨.ref a, rfl, a, rfl, ⟨_, .of (same_new hd _ _ ha)⟩, for_it (walk_list (K := K) (a := a) (xs := xs)) (fun i σ H2 => (Same H H2 ∧ σ.length = 3 ∧ σ[1]? = some (some (.ref d))) ∧ ∃ us : List Str, H2 d = some (.lst (us.map V.str)) ∧ us.length ≤ 40 * i)
    ⟨⟨same_new hd, rfl, rfl⟩, [], upd_same, Nat.le_refl _⟩ (fun i σ H2 _ z => .of (z.1.1 _ _ ha)) ?_ ?_⟩
  · rintro i x σ H2 H3 hi ⟨⟨e2, hσ, s1⟩, us, hd2, hul⟩ ⟨rfl, hxi⟩
    obtain ⟨r, hr', hxd⟩ := paired_get hx hxi
    obtain ⟨lp, ok⟩ := hok r (List.mem_of_getElem? hr')
    obtain ⟨rp, th, tk⟩ := r
    have hi2 : i < 6000 := by have := (List.getElem?_eq_some_iff.mp hr').1; omega
    refine ⟨.ref d, by simpa using s1, .inl ⟨rfl, _, .of hd2⟩, x, by simp [hσ], x, th, tk, rfl, ok.inv.1, hxd.same e2, fun v H4 e4 ⟨p, zs, ev, hp0, _, hp, hzl⟩ => ?_⟩
    subst ev
    refine ⟨d, p, _, _, rfl, rfl, e4 _ _ hd2, hp, by rw [List.length_map, List.length_map, sizeLine_eq]; omega, ?_⟩
    refine ⟨⟨Same.late (e2.trans e4) hd, by simpa using hσ, by simpa using s1⟩, us ++ zs, by rw [upd_same]; simp, by simp only [List.length_append]; omega⟩
  · rintro σ H2 ⟨⟨e2, hσ, s1⟩, us, hd2, hul⟩
    rw [Paired.length hx] at hul
    exact ⟨.ref d, s1, d, us, rfl, hd2, by omega, fun v H3 e3 ⟨p, zs, ev, hp0, h3, hp, _⟩ => hQ v H3 (e2.trans e3) ⟨p, zs, ev, fresh_back e2 hp0, h3, hp, trivial⟩⟩
theorem sc_block_ports : FnScope ["statements", "found", "statement"] ["statements"] (fnScope s_block_ports) := ⟨rfl, rfl, rfl, by decide +kernel, rfl, by decide +kernel, by decide +kernel⟩
theorem c_block_ports (T : Tx w K mg) : Cal P w K mg base 10 "block_ports" (spBN K) [] := by
  have c_ports_of := c_ports_of (P := P) (base := base) T
  have c_ascending := c_ascending (P := P) (base := base) T
  refine T.d_block_ports.cal sc_block_ports (fun F => ⟨[], .nil, F.bindsN fun _ _ _ _ _ _ us hl => match us, hl with | [_], _ => rfl⟩) (by rintro vs H Q E ⟨v, _, _, rfl, _⟩; rfl) fun f cdv A outer s H vs Q E hr h => ?_
  obtain ⟨a, xs, rows, rfl, ha, hx, hok, hrl, hQ⟩ := h
  refine ⟨_, (pss_cons (ps_set (i := 1) sc_block_ports.nd rfl (Or.inl rfl) (pe_lst pa_nil))
    (pss_cons (ps_for PassesOwn.never rfl (pi_list (pv 0)) (pg_name (i := 2) sc_block_ports.nd rfl (Or.inl rfl))
      (pss_one (ps_expr (pe_bm PySem.F.plainAttrs_list PySem.F.slot_list_extend PySem.F.type_list_extend mt_extend (pv 1) (pa_cons (pe_c c_ports_of hr (by omega) rfl (pa_cons (pv 2) pa_nil)) pa_nil)))))
    (pss_one (ps_ret (pe_c c_ascending hr (by omega) rfl (pa_cons (pv 1) pa_nil)))))), ?_⟩
  refine ⟨by decide, fun d hd => ?_⟩
  have had : a ≠ d := fun z => by rw [z, hd] at ha; cases ha
  refine ⟨.ref a, rfl, a, rfl, ⟨_, .of (same_new hd _ _ ha)⟩, for_it (walk_list (K := K) (a := a) (xs := xs)) (fun i σ H2 => (Same H H2 ∧ σ.length = 3 ∧ σ[1]? = some (some (.ref d))) ∧ ∃ us : List Str, H2 d = some (.lst (us.map V.str)) ∧ us.length ≤ 40 * i)
    ⟨⟨same_new hd, rfl, rfl⟩, [], upd_same, Nat.le_refl _⟩ (fun i σ H2 _ z => .of (z.1.1 _ _ ha)) ?_ ?_⟩
  · rintro i x σ H2 H3 hi ⟨⟨e2, hσ, s1⟩, us, hd2, hul⟩ ⟨rfl, hxi⟩
    obtain ⟨r, hr', hxd⟩ := paired_get hx hxi
    obtain ⟨lp, ok⟩ := hok r (List.mem_of_getElem? hr')
    obtain ⟨rp, th, tk⟩ := r
    have hi2 : i < 6000 := by have := (List.getElem?_eq_some_iff.mp hr').1; omega
    refine ⟨.ref d, by simpa using s1, .inl ⟨rfl, _, .of hd2⟩, x, by simp [hσ], x, th, tk, rfl, ok.inv.1, hxd.same e2, fun v H4 e4 ⟨p, zs, ev, hp0, _, hp, hzl⟩ => ?_⟩
    subst ev
    refine ⟨d, p, _, _, rfl, rfl, e4 _ _ hd2, hp, by rw [List.length_map, List.length_map, sizeLine_eq]; omega, ?_⟩
    refine ⟨⟨Same.late (e2.trans e4) hd, by simpa using hσ, by simpa using s1⟩, us ++ zs, by rw [upd_same]; simp, by simp only [List.length_append]; omega⟩
  · rintro σ H2 ⟨⟨e2, hσ, s1⟩, us, hd2, hul⟩
    rw [Paired.length hx] at hul
    exact ⟨.ref d, s1, d, us, rfl, hd2, by omega, fun v H3 e3 ⟨p, zs, ev, hp0, h3, hp, _⟩ => hQ v H3 (e2.trans e3) ⟨p, zs, ev, fresh_back e2 hp0, h3, hp, trivial⟩⟩
end
end Oh
set_option maxHeartbeats 4000000
namespace Oh
open PySem PySem.Spec PyProof.Rows L2
open C8 (Cal Met Mak pe_c pe_mk pe_mt pe_mt0 pe_gc InsC call_isC tCut pss_cut fnBody fnArgs fnScope)
/-! ### paths in order -/
theorem lexLt_anti : ∀ x y : List Int, HT.lexLt x y = false → HT.lexLt y x = false → x = y
  | [], [], _, _ => rfl
  | [], _ :: _, h, _ => by cases h
  | _ :: _, [], _, h => by cases h
  | a :: x, b :: y, h1, h2 => by
    rw [HT.lexLt_cons] at h1 h2
    by_cases e : a = b
    · rw [if_pos e] at h1
      rw [if_pos e.symm] at h2
      rw [e, lexLt_anti x y h1 h2]
    · rw [if_neg e] at h1
      rw [if_neg fun z => e z.symm] at h2
      have := of_decide_eq_false h1
      have := of_decide_eq_false h2
      omega
theorem sorted_uniq {α : Type} {lt : α → α → Bool} (anti : ∀ x y, lt x y = false → lt y x = false → x = y) : ∀ {l m : List α}, l.Pairwise (fun x y => lt y x = false) → m.Pairwise (fun x y => lt y x = false) → l.Perm m → l = m
  | [], m, _, _, h => by rw [List.nil_perm.mp h]
  | a :: l, [], _, _, h => by have := h.length_eq; simp at this
  | a :: l, b :: m, h1, h2, h => by
    have e : a = b := by
      have ha : a ∈ b :: m := h.mem_iff.mp (List.mem_cons_self ..)
      have hb : b ∈ a :: l := h.mem_iff.mpr (List.mem_cons_self ..)
      rcases List.mem_cons.mp ha with e | ha
      · exact e
      · rcases List.mem_cons.mp hb with e | hb
        · exact e.symm
        · exact anti _ _ ((List.pairwise_cons.mp h2).1 a ha) ((List.pairwise_cons.mp h1).1 b hb)
    subst e
    rw [sorted_uniq anti (List.pairwise_cons.mp h1).2 (List.pairwise_cons.mp h2).2 (List.Perm.cons_inv h)]
def srtP (ps : List (List Int)) : List (List Int) := ps.mergeSort fun x y => !HT.lexLt y x
theorem srtP_perm (ps : List (List Int)) : (srtP ps).Perm ps := List.mergeSort_perm _ _
theorem srtP_sorted (ps : List (List Int)) : (srtP ps).Pairwise fun x y => HT.lexLt y x = false := by
  have h := List.pairwise_mergeSort (le := fun x y : List Int => !HT.lexLt y x) (fun a b c h1 h2 => by
    have h1 : HT.lexLt b a = false := by simpa using h1
    have h2 : HT.lexLt c b = false := by simpa using h2
    show (!HT.lexLt c a) = true
    rw [lexLt_tr a b c h1 h2] <;> rfl) (fun a b => by
    cases q : HT.lexLt b a with
    | false => rfl
    | true => rw [lexLt_asym b a q] <;> rfl) ps
  exact List.Pairwise.imp (fun h => by simpa using h) h
/-- the paths of the open lines, ascending; how many blocks the line has -/
def T.isOpn : T → Bool
  | .mk h _ => h.isOpn
def opnP (rows : List (List Int × T)) (p : List Int) : Bool := rows.any fun r => decide (r.1 = p) && r.2.isOpn
def cntAt (rows : List (List Int × T)) (p : List Int) : Nat := ((rows.find? fun r => decide (r.1 = p)).map fun r => r.2.kids.length).getD 0
def opns (b : List T) : List (List Int) := (srtP ((bLst [] 0 b).map (·.1))).filter (opnP (bLst [] 0 b))
theorem row_uniq {rows : List (List Int × T)} (nd : (rows.map (·.1)).Nodup) {p : List Int} {t u : T} (h1 : (p, t) ∈ rows) (h2 : (p, u) ∈ rows) : t = u := by
  induction rows with
  | nil => cases h1
  | cons r rows ih =>
    rw [List.map_cons] at nd
    obtain ⟨n1, n2⟩ := List.nodup_cons.mp nd
    rcases List.mem_cons.mp h1 with e1 | h1 <;> rcases List.mem_cons.mp h2 with e2 | h2
    · have := e1.trans e2.symm
      cases this
      rfl
    · exact absurd (List.mem_map.mpr ⟨_, h2, by rw [← e1]⟩) n1
    · exact absurd (List.mem_map.mpr ⟨_, h1, by rw [← e2]⟩) n1
    · exact ih n2 h1 h2
theorem opnP_at {rows : List (List Int × T)} (nd : (rows.map (·.1)).Nodup) {p : List Int} {t : T} (h : (p, t) ∈ rows) : opnP rows p = t.isOpn := by
  unfold opnP
  cases q : t.isOpn with
  | true => exact List.any_eq_true.mpr ⟨(p, t), h, by simp [q]⟩
  | false =>
    refine List.any_eq_false.mpr fun r hr hc => ?_
    obtain ⟨h1, h2⟩ := Bool.and_eq_true_iff.mp hc
    obtain ⟨rp, rt⟩ := r
    obtain rfl : rp = p := of_decide_eq_true h1
    rw [row_uniq nd h hr] at q
    rw [show rt.isOpn = false from q] at h2
    cases h2
theorem cntAt_at {rows : List (List Int × T)} (nd : (rows.map (·.1)).Nodup) {p : List Int} {t : T} (h : (p, t) ∈ rows) : cntAt rows p = t.kids.length := by
  unfold cntAt
  cases q : rows.find? fun r => decide (r.1 = p) with
  | none =>
    have := List.find?_eq_none.mp q (p, t) h
    simp at this
  | some r =>
    have h1 := List.mem_of_find?_eq_some q
    have h2 := List.find?_some q
    obtain ⟨rp, rt⟩ := r
    obtain rfl : rp = p := of_decide_eq_true h2
    rw [row_uniq nd h h1]
    rfl
/-! ### the class Routine -/
/-- what the head tells of the class Routine -/
structure Rx (w : World) (K : PySem.W.Frag) (mg : Str → Option Value) (CR : Addr) : Prop where
  ini : HasI K mg "Routine" CR "Routine.__init__" s_Routine_init []
  d_eq : HasM K CR "__eq__" "Routine.__eq__" s_Routine_eq []
  d_open : HasM K CR "open_lines" "Routine.open_lines" s_Routine_open_lines []
  d_stm : HasM K CR "statement" "Routine.statement" s_Routine_statement []
  g_cls : mg "Routine" = some (.ref CR)
  ins : InsC K CR
  n_block : NoAttr K CR "block"
  n_table : NoAttr K CR "table"
  n_names : NoAttr K CR "name_list"
  n_ports : NoAttr K CR "port_list"
/-- the object at a is the Routine of b, its table at tb -/
structure RoutAt (K : PySem.W.Frag) (CR : Addr) (H : Hp) (a tb : Addr) (b : List T) : Prop where
  ex : ∃ dx v nl pl kvs, H a = some (.ins CR dx [("block", v), ("table", .ref tb), ("name_list", nl), ("port_list", pl)]) ∧ Td K H v (blkD b) ∧ H tb = some (.dT kvs) ∧ TabOk K H kvs (bLst [] 0 b)
section
variable {P : Program} {w : World} {K : PySem.W.Frag} {mg : Str → Option Value} {base : Heap} {F : Fm} {te tb ta : TE} {σ : L2.St} {H H' : Hp} {E : XK} {VT : VP F} {t : TA} {ds es : List PyData} {CR : Addr}
theorem pe_fldK {X : Cx} {e : Expr} {f : Str} {pos : Pos} {ta : TE} (hK : X.K = K) (he : PE X e ta) (hb : attributeBase e f X.env (eval e X.env) = eval e X.env) : PE X (.Attribute e f pos) (tFld K ta f) := hK ▸ pe_fld he hb
theorem RoutAt.up {a tb : Addr} {b : List Oh.T} (r : RoutAt K CR H a tb b) (h1 : ∀ o, H a = some o → H' a = some o) (h2 : ∀ o, H tb = some o → H' tb = some o) (e : TL H H') : RoutAt K CR H' a tb b := by
  obtain ⟨dx, v, nl, pl, kvs, q1, q2, q3, q4⟩ := r.ex
  exact ⟨dx, v, nl, pl, kvs, h1 _ q1, q2.tl e, h2 _ q3, q4.tl e⟩
theorem RoutAt.same {a tb : Addr} {b : List Oh.T} (r : RoutAt K CR H a tb b) (e : Same H H') : RoutAt K CR H' a tb b := r.up (fun _ => e _ _) (fun _ => e _ _) (Same.tl e)
def VP.rout (K : PySem.W.Frag) (CR : Addr) (b : List Oh.T) : VP F := ⟨fun v H => ∃ a tb, v = .ref a ∧ ¬ F.sp a ∧ ¬ F.sp tb ∧ RoutAt K CR H a tb b, fun _ _ _ g e ⟨a, tb, h1, h2, h3, h4⟩ => ⟨a, tb, h1, h2, h3, h4.up (fun _ z => e.1 _ _ z h2) (fun _ z => e.1 _ _ z h3) (e.tl g)⟩⟩
mutual
theorem lst_Ok (path : List Int) : ∀ (t : Oh.T), (∃ lp, T.Ok lp t) → ∀ p ∈ t.lst path, ∃ lp, T.Ok lp p.2
  | .mk h ks, ok, p, hp => by
    simp only [T.lst] at hp
    rcases List.mem_cons.mp hp with rfl | hp
    · exact ok
    · obtain ⟨lp, ok⟩ := ok
      exact bbLst_Ok path 0 ks (fun b hb t ht => ⟨_, ok.inv.2.2.1 b hb t ht⟩) p hp
theorem bbLst_Ok (path : List Int) (i : Nat) : ∀ (ks : List (List Oh.T)), (∀ b ∈ ks, ∀ t ∈ b, ∃ lp, T.Ok lp t) → ∀ p ∈ bbLst path i ks, ∃ lp, T.Ok lp p.2
  | [], _, p, hp => by simp [bbLst] at hp
  | b :: bs, ok, p, hp => by
    simp only [bbLst] at hp
    rcases List.mem_append.mp hp with hp | hp
    · exact bLst_Ok _ 0 b (ok b (List.mem_cons_self ..)) p hp
    · exact bbLst_Ok path (i + 1) bs (fun c hc => ok c (List.mem_cons_of_mem _ hc)) p hp
theorem bLst_Ok (above : List Int) (i : Nat) : ∀ (ts : List Oh.T), (∀ t ∈ ts, ∃ lp, T.Ok lp t) → ∀ p ∈ bLst above i ts, ∃ lp, T.Ok lp p.2
  | [], _, p, hp => by simp [bLst] at hp
  | t :: ts, ok, p, hp => by
    simp only [bLst] at hp
    rcases List.mem_append.mp hp with hp | hp
    · exact lst_Ok _ t (ok t (List.mem_cons_self ..)) p hp
    · exact bLst_Ok above (i + 1) ts (fun u hu => ok u (List.mem_cons_of_mem _ hu)) p hp
end
theorem tab_vals {kvs : List (List L2.Key × V)} {rows : List (List Int × Oh.T)} (h : TabOk K H kvs rows) : Paired (fun v p => Td K H v p.2.d) (kvs.map (·.2)) rows := by
  unfold TabOk at h
  induction h with
  | nil => exact .nil
  | cons r t ih => exact .cons r.2 ih
/-- what stands but for the object at x -/
def But (x : Addr) (H H' : Hp) : Prop := ∀ a o, H a = some o → a ≠ x → H' a = some o
def spRI (K : PySem.W.Frag) (CR : Addr) : Sp := fun vs H Q _ => ∃ x dx v b, vs = [.ref x, v] ∧ H x = some (.ins CR dx []) ∧ BOk b ∧ Td K H v (blkD b) ∧ ∀ H' tb, But x H H' → H tb = none → RoutAt K CR H' x tb b → Q .non H'
theorem but_tl {x : Addr} {C dx : Addr} {fs : List (Str × V)} (h : But x H H') (hx : H x = some (.ins C dx fs)) : TL H H' := fun b us r => by
  have nb : b ≠ x := by
    rintro rfl
    rcases r with r | ⟨q, r⟩ <;> rw [hx] at r <;> cases r
  rcases r with r | ⟨q, r⟩
  · exact .inl (h _ _ r nb)
  · exact .inr ⟨q, h _ _ r nb⟩
theorem notup_ins {C dx : Addr} {fs : List (Str × V)} : NoTup (some (.ins C dx fs)) := fun _ => ⟨(fun z => by cases z), fun _ z => by cases z⟩
theorem sc_Routine_init : FnScope ["self", "block"] ["self", "block"] (fnScope s_Routine_init) := ⟨rfl, rfl, rfl, by decide +kernel, rfl, by decide +kernel, by decide +kernel⟩
theorem m_Routine (T : Tx w K mg) (R : Rx w K mg CR) : Mak P w K mg base 52 "Routine" CR (spRI K CR) [] := by
  have c_check_top_block := c_check_top_block (P := P) (base := base) T
  have c_statement_table := c_statement_table (P := P) (base := base) T
  have c_block_names := c_block_names (P := P) (base := base) T
  have c_block_ports := c_block_ports (P := P) (base := base) T
  refine R.ini.mak sc_Routine_init (fun F => ⟨[], .nil, F.bindsN fun _ _ _ _ _ _ us hl => match us, hl with | [_, _], _ => rfl⟩) (by rintro vs H Q E ⟨x, dx, v, _, rfl, _⟩; rfl) fun f cdv A outer s H vs Q E hr h => ?_
  obtain ⟨x, dx, v, b, rfl, hx, ok, td, hQ⟩ := h
  refine ⟨_, (pss_cons (ps_expr (pe_c c_check_top_block hr (by omega) rfl (pa_cons (pv 1) pa_nil)))
    (pss_cons (ps_fld (pv 0) (pv 1) rfl)
    (pss_cons (ps_fld (pv 0) (pe_c c_statement_table hr (by omega) rfl (pa_cons (pv 1) pa_nil)) rfl)
    (pss_cons (ps_fld (pv 0) (pe_c c_block_names hr (by omega) rfl (pa_cons (pe_callTy (call_list_vals rfl) rfl T.z_list (by decide +kernel) (pa_cons (pe_bm0 PySem.F.plainAttrs_dict PySem.F.slot_dict_values PySem.F.type_dict_values mt_valuesT (pe_fld (pv 0) rfl)) pa_nil)) pa_nil)) rfl)
    (pss_one (ps_fld (pv 0) (pe_c c_block_ports hr (by omega) rfl (pa_cons (pe_callTy (call_list_vals rfl) rfl T.z_list (by decide +kernel) (pa_cons (pe_bm0 PySem.F.plainAttrs_dict PySem.F.slot_dict_values PySem.F.type_dict_values mt_valuesT (pe_fld (pv 0) rfl)) pa_nil)) pa_nil)) rfl)))))), ?_⟩
  have okall : ∀ t ∈ b, ∃ lp, Oh.T.Ok lp t := fun t ht => ⟨_, ok.all t ht⟩
  have hrows : ∀ p ∈ bLst [] 0 b, ∃ lp, Oh.T.Ok lp p.2 := bLst_Ok [] 0 b okall
  have hlen : (bLst [] 0 b).length ≤ 6000 := by rw [bLst_len]; exact ok.cnt
  -- check_top_block(block); self.block = block
  refine ⟨v, rfl, v, b, rfl, ok, td, fun H1 e1 => ?_⟩
  refine ⟨v, rfl, .ref x, rfl, x, CR, dx, [], rfl, e1 _ _ hx, R.ins.cl, R.n_block, by decide, ?_⟩
  have b1 : But x H (upd H1 x (.ins CR dx [("block", v)])) := fun a o h n => by rw [upd_ne n]; exact e1 _ _ h
  have hx1 : (upd H1 x (.ins CR dx [("block", v)])) x = some (.ins CR dx [("block", v)]) := upd_same
  show tSeq _ _ _ _ (upd H1 x (.ins CR dx [("block", v)]))
  generalize upd H1 x (.ins CR dx [("block", v)]) = H2 at b1 hx1 ⊢
  have td2 := td.tl (but_tl b1 hx)
  refine ⟨v, rfl, v, b, rfl, ⟨okall, ok.ht, ok.cnt⟩, td2, fun tb kvs H3 htb e3 hk ht => ?_⟩
  refine ⟨.ref x, rfl, x, CR, dx, _, rfl, e3 _ _ hx1, R.ins.cl, R.n_table, (show 1 < 1000 by decide), ?_⟩
  have htbx : tb ≠ x := fun z => by rw [z, hx1] at htb; cases htb
  have b3 : But x H2 (upd H3 x (.ins CR dx [("block", v), ("table", .ref tb)])) := fun a o h n => by rw [upd_ne n]; exact e3 _ _ h
  have hx3 : (upd H3 x (.ins CR dx [("block", v), ("table", .ref tb)])) x = some (.ins CR dx [("block", v), ("table", .ref tb)]) := upd_same
  have hk3 : (upd H3 x (.ins CR dx [("block", v), ("table", .ref tb)])) tb = some (.dT kvs) := by rw [upd_ne htbx]; exact hk
  have ht3 : TabOk K (upd H3 x (.ins CR dx [("block", v), ("table", .ref tb)])) kvs (bLst [] 0 b) := ht.tl (tl_updT (e3 _ _ hx1) notup_ins)
  show tSeq _ _ _ _ (upd H3 x (.ins CR dx [("block", v), ("table", .ref tb)]))
  generalize upd H3 x (.ins CR dx [("block", v), ("table", .ref tb)]) = H4 at b3 hx3 hk3 ht3 ⊢
  have vals : ∀ {fs : List (Str × V)} {H5 : Hp} (Qv : VK), H5 x = some (.ins CR dx fs) → fs.lookup ("table" : Str) = some (V.ref tb) → H5 tb = some (.dT kvs) → TabOk K H5 kvs (bLst [] 0 b) → (∀ v H', Same H5 H' → Qv v H') →
      (tCall (spBN K) [] C8.E0 (tCons (tCB rListVals (tCons (tBM0 K "dict" rValuesT (tFld K (tVar 0) "table")) tNil)) tNil)) (L2.start ["self", "block"] [.ref x, v]) H5 Qv := by
    intro fs H5 Qv h1 h2 h3 h4 hq
    refine ⟨.ref x, rfl, x, CR, dx, fs, .ref tb, rfl, h1, R.ins.cl, R.n_table, h2, .inr (.inr (.inl ⟨rfl, .inr ⟨_, h3⟩⟩)), tb, kvs, rfl, rfl, h3, fun p hp => ?_⟩
    have e5 := same_new (o := valuesO p tb) hp
    refine ⟨p, tb, kvs, rfl, upd_same, e5 _ _ h3, fun l hl => ?_⟩
    have e6 := e5.trans (same_new (o := .lst (kvs.map (·.2))) hl)
    exact ⟨l, _, bLst [] 0 b, rfl, upd_same, Paired.mapP (tab_vals h4) fun _ _ r => r.same e6, hrows, hlen, fun v H' e7 _ => hq v H' (e6.trans e7)⟩
  refine vals _ hx3 rfl hk3 ht3 fun nl H5 e5 => ?_
  refine ⟨.ref x, rfl, x, CR, dx, _, rfl, e5 _ _ hx3, R.ins.cl, R.n_names, (show 2 < 1000 by decide), ?_⟩
  have b5 : But x H4 (upd H5 x (.ins CR dx [("block", v), ("table", .ref tb), ("name_list", nl)])) := fun a o h n => by rw [upd_ne n]; exact e5 _ _ h
  have hx5 : (upd H5 x (.ins CR dx [("block", v), ("table", .ref tb), ("name_list", nl)])) x = some (.ins CR dx [("block", v), ("table", .ref tb), ("name_list", nl)]) := upd_same
  have hk5 : (upd H5 x (.ins CR dx [("block", v), ("table", .ref tb), ("name_list", nl)])) tb = some (.dT kvs) := by rw [upd_ne htbx]; exact e5 _ _ hk3
  have ht5 : TabOk K (upd H5 x (.ins CR dx [("block", v), ("table", .ref tb), ("name_list", nl)])) kvs (bLst [] 0 b) := (ht3.tl (Same.tl e5)).tl (tl_updT (e5 _ _ hx3) notup_ins)
  show sFld K (tVar 0) (tCall (spBN K) [] C8.E0 (tCons (tCB rListVals (tCons (tBM0 K "dict" rValuesT (tFld K (tVar 0) "table")) tNil)) tNil)) "port_list" { nx := fun _ H' => Q .non H', rt := Q } (L2.start ["self", "block"] [.ref x, v]) (upd H5 x (.ins CR dx [("block", v), ("table", .ref tb), ("name_list", nl)]))
  generalize upd H5 x (.ins CR dx [("block", v), ("table", .ref tb), ("name_list", nl)]) = H6 at b5 hx5 hk5 ht5 ⊢
  refine vals _ hx5 rfl hk5 ht5 fun pl H7 e7 => ?_
  refine ⟨.ref x, rfl, x, CR, dx, _, rfl, e7 _ _ hx5, R.ins.cl, R.n_ports, (show 3 < 1000 by decide), ?_⟩
  have b7 : But x H6 (upd H7 x (.ins CR dx [("block", v), ("table", .ref tb), ("name_list", nl), ("port_list", pl)])) := fun a o h n => by rw [upd_ne n]; exact e7 _ _ h
  have bt : ∀ {A B C : Hp}, But x A B → But x B C → But x A C := fun p q a o h n => q a o (p a o h n) n
  have ball := bt b1 (bt b3 (bt b5 b7))
  refine hQ _ tb ball ?_ ⟨dx, v, nl, pl, kvs, upd_same, td.tl (but_tl ball hx), by rw [upd_ne htbx]; exact e7 _ _ hk5, (ht5.tl (Same.tl e7)).tl (tl_updT (e7 _ _ hx5) notup_ins)⟩
  cases q : H tb with
  | none => rfl
  | some o => exact absurd htb (by rw [b1 tb o q htbx]; simp)
theorem ev_mkR {b : List Oh.T} (h : EvD F K te σ H (blkD b)) (ok : BOk b) : Ev F (tMake CR (spRI K CR) [] E (tCons te tNil)) σ H (.rout K CR b) := fun H1 e1 Q q =>
  h H1 e1 _ fun v H2 e2 ⟨d0, e0, p0⟩ x dx hx hdx hne => by
    subst e0
    have e3 : Same H2 (upd (upd H2 dx (.own x)) x (.ins CR dx [])) := Same.late (same_new hdx) hx
    refine ⟨x, dx, v, b, rfl, upd_same, ok, p0.same e3, fun H' tb but htb r => ⟨rfl, ?_⟩⟩
    have e4 : Same H2 H' := fun a o z => but a o (e3 a o z) (ne_of_none z hx)
    have htb2 : H2 tb = none := fresh_back e3 htb
    exact q _ _ (e2.trans (.of e2.good e4)) ⟨x, tb, rfl, Fm.nosp e2.good hx, Fm.nosp e2.good htb2, r⟩
theorem tab_get {kvs : List (List L2.Key × V)} {rows : List (List Int × Oh.T)} (h : TabOk K H kvs rows) (nd : (rows.map (·.1)).Nodup) {p : List Int} {t : Oh.T} (hm : (p, t) ∈ rows) : ∃ v, valV kvs (pK p) = some v ∧ Td K H v t.d := by
  unfold TabOk at h
  induction h with
  | nil => cases hm
  | @cons kv r kvs rows hr ht ih =>
    obtain ⟨n1, n2⟩ := List.nodup_cons.mp (show (r.1 :: rows.map (·.1)).Nodup from nd)
    by_cases e : r.1 = p
    · have hrp : r = (p, t) := by
        rcases List.mem_cons.mp hm with z | z
        · exact z.symm
        · exact absurd (List.mem_map.mpr ⟨_, z, rfl⟩) (e ▸ n1)
      rw [hrp] at hr
      exact ⟨kv.2, valV_pos hr.1, hr.2⟩
    · have hm2 : (p, t) ∈ rows := by
        rcases List.mem_cons.mp hm with z | z
        · exact absurd (congrArg Prod.fst z).symm e
        · exact z
      rw [valV_neg fun z => e (pK_inj (hr.1.symm.trans z))]
      exact ih n2 hm2
def spStmt (K : PySem.W.Frag) (CR : Addr) : Sp := fun vs H Q _ => ∃ a tb b pa, ∃ p : List Int, ∃ t : Oh.T, vs = [.ref a, .ref pa] ∧ RoutAt K CR H a tb b ∧ H pa = some (.tup (p.map V.int)) ∧ (p, t) ∈ bLst [] 0 b ∧ ∀ v, Td K H v t.d → Q v H
theorem sc_Routine_statement : FnScope ["self", "path"] ["self", "path"] (fnScope s_Routine_statement) := ⟨rfl, rfl, rfl, by decide +kernel, rfl, by decide +kernel, by decide +kernel⟩
theorem t_statement (T : Tx w K mg) (R : Rx w K mg CR) : Met P w K mg base 4 CR "statement" (spStmt K CR) [] := by
  have c_is_path := c_is_path (P := P) (base := base) T
  refine R.d_stm.met sc_Routine_statement (fun F => ⟨[], .nil, F.bindsN fun _ _ _ _ _ _ us hl => match us, hl with | [_, _], _ => rfl⟩) (by rintro vs H Q E ⟨x, dx, v, _, _, _, rfl, _⟩; rfl) fun f cdv A outer s H vs Q E hr h => ?_
  obtain ⟨a, tb, b, pa, p, t, rfl, r, hpa, hm, hQ⟩ := h
  refine ⟨_, (pss_cons (ps_if (PW.pt (pw_or (pt_not (pt_val (pe_c c_is_path hr (by omega) rfl (pa_cons (pv 1) pa_nil)))) (pw_or1 (pt_cmp (pc_dnotin (hu1 hr) (pv 1) (pe_fld (pv 0) rfl))))))
      pss_never
      pss_nil)
    (pss_one (ps_ret (pe_dget (hu1 hr) (pe_fld (pv 0) rfl) (pv 1) (fun _ _ => rfl))))), ?_⟩
  obtain ⟨dx, v, nl, pl, kvs, ha, hv, htb, ht⟩ := r.ex
  obtain ⟨z, hz, tz⟩ := tab_get ht (bLst_nodup [] 0 b) hm
  have hp := bLst_ok (above := []) (fun n hn => by cases hn) 0 b _ hm
  have hget : DGet H tb (.ref pa) (some z) := by
    have := DGet.t (k := pK p) htb (by rw [pK_kV]; exact hpa)
    rw [hz] at this
    exact this
  refine ⟨.ref pa, rfl, pa, p, rfl, .of hpa, hp.1, hp.2, true, rfl, ?_⟩
  refine ⟨.ref pa, rfl, .ref a, rfl, a, CR, dx, _, _, rfl, ha, R.ins.cl, R.n_table, rfl, tb, _, rfl, hget, false, rfl, ?_⟩
  exact ⟨.ref a, rfl, a, CR, dx, _, _, rfl, ha, R.ins.cl, R.n_table, rfl, .ref pa, rfl, tb, z, rfl, hget, hQ z tz⟩
/-- a value that is the path p -/
def PthAt (H : Hp) (v : V) (p : List Int) : Prop := ∃ a, v = .ref a ∧ H a = some (.tup (p.map V.int))
theorem PthAt.same {v : V} {p : List Int} (h : PthAt H v p) (e : Same H H') : PthAt H' v p := let ⟨a, h1, h2⟩ := h; ⟨a, h1, e _ _ h2⟩
theorem PthAt.lst {v : V} {p : List Int} {l : Addr} {xs : List V} {o : HO} (h : PthAt H v p) (hl : H l = some (.lst xs)) : PthAt (upd H l o) v p := by
  obtain ⟨a, h1, h2⟩ := h
  exact ⟨a, h1, by rw [upd_ne (fun z => by rw [z, hl] at h2; cases h2)]; exact h2⟩
def spOL (K : PySem.W.Frag) (CR : Addr) : Sp := fun vs H Q _ => ∃ a tb b, vs = [.ref a] ∧ RoutAt K CR H a tb b ∧ bCnt b ≤ 6000 ∧ ∀ p xs H', H p = none → Same H H' → H' p = some (.lst xs) → Paired (PthAt H') xs (opns b) → Q (.ref p) H'
/-- the ints of a tuple -/
def kH (H : Hp) : V → List Int
  | .ref t => match H t with
    | some (.tup xs) => xs.map fun v => match v with
      | .int i => i
      | _ => 0
    | _ => []
  | _ => []
theorem ints_back : ∀ p : List Int, ((p.map V.int).map fun v => match v with
      | .int i => i
      | _ => 0) = p
  | [] => rfl
  | i :: p => by rw [List.map_cons, List.map_cons, ints_back p]
theorem kH_at {v : V} {p : List Int} (h : PthAt H v p) : kH H v = p := by
  obtain ⟨a, rfl, h⟩ := h
  show (match H a with
    | some (.tup xs) => xs.map fun v => match v with
      | .int i => i
      | _ => 0
    | _ => []) = p
  rw [h]
  exact ints_back p
theorem sc_Routine_open_lines : FnScope ["self", "path"] ["self"] (fnScope s_Routine_open_lines) := ⟨rfl, rfl, rfl, by decide +kernel, rfl, by decide +kernel, by decide +kernel⟩
theorem t_open_lines (T : Tx w K mg) (R : Rx w K mg CR) : Met P w K mg base 1 CR "open_lines" (spOL K CR) [] := by
  refine R.d_open.met sc_Routine_open_lines (fun F => ⟨[], .nil, F.bindsN fun _ _ _ _ _ _ us hl => match us, hl with | [_], _ => rfl⟩) (by rintro vs H Q E ⟨x, dx, v, rfl, _⟩; rfl) fun f cdv A outer s H vs Q E hr h => ?_
  obtain ⟨a, tb, b, rfl, r, hcnt, hQ⟩ := h
  refine ⟨_, (pss_one (ps_ret (pe_lc (own := [("path", 1)]) (g := (gName 1)) rfl sc_Routine_open_lines.nd (pi_list (pe_callB cr_sortedIT rfl T.z_sorted (by decide +kernel) (pa_cons (pe_callTy (call_list_dT rfl) rfl T.z_list (by decide +kernel) (pa_cons (pe_fld (pv 0) rfl) pa_nil)) pa_nil))) (blkOk_by (own := [("path", 1)]) (N := ["self", "path"]) (sc := fnScope s_Routine_open_lines) (by decide +kernel)) (fun _ _ _ _ _ => (pg_name (i := 1) sc_Routine_open_lines.nd rfl (Or.inl rfl))) (fun _ _ _ _ _ => (pts_one (pt_cmpR op_eq (pe_ix (r := rIxT K) ix_tup (pe_dget (hu1 hr) (pe_fldK (K := K) rfl (pv 0) rfl) (pv 1) (fun _ _ => rfl)) pe_int (fun _ _ => rfl)) pe_str (nomark _)))) (fun _ _ _ _ _ => (pv 1))))), ?_⟩
  obtain ⟨dx, v, nl, pl, kvs, ha, hv, htb, ht⟩ := r.ex
  have nd := bLst_nodup [] 0 b
  refine ⟨.ref a, rfl, a, CR, dx, _, _, rfl, ha, R.ins.cl, R.n_table, rfl, tb, kvs, rfl, .of htb, fun l bs hl hbs => ?_⟩
  have e1 := same_new (o := .lst (bs.map V.ref)) hl
  have hbp : Paired (fun (c : Addr) (p : List Int × Oh.T) => H c = some (.tup (p.1.map V.int))) bs (bLst [] 0 b) := by
    unfold IsKeys at hbs
    unfold TabOk at ht
    have : ∀ {kvs : List (List L2.Key × V)} {bs : List Addr} {rows : List (List Int × Oh.T)}, Paired (fun p b => H b = some (.tup (p.1.map kV))) kvs bs → Paired (fun kv p => kv.1 = pK p.1 ∧ Td K H kv.2 p.2.d) kvs rows → Paired (fun (c : Addr) (p : List Int × Oh.T) => H c = some (.tup (p.1.map V.int))) bs rows := by
      intro kvs bs rows h1 h2
      induction h1 generalizing rows with
      | nil => cases h2; exact .nil
      | cons a b ih =>
        cases h2 with
        | cons c d => exact .cons (by rw [a, c.1, pK_kV]) (ih d)
    exact this hbs ht
  have hks : (bs.map V.ref).map (kH H) = (bLst [] 0 b).map (·.1) := by
    rw [List.map_map]
    have : ∀ {bs : List Addr} {rows : List (List Int × Oh.T)}, Paired (fun (c : Addr) (p : List Int × Oh.T) => H c = some (.tup (p.1.map V.int))) bs rows → bs.map (kH H ∘ V.ref) = rows.map (·.1) := by
      intro bs rows h
      induction h with
      | nil => rfl
      | cons a b ih => rw [List.map_cons, List.map_cons, ih]; exact congrArg (· :: _) (kH_at ⟨_, rfl, a⟩)
    exact this hbp
  have hmem : ∀ x ∈ bs.map V.ref, ∃ t, x = V.ref t ∧ ∃ p ∈ bLst [] 0 b, H t = some (.tup (p.1.map V.int)) := by
    intro x hx
    obtain ⟨t, ht', rfl⟩ := List.mem_map.mp hx
    obtain ⟨i, hi⟩ := List.mem_iff_getElem?.mp ht'
    obtain ⟨p, hp, hpt⟩ := paired_get hbp hi
    exact ⟨t, rfl, p, List.mem_of_getElem? hp, hpt⟩
  refine ⟨l, bs.map V.ref, kH H, rfl, .of upd_same, fun x hx => ?_, fun ys q hsrt hstb hq => ?_⟩
  · obtain ⟨t, rfl, p, hp, hpt⟩ := hmem x hx
    have hk := kH_at (H := H) ⟨t, rfl, hpt⟩
    refine ⟨t, rfl, ?_, ?_⟩
    · rw [hk]
      exact (bLst_ok (above := []) (fun n hn => by cases hn) 0 b p hp).1
    · rw [hk]
      exact .of (e1 _ _ hpt)
  · have e2 := e1.trans (same_new (o := .lst ys) hq)
    have hysm : ∀ x ∈ ys, ∃ t, x = V.ref t ∧ ∃ p ∈ bLst [] 0 b, H t = some (.tup (p.1.map V.int)) := fun x hx => hmem x (hstb.perm.mem_iff.mp hx)
    have hps : ys.map (kH H) = srtP ((bLst [] 0 b).map (·.1)) := by
      refine sorted_uniq lexLt_anti (lt := HT.lexLt) ?_ (srtP_sorted _) ?_
      · exact List.pairwise_map.mpr hsrt
      · have := hstb.perm.map (kH H)
        rw [hks] at this
        exact this.trans (srtP_perm _).symm
    refine ⟨q, rfl, ⟨ys, .of upd_same⟩, fun D hD => ?_⟩
    refine lc_it (walk_list (K := K) (a := q) (xs := ys)) (fun i H2 => Same H H2 ∧ H2 q = some (.lst ys) ∧ H2 D = some (.lst ((ys.take i).filter fun y => opnP (bLst [] 0 b) (kH H y)))) ⟨e2.trans (same_new hD), same_new hD _ _ upd_same, upd_same⟩ (fun i H2 _ z => .of z.2.1) ?_ ?_
    · rintro i x H2 H3 hi ⟨e3, hq3, hD3⟩ ⟨rfl, hxi⟩
      obtain ⟨t, rfl, p, hp, hpt⟩ := hysm x (List.mem_of_getElem? hxi)
      have hk := kH_at (H := H) ⟨t, rfl, hpt⟩
      obtain ⟨pp, pt⟩ := p
      obtain ⟨z, hz, tz⟩ := tab_get ht nd hp
      have hop := opnP_at nd hp
      have hne : D ≠ q := fun z => by rw [z, upd_same] at hD; cases hD
      refine ⟨wipe_one _ 1 _, ?_⟩
      have hget : DGet H3 tb (.ref t) (some z) := by
        have := DGet.t (k := pK pp) (e3 _ _ htb) (by rw [pK_kV]; exact e3 _ _ hpt)
        rw [hz] at this
        exact this
      obtain ⟨th, tk⟩ := pt
      obtain ⟨zs, rr, hdd⟩ := hd_at0 (h := th) (ks := tk)
      have tz3 := tz.same e3
      rw [hdd] at tz3
      obtain ⟨za, zx, rfl, hzs, hzx⟩ := tz3.tupE
      obtain ⟨k0, hk0, tk0⟩ := tda_atI (z := 0) hzx (atI_nat (j := 0) rfl)
      have := tk0.strE
      subst this
      refine ⟨.ref a, rfl, a, CR, dx, _, _, rfl, e3 _ _ ha, R.ins.cl, R.n_table, rfl, .ref t, rfl, tb, .ref za, rfl, hget, za, zx, 0, _, rfl, rfl, hzs, hk0, rfl, decide (V.str zs = V.str "open"), rfl, ?_⟩
      have hopen : decide (V.str zs = V.str "open") = opnP (bLst [] 0 b) (kH H (.ref t)) := by
        rw [hk, hop]
        cases th <;> (cases hdd; first | decide | (show decide _ = false; decide) | (show decide _ = true; decide))
      rw [hopen]
      have htk : ys.take (i + 1) = ys.take i ++ [V.ref t] := by rw [List.take_add_one, hxi]; rfl
      cases hc : opnP (bLst [] 0 b) (kH H (.ref t)) with
      | true =>
        dsimp only
        rw [if_pos rfl]
        refine ⟨.ref t, rfl, _, hD3, lt_sl (Nat.le_trans (List.length_filter_le _ _) ?_), Same.late e3 (fresh_back e2 hD), by rw [upd_ne hne.symm]; exact hq3, ?_⟩
        · rw [List.length_take]
          have : ys.length = (bLst [] 0 b).length := by rw [hstb.perm.length_eq, List.length_map, Paired.length hbp]
          rw [bLst_len] at this
          omega
        · rw [upd_same, htk, List.filter_append]
          simp [hc]
      | false =>
        dsimp only
        rw [if_neg (by simp)]
        refine ⟨e3, hq3, ?_⟩
        rw [hD3, htk, List.filter_append]
        simp [hc]
    · rintro H2 ⟨e3, hq3, hD3⟩
      rw [List.take_length] at hD3
      refine hQ D _ H2 (fresh_back e2 hD) e3 hD3 ?_
      unfold opns
      rw [← hps]
      have : ∀ l : List V, (∀ x ∈ l, ∃ t, x = V.ref t ∧ ∃ p ∈ bLst [] 0 b, H t = some (.tup (p.1.map V.int))) → Paired (PthAt H2) (l.filter fun y => opnP (bLst [] 0 b) (kH H y)) ((l.map (kH H)).filter (opnP (bLst [] 0 b))) := by
        intro l
        induction l with
        | nil => intro _; exact .nil
        | cons y l ih =>
          intro h
          obtain ⟨t, rfl, p, hp, hpt⟩ := h y (List.mem_cons_self ..)
          have hk := kH_at (H := H) ⟨t, rfl, hpt⟩
          have ih := ih fun x hx => h x (List.mem_cons_of_mem _ hx)
          rw [List.map_cons]
          cases hc : opnP (bLst [] 0 b) (kH H (.ref t)) with
          | true =>
            simp only [List.filter_cons, hc, if_true]
            exact .cons ⟨t, rfl, by rw [hk]; exact e3 _ _ hpt⟩ ih
          | false =>
            simp only [List.filter_cons, hc, Bool.false_eq_true, if_false]
            exact ih
      exact this ys hysm
end
end Oh
set_option maxHeartbeats 4000000
namespace Oh
open PySem PySem.Spec PyProof.Rows L2
open C8 (Cal Met Mak pe_c pe_mk pe_mt pe_mt0 pe_gc InsC call_isC tCut pss_cut fnBody fnArgs fnScope)
/-! ### a block, edited: at each open line just the blocks that are chosen -/
abbrev Ch := List Int → Nat → List Nat
def selK (h : Hd) (ix : List Nat) (ks : List (List T)) : List (List T) := if h.isOpn = true then ix.filterMap fun k => ks[k]? else ks
mutual
def T.ed (ch : Ch) (path : List Int) : T → T
  | .mk h ks => .mk h (selK h (ch path ks.length) (bbEd ch path 0 ks))
def bbEd (ch : Ch) (path : List Int) (i : Nat) : List (List T) → List (List T)
  | [] => []
  | b :: bs => bEd ch (path ++ [(i : Int)]) 0 b :: bbEd ch path (i + 1) bs
def bEd (ch : Ch) (above : List Int) (i : Nat) : List T → List T
  | [] => []
  | t :: ts => t.ed ch (above ++ [(i : Int)]) :: bEd ch above (i + 1) ts
end
theorem bEd_get (ch : Ch) (above : List Int) : ∀ (ts : List T) (i j : Nat), (bEd ch above i ts)[j]? = (ts[j]?).map (T.ed ch (above ++ [((i + j : Nat) : Int)]))
  | [], i, j => by simp [bEd]
  | t :: ts, i, 0 => by simp [bEd]
  | t :: ts, i, j + 1 => by
    rw [bEd, List.getElem?_cons_succ, bEd_get ch above ts (i + 1) j, List.getElem?_cons_succ]
    rw [show i + 1 + j = i + (j + 1) by omega]
theorem bbEd_get (ch : Ch) (path : List Int) : ∀ (ks : List (List T)) (i j : Nat), (bbEd ch path i ks)[j]? = (ks[j]?).map (bEd ch (path ++ [((i + j : Nat) : Int)]) 0)
  | [], i, j => by simp [bbEd]
  | t :: ts, i, 0 => by simp [bbEd]
  | t :: ts, i, j + 1 => by
    rw [bbEd, List.getElem?_cons_succ, bbEd_get ch path ts (i + 1) j, List.getElem?_cons_succ]
    rw [show i + 1 + j = i + (j + 1) by omega]
theorem bEd_len (ch : Ch) (above : List Int) : ∀ (ts : List T) (i : Nat), (bEd ch above i ts).length = ts.length
  | [], i => rfl
  | t :: ts, i => by simp [bEd, bEd_len ch above ts (i + 1)]
theorem bbEd_len (ch : Ch) (path : List Int) : ∀ (ks : List (List T)) (i : Nat), (bbEd ch path i ks).length = ks.length
  | [], i => rfl
  | t :: ts, i => by simp [bbEd, bbEd_len ch path ts (i + 1)]
/-- the choice is some of the blocks, in order, at each open line -/
def ChOk (ch : Ch) (rows : List (List Int × T)) : Prop := ∀ r ∈ rows, r.2.isOpn = true → (ch r.1 r.2.kids.length).Sublist (List.range r.2.kids.length) ∧ ch r.1 r.2.kids.length ≠ []
theorem fm_range {α : Type} (l : List α) : (List.range l.length).filterMap (fun k => l[k]?) = l := by
  induction l with
  | nil => rfl
  | cons a l ih =>
    rw [List.length_cons, List.range_succ_eq_map, List.filterMap_cons]
    simp only [List.getElem?_cons_zero, List.filterMap_map]
    exact congrArg _ ih
theorem selK_sub {h : Hd} {ix : List Nat} {ks : List (List T)} (hs : h.isOpn = true → ix.Sublist (List.range ks.length)) : (selK h ix ks).Sublist ks := by
  unfold selK
  split
  · rename_i q
    have := (hs q).filterMap fun k => ks[k]?
    rwa [fm_range] at this
  · exact List.Sublist.refl _
theorem fm_len {α : Type} {l : List α} : ∀ {ix : List Nat}, (∀ k ∈ ix, k < l.length) → (ix.filterMap fun k => l[k]?).length = ix.length
  | [], _ => rfl
  | k :: ix, h => by
    have hk := h k (List.mem_cons_self ..)
    rw [List.filterMap_cons, List.getElem?_eq_getElem hk]
    simp [fm_len fun j hj => h j (List.mem_cons_of_mem _ hj)]
theorem bbThr_mem {ks : List (List T)} : bbThr ks = true ↔ ∃ b ∈ ks, bThr b = true := by
  rw [bbThr_any]
  simp
theorem bbLv_mem {ks : List (List T)} : bbLv ks = true ↔ ∃ b ∈ ks, bLv b = true := by
  rw [bbLv_any]
  simp
theorem ed_mem {ch : Ch} {path : List Int} {h : Hd} {ks : List (List T)} {b : List T} {ix : List Nat} (hs : h.isOpn = true → ix.Sublist (List.range ks.length)) (hb : b ∈ selK h ix (bbEd ch path 0 ks)) : ∃ (j : Nat) (c : List T), ks[j]? = some c ∧ b = bEd ch (path ++ [(j : Int)]) 0 c := by
  have hm := (selK_sub (fun q => by rw [bbEd_len]; exact hs q)).subset hb
  obtain ⟨j, hj⟩ := List.mem_iff_getElem?.mp hm
  rw [bbEd_get, Nat.zero_add] at hj
  cases hc : ks[j]? with
  | none => rw [hc] at hj; cases hj
  | some c => rw [hc] at hj; exact ⟨j, c, hc, (Option.some.inj hj).symm⟩
/-- what is in the rows of a part -/
theorem bLst_sub {above : List Int} {ts : List T} {j : Nat} {t : T} (h : ts[j]? = some t) : ∀ r ∈ t.lst (above ++ [(j : Int)]), r ∈ bLst above 0 ts := by
  have : ∀ (ts : List T) (i j : Nat) (t : T), ts[j]? = some t → ∀ r ∈ t.lst (above ++ [((i + j : Nat) : Int)]), r ∈ bLst above i ts := by
    intro ts
    induction ts with
    | nil => intro i j t h; simp at h
    | cons u us ih =>
      intro i j t h r hr
      rw [bLst]
      cases j with
      | zero =>
        simp at h
        subst h
        exact List.mem_append.mpr (.inl (by simpa using hr))
      | succ j =>
        refine List.mem_append.mpr (.inr (ih (i + 1) j t (by simpa using h) r ?_))
        rw [show i + 1 + j = i + (j + 1) by omega]
        exact hr
  have q := this ts 0 j t h
  rw [Nat.zero_add] at q
  exact q
theorem bbLst_sub {path : List Int} {ks : List (List T)} {j : Nat} {b : List T} (h : ks[j]? = some b) : ∀ r ∈ bLst (path ++ [(j : Int)]) 0 b, r ∈ bbLst path 0 ks := by
  have : ∀ (ks : List (List T)) (i j : Nat) (b : List T), ks[j]? = some b → ∀ r ∈ bLst (path ++ [((i + j : Nat) : Int)]) 0 b, r ∈ bbLst path i ks := by
    intro ks
    induction ks with
    | nil => intro i j b h; simp at h
    | cons u us ih =>
      intro i j b h r hr
      rw [bbLst]
      cases j with
      | zero =>
        simp at h
        subst h
        exact List.mem_append.mpr (.inl (by simpa using hr))
      | succ j =>
        refine List.mem_append.mpr (.inr (ih (i + 1) j b (by simpa using h) r ?_))
        rw [show i + 1 + j = i + (j + 1) by omega]
        exact hr
  have q := this ks 0 j b h
  rw [Nat.zero_add] at q
  exact q
theorem ChOk.kid {ch : Ch} {path : List Int} {h : Hd} {ks : List (List T)} (c : ChOk ch ((T.mk h ks).lst path)) {j k : Nat} {b : List T} {t : T} (hb : ks[j]? = some b) (ht : b[k]? = some t) : ChOk ch (t.lst (path ++ [(j : Int)] ++ [(k : Int)])) := fun r hr => c r (by
  rw [T.lst]
  exact List.mem_cons_of_mem _ (bbLst_sub hb r (bLst_sub ht r hr)))
theorem ChOk.here {ch : Ch} {path : List Int} {h : Hd} {ks : List (List T)} (c : ChOk ch ((T.mk h ks).lst path)) (q : h.isOpn = true) : (ch path ks.length).Sublist (List.range ks.length) ∧ ch path ks.length ≠ [] := c (path, T.mk h ks) (by rw [T.lst]; exact List.mem_cons_self ..) q
/-! what an edit keeps -/
theorem blk_mono {ch : Ch} {above : List Int} {ts : List T} (h : ∀ (j : Nat) (t : T), ts[j]? = some t → ((t.ed ch (above ++ [(j : Int)])).thr = true → t.thr = true) ∧ ((t.ed ch (above ++ [(j : Int)])).lv = true → t.lv = true)) :
    (bThr (bEd ch above 0 ts) = true → bThr ts = true) ∧ (bLv (bEd ch above 0 ts) = true → bLv ts = true) := by
  have : ∀ (ts : List T) (i : Nat), (∀ (j : Nat) (t : T), ts[j]? = some t → ((t.ed ch (above ++ [((i + j : Nat) : Int)])).thr = true → t.thr = true) ∧ ((t.ed ch (above ++ [((i + j : Nat) : Int)])).lv = true → t.lv = true)) →
      (bThr (bEd ch above i ts) = true → bThr ts = true) ∧ (bLv (bEd ch above i ts) = true → bLv ts = true) := by
    intro ts
    induction ts with
    | nil => intro i _; exact ⟨id, id⟩
    | cons t ts ih =>
      intro i h
      have h0 := h 0 t rfl
      rw [Nat.add_zero] at h0
      have h1 := ih (i + 1) fun j u hu => by
        rw [show i + 1 + j = i + (j + 1) by omega]
        exact h (j + 1) u (by simpa using hu)
      simp only [bEd, bThr, bLv, Bool.and_eq_true, Bool.or_eq_true]
      exact ⟨fun ⟨a, b⟩ => ⟨h0.1 a, h1.1 b⟩, fun z => z.elim (fun z => .inl (h0.2 z)) fun ⟨a, b⟩ => .inr ⟨h0.1 a, h1.2 b⟩⟩
  exact this ts 0 fun j t ht => by rw [Nat.zero_add]; exact h j t ht
theorem ed_mono (ch : Ch) : ∀ (t : T) (path : List Int), ChOk ch (t.lst path) → ((t.ed ch path).thr = true → t.thr = true) ∧ ((t.ed ch path).lv = true → t.lv = true) := by
  intro t
  induction t using T.ind with
  | h hd ks ih =>
    intro path c
    have kid : ∀ b ∈ selK hd (ch path ks.length) (bbEd ch path 0 ks), ∃ c' ∈ ks, (bThr b = true → bThr c' = true) ∧ (bLv b = true → bLv c' = true) := by
      intro b hb
      obtain ⟨j, c', hc, rfl⟩ := ed_mem (fun q => (c.here q).1) hb
      have hm := List.mem_of_getElem? hc
      exact ⟨c', hm, blk_mono fun k t ht => ih c' hm t (List.mem_of_getElem? ht) _ (c.kid hc ht)⟩
    have hT : bbThr (selK hd (ch path ks.length) (bbEd ch path 0 ks)) = true → bbThr ks = true := fun z => by
      obtain ⟨b, hb, e⟩ := bbThr_mem.mp z
      obtain ⟨c', hc, q, _⟩ := kid b hb
      exact bbThr_mem.mpr ⟨c', hc, q e⟩
    have hL : bbLv (selK hd (ch path ks.length) (bbEd ch path 0 ks)) = true → bbLv ks = true := fun z => by
      obtain ⟨b, hb, e⟩ := bbLv_mem.mp z
      obtain ⟨c', hc, _, q⟩ := kid b hb
      exact bbLv_mem.mpr ⟨c', hc, q e⟩
    rw [T.ed]
    cases hd <;> simp only [T.thr, T.lv] <;> first | exact ⟨id, id⟩ | exact ⟨hT, hL⟩ | exact ⟨hL, id⟩
theorem ht_sub {ks ms : List (List T)} (h : ms.Sublist ks) : bbHt ms ≤ bbHt ks := bbHt_le fun b hb => bht_mem (h.subset hb)
theorem cnt_sub : ∀ {ks ms : List (List T)}, ms.Sublist ks → bbCnt ms ≤ bbCnt ks
  | _, _, .slnil => Nat.le_refl _
  | _, _, .cons a h => by have := cnt_sub h; simp only [bbCnt]; omega
  | _, _, .cons_cons a h => by have := cnt_sub h; simp only [bbCnt]; omega
theorem blk_ht {ch : Ch} {above : List Int} {ts : List T} (h : ∀ (j : Nat) (t : T), ts[j]? = some t → (t.ed ch (above ++ [(j : Int)])).ht ≤ t.ht ∧ (t.ed ch (above ++ [(j : Int)])).cnt ≤ t.cnt) : bHt (bEd ch above 0 ts) ≤ bHt ts ∧ bCnt (bEd ch above 0 ts) ≤ bCnt ts := by
  have : ∀ (ts : List T) (i : Nat), (∀ (j : Nat) (t : T), ts[j]? = some t → (t.ed ch (above ++ [((i + j : Nat) : Int)])).ht ≤ t.ht ∧ (t.ed ch (above ++ [((i + j : Nat) : Int)])).cnt ≤ t.cnt) → bHt (bEd ch above i ts) ≤ bHt ts ∧ bCnt (bEd ch above i ts) ≤ bCnt ts := by
    intro ts
    induction ts with
    | nil => intro i _; exact ⟨Nat.le_refl _, Nat.le_refl _⟩
    | cons t ts ih =>
      intro i h
      have h0 := h 0 t rfl
      rw [Nat.add_zero] at h0
      have h1 := ih (i + 1) fun j u hu => by
        rw [show i + 1 + j = i + (j + 1) by omega]
        exact h (j + 1) u (by simpa using hu)
      simp only [bEd, bHt, bCnt]
      omega
  exact this ts 0 fun j t ht => by rw [Nat.zero_add]; exact h j t ht
theorem bbEd_ht {ch : Ch} {path : List Int} {ks : List (List T)} (h : ∀ (j : Nat) (b : List T), ks[j]? = some b → bHt (bEd ch (path ++ [(j : Int)]) 0 b) ≤ bHt b ∧ bCnt (bEd ch (path ++ [(j : Int)]) 0 b) ≤ bCnt b) : bbHt (bbEd ch path 0 ks) ≤ bbHt ks ∧ bbCnt (bbEd ch path 0 ks) ≤ bbCnt ks := by
  have : ∀ (ks : List (List T)) (i : Nat), (∀ (j : Nat) (b : List T), ks[j]? = some b → bHt (bEd ch (path ++ [((i + j : Nat) : Int)]) 0 b) ≤ bHt b ∧ bCnt (bEd ch (path ++ [((i + j : Nat) : Int)]) 0 b) ≤ bCnt b) → bbHt (bbEd ch path i ks) ≤ bbHt ks ∧ bbCnt (bbEd ch path i ks) ≤ bbCnt ks := by
    intro ks
    induction ks with
    | nil => intro i _; exact ⟨Nat.le_refl _, Nat.le_refl _⟩
    | cons t ts ih =>
      intro i h
      have h0 := h 0 t rfl
      rw [Nat.add_zero] at h0
      have h1 := ih (i + 1) fun j u hu => by
        rw [show i + 1 + j = i + (j + 1) by omega]
        exact h (j + 1) u (by simpa using hu)
      simp only [bbEd, bbHt, bbCnt]
      omega
  exact this ks 0 fun j t ht => by rw [Nat.zero_add]; exact h j t ht
theorem ed_ht (ch : Ch) : ∀ (t : T) (path : List Int), ChOk ch (t.lst path) → (t.ed ch path).ht ≤ t.ht ∧ (t.ed ch path).cnt ≤ t.cnt := by
  intro t
  induction t using T.ind with
  | h hd ks ih =>
    intro path c
    have h1 : (selK hd (ch path ks.length) (bbEd ch path 0 ks)).Sublist (bbEd ch path 0 ks) := selK_sub fun q => by rw [bbEd_len]; exact (c.here q).1
    have h2 := bbEd_ht (ch := ch) (path := path) (ks := ks) fun j b hb => blk_ht fun k t ht => ih b (List.mem_of_getElem? hb) t (List.mem_of_getElem? ht) _ (c.kid hb ht)
    have h3 := ht_sub h1
    have h4 := cnt_sub h1
    rw [T.ed]
    simp only [T.ht, T.cnt]
    omega
theorem okH_ed {ch : Ch} {path : List Int} {h : Hd} {ks : List (List T)} (o : okH h ks) (c : h.isOpn = true → (ch path ks.length).Sublist (List.range ks.length) ∧ ch path ks.length ≠ []) : okH h (selK h (ch path ks.length) (bbEd ch path 0 ks)) := by
  have nn : ∀ {ks : List (List T)}, ks = [] → bbEd ch path 0 ks = [] := fun e => by rw [e]; rfl
  cases h with
  | opn =>
    obtain ⟨h1, h2⟩ := c rfl
    have hl : (selK .opn (ch path ks.length) (bbEd ch path 0 ks)).length = (ch path ks.length).length := by
      unfold selK
      rw [if_pos (show Hd.opn.isOpn = true from rfl)]
      exact fm_len fun k hk => by rw [bbEd_len]; exact List.mem_range.mp (h1.subset hk)
    have h3 := h1.length_le
    rw [List.length_range] at h3
    have h4 : 1 ≤ (ch path ks.length).length := List.length_pos_iff.mpr h2
    exact ⟨by rw [hl]; exact h4, by rw [hl]; have := o.2; omega⟩
  | wait rows => exact ⟨by show _ = (bbEd ch path 0 ks).length; rw [bbEd_len]; exact o.1, by show 1 ≤ (bbEd ch path 0 ks).length ∧ (bbEd ch path 0 ks).length ≤ 4; rw [bbEd_len]; exact o.2.1, o.2.2⟩
  | iff e => exact ⟨o.1, by show (bbEd ch path 0 ks).length = 2; rw [bbEd_len]; exact o.2⟩
  | rep => show (bbEd ch path 0 ks).length = 1; rw [bbEd_len]; exact o
  | set x e => exact ⟨o.1, nn o.2⟩
  | tell x e => exact ⟨o.1, nn o.2⟩
  | hear p x => exact ⟨o.1, nn o.2⟩
  | leave => exact nn o
  | home => exact nn o
  | fail => exact nn o
theorem ed_ok (ch : Ch) : ∀ (t : T) (path : List Int) (lp : Bool), ChOk ch (t.lst path) → T.Ok lp t → T.Ok lp (t.ed ch path) := by
  intro t
  induction t using T.ind with
  | h hd ks ih =>
    intro path lp c o
    obtain ⟨oh, o12, oall, olv, orep⟩ := o.inv
    rw [T.ed]
    refine .mk (okH_ed oh c.here) (fun b hb => ?_) (fun b hb t ht => ?_) olv fun hr b hb => ?_
    · obtain ⟨j, c', hc, rfl⟩ := ed_mem (fun q => (c.here q).1) hb
      rw [bEd_len]
      exact o12 c' (List.mem_of_getElem? hc)
    · obtain ⟨j, c', hc, rfl⟩ := ed_mem (fun q => (c.here q).1) hb
      obtain ⟨k, hk⟩ := List.mem_iff_getElem?.mp ht
      rw [bEd_get, Nat.zero_add] at hk
      cases hu : c'[k]? with
      | none => rw [hu] at hk; cases hk
      | some u =>
        rw [hu] at hk
        obtain rfl := Option.some.inj hk
        have hm := List.mem_of_getElem? hc
        exact ih c' hm u (List.mem_of_getElem? hu) _ _ (c.kid hc hu) (oall c' hm u (List.mem_of_getElem? hu))
    · obtain ⟨j, c', hc, rfl⟩ := ed_mem (fun q => (c.here q).1) hb
      have hm := List.mem_of_getElem? hc
      have h1 := orep hr c' hm
      cases q : bThr (bEd ch (path ++ [(j : Int)]) 0 c') with
      | false => rfl
      | true => exact absurd ((blk_mono fun k t ht => ed_mono ch t _ (c.kid hc ht)).1 q) (by rw [h1]; decide)
theorem bEd_ok {ch : Ch} {b : List T} (o : BOk b) (c : ChOk ch (bLst [] 0 b)) : BOk (bEd ch [] 0 b) := by
  have cc : ∀ (j : Nat) (t : T), b[j]? = some t → ChOk ch (t.lst ([] ++ [(j : Int)])) := fun j t ht r hr => c r (bLst_sub ht r hr)
  have h := blk_ht (ch := ch) (above := []) (ts := b) fun j t ht => ed_ht ch t _ (cc j t ht)
  refine ⟨by rw [bEd_len]; exact o.len, fun t ht => ?_, by have := o.ht; omega, by have := o.cnt; omega⟩
  obtain ⟨k, hk⟩ := List.mem_iff_getElem?.mp ht
  rw [bEd_get, Nat.zero_add] at hk
  cases hu : b[k]? with
  | none => rw [hu] at hk; cases hk
  | some u =>
    rw [hu] at hk
    obtain rfl := Option.some.inj hk
    exact ed_ok ch u _ _ (cc k u hu) (o.all u (List.mem_of_getElem? hu))
end Oh
set_option maxHeartbeats 4000000
namespace Oh
open PySem PySem.Spec PyProof.Rows L2
open C8 (Cal Met Mak pe_c pe_mk pe_mt pe_mt0 pe_gc InsC call_isC tCut pss_cut fnBody fnArgs fnScope)
section
variable {P : Program} {w : World} {K : PySem.W.Frag} {mg : Str → Option Value} {base : Heap} {te tb ta tc : TE} {σ : L2.St} {H H' : Hp} {E : XK} {ds es : List PyData} {CR f : Addr} {CP : Hp → Prop} {ch : Ch} {Dm : List Int → Nat → Prop}
/-- the choice, as the program gets it: f, a function made on the way; CP what it needs of the heap; Dm where it answers -/
def spCh (CP : Hp → Prop) (ch : Ch) (Dm : List Int → Nat → Prop) : Sp := fun vs H Q _ => CP H ∧ ∃ pa p, ∃ n : Nat, vs = [.ref pa, .int (n : Nat)] ∧ H pa = some (.tup (p.map V.int)) ∧ Dm p n ∧ ∀ l H', H l = none → Same H H' → H' l = some (.lst ((ch p n).map fun (k : Nat) => V.int (k : Int))) → Q (.ref l) H'
def DmOk (Dm : List Int → Nat → Prop) (rows : List (List Int × T)) : Prop := ∀ r ∈ rows, r.2.isOpn = true → Dm r.1 r.2.kids.length
theorem DmOk.kid {path : List Int} {h : Hd} {ks : List (List T)} (c : DmOk Dm ((T.mk h ks).lst path)) {j : Nat} {b : List T} (hb : ks[j]? = some b) : DmOk Dm (bLst (path ++ [(j : Int)]) 0 b) := fun r hr => c r (by rw [T.lst]; exact List.mem_cons_of_mem _ (bbLst_sub hb r hr))
theorem ChOk.kidB {path : List Int} {h : Hd} {ks : List (List T)} (c : ChOk ch ((T.mk h ks).lst path)) {j : Nat} {b : List T} (hb : ks[j]? = some b) : ChOk ch (bLst (path ++ [(j : Int)]) 0 b) := fun r hr => c r (by rw [T.lst]; exact List.mem_cons_of_mem _ (bbLst_sub hb r hr))
def spEB (K : PySem.W.Frag) (f : Addr) (CP : Hp → Prop) (ch : Ch) (Dm : List Int → Nat → Prop) (n : Nat) : Sp := fun vs H Q _ => ∃ v b av, ∃ ns : List Int, ∃ lp, vs = [v, av, .ref f] ∧ CP H ∧ (b.length ≤ 12 ∧ ∀ t ∈ b, T.Ok lp t) ∧ bHt b + 1 ≤ n ∧ Td K H v (blkD b) ∧ (Td K H av (.tuple (ns.map .int)) ∧ ns.length + 2 * n ≤ 100) ∧
  (ChOk ch (bLst ns 0 b) ∧ DmOk Dm (bLst ns 0 b)) ∧ ∀ v H', Same H H' → Td K H' v (blkD (bEd ch ns 0 b)) → Q v H'
def spES (K : PySem.W.Frag) (f : Addr) (CP : Hp → Prop) (ch : Ch) (Dm : List Int → Nat → Prop) (n : Nat) : Sp := fun vs H Q _ => ∃ v h ks pv path lp, vs = [v, pv, .ref f] ∧ CP H ∧ T.Ok lp (.mk h ks) ∧ (T.mk h ks).ht + 1 ≤ n ∧ Td K H v (T.mk h ks).d ∧ (PthAt H pv path ∧ path.length + 2 * n ≤ 101) ∧
  (ChOk ch ((T.mk h ks).lst path) ∧ DmOk Dm ((T.mk h ks).lst path)) ∧ ∀ v H', Same H H' → Td K H' v ((T.mk h ks).ed ch path).d → Q v H'
def spEO (K : PySem.W.Frag) (f : Addr) (CP : Hp → Prop) (ch : Ch) (Dm : List Int → Nat → Prop) (n : Nat) : Sp := fun vs H Q _ => ∃ v ks pv path lp, vs = [v, pv, .ref f] ∧ CP H ∧ (∀ b ∈ ks, b.length ≤ 12 ∧ ∀ t ∈ b, T.Ok lp t) ∧ (∀ b ∈ ks, bHt b + 1 ≤ n) ∧ ks.length ≤ 4 ∧ Td K H v (.tuple (bbd ks)) ∧ (PthAt H pv path ∧ path.length + 1 + 2 * n ≤ 100) ∧
  (ChOk ch ((T.mk .opn ks).lst path) ∧ DmOk Dm ((T.mk .opn ks).lst path)) ∧ ∀ v H', Same H H' → Td K H' v (.tuple (bbd (selK .opn (ch path ks.length) (bbEd ch path 0 ks)))) → Q v H'
def spER (K : PySem.W.Frag) (f : Addr) (CP : Hp → Prop) (ch : Ch) (Dm : List Int → Nat → Prop) (n : Nat) : Sp := fun vs H Q _ => ∃ v rs ks pv path lp, vs = [v, pv, .ref f] ∧ CP H ∧ (∀ b ∈ ks, b.length ≤ 12 ∧ ∀ t ∈ b, T.Ok lp t) ∧ (∀ b ∈ ks, bHt b + 1 ≤ n) ∧ (rs.length = ks.length ∧ ks.length ≤ 4) ∧ Td K H v (.tuple (rowsD rs (bbd ks))) ∧ (PthAt H pv path ∧ path.length + 1 + 2 * n ≤ 100) ∧
  (ChOk ch ((T.mk (.wait rs) ks).lst path) ∧ DmOk Dm ((T.mk (.wait rs) ks).lst path)) ∧ ∀ v H', Same H H' → Td K H' v (.tuple (rowsD rs (bbd (bbEd ch path 0 ks)))) → Q v H'
theorem pth_evd {i : Nat} {v : V} {p : List Int} (h : σ[i]? = some (some v)) (hp : PthAt H v p) : EvD F0 K (tVar i) σ H (.tuple (p.map .int)) := evd_var trivial h (pth_td (F := F0) (by obtain ⟨a, h1, h2⟩ := hp; exact ⟨a, h1, h2⟩))
theorem ev_eb {n : Nat} {b : List T} {ns : List Int} {lp : Bool} (st : ∀ H H', Same H H' → CP H → CP H') (h : EvD F0 K te σ H (blkD b)) (ha : EvD F0 K ta σ H (.tuple (ns.map .int))) (hc : EvV F0 tc σ H (.ref f)) (cp : CP H) (ok : b.length ≤ 12 ∧ ∀ t ∈ b, T.Ok lp t) (hn : bHt b + 1 ≤ n) (hl : ns.length + 2 * n ≤ 100) (c : ChOk ch (bLst ns 0 b) ∧ DmOk Dm (bLst ns 0 b)) :
    EvD F0 K (tCall (spEB K f CP ch Dm n) [] E (tCons te (tCons ta (tCons tc tNil)))) σ H (blkD (bEd ch ns 0 b)) :=
  ev_call (ea_cons h (ea_cons ha (ea_cons hc ea_nil))) fun vs H1 e1 p Q q => by
    match vs, p with
    | [x, y, z], ⟨⟨d0, e0, p0⟩, ⟨d1, e1', p1⟩, p2, _⟩ =>
      subst e0
      subst e1'
      exact ⟨x, b, y, ns, lp, by rw [show z = V.ref f from p2]; rfl, st _ _ e1.same cp, ok, hn, p0, ⟨p1, hl⟩, c, fun v H' e td => q _ _ (.of e1.good e) ⟨_, rfl, td⟩⟩
theorem ev_es {n : Nat} {h : Hd} {ks : List (List T)} {path : List Int} {lp : Bool} (st : ∀ H H', Same H H' → CP H → CP H') (hh : EvD F0 K te σ H (T.mk h ks).d) (ha : Ev F0 ta σ H (.pth path)) (hc : EvV F0 tc σ H (.ref f)) (cp : CP H) (ok : T.Ok lp (.mk h ks)) (hn : (T.mk h ks).ht + 1 ≤ n) (hl : path.length + 2 * n ≤ 101) (c : ChOk ch ((T.mk h ks).lst path) ∧ DmOk Dm ((T.mk h ks).lst path)) :
    EvD F0 K (tCall (spES K f CP ch Dm n) [] E (tCons te (tCons ta (tCons tc tNil)))) σ H ((T.mk h ks).ed ch path).d :=
  ev_call (ea_cons hh (ea_cons ha (ea_cons hc ea_nil))) fun vs H1 e1 p Q q => by
    match vs, p with
    | [x, y, z], ⟨⟨d0, e0, p0⟩, ⟨pa, p1, p1'⟩, p2, _⟩ =>
      subst e0
      exact ⟨x, h, ks, y, path, lp, by rw [show z = V.ref f from p2]; rfl, st _ _ e1.same cp, ok, hn, p0, ⟨⟨pa, p1, p1'⟩, hl⟩, c, fun v H' e td => q _ _ (.of e1.good e) ⟨_, rfl, td⟩⟩
/-- tuple(l) of a new list of data -/
theorem ev_tupleL {H0 : Hp} {φ : List PyData → Prop} (h : Ev F0 te σ H (.nls K H0 φ)) : Ev F0 (tCB (fun xs H Q => ∃ p ys, xs = [.ref p] ∧ ((SqL K H p ys ∧ ∀ l, H l = none → Q (.ref l) (upd H l (.tup ys))) ∨ (SqT K H p ys ∧ Q (.ref p) H))) (tCons te tNil)) σ H (.dt K fun d => ∃ ds, φ ds ∧ d = .tuple ds) := fun H1 e Q q =>
  h H1 e _ fun v H2 e2 ⟨a, xs, ds, ev, _, hsp, hl, hx, hφ⟩ => by
    subst ev
    refine ⟨a, xs, rfl, .inl ⟨.of hl, fun l hl' => ?_⟩⟩
    have en : F0.L H2 (upd H2 l (.tup xs)) := .new trivial hl'
    exact q _ _ (e2.trans en) ⟨.tuple ds, ⟨ds, hφ, rfl⟩, .tup (.of upd_same) (hx.tl (en.tl trivial))⟩
theorem sc_edited_block : FnScope ["block", "above", "choose", "at", "statement"] ["block", "above", "choose"] (fnScope s_edited_block) := ⟨rfl, rfl, rfl, by decide +kernel, rfl, by decide +kernel, by decide +kernel⟩
theorem eb_step (T : Tx w K mg) (st : ∀ H H', Same H H' → CP H → CP H') (m n : Nat) (c_edited_statement : Cal P w K mg base m "edited_statement" (spES K f CP ch Dm n) []) : Cal P w K mg base (m + 1) "edited_block" (spEB K f CP ch Dm n) [] := by
  refine T.d_edited_block.cal sc_edited_block (fun F => ⟨[], .nil, F.bindsN fun _ _ _ _ _ _ us hl => match us, hl with | [_, _, _], _ => rfl⟩) (by rintro vs H Q E ⟨v, _, _, _, _, rfl, _⟩; rfl) fun f' cdv A outer s H vs Q E hr h => ?_
  obtain ⟨v, b, av, ns, lp, rfl, cp, ok, hn, td, ⟨ta, hl⟩, ⟨c1, c2⟩, hQ⟩ := h
  refine ⟨_, (pss_one (ps_ret (pe_callTy call_tuple_of rfl T.z_tuple (by decide +kernel) (pa_cons (pe_lc (own := [("at", 3), ("statement", 4)]) (g := (gTup K 2 (gCons (gName 3) (gCons (gName 4) gNil)))) (tt := tYes) rfl sc_edited_block.nd (pi_enumT rfl T.z_enumerate (pa_cons (pv 0) pa_nil)) (blkOk_by (own := [("at", 3), ("statement", 4)]) (N := ["block", "above", "choose", "at", "statement"]) (sc := fnScope s_edited_block) (by decide +kernel)) (fun _ _ _ _ _ => (pg_tup rfl (pgs_cons (pg_name (i := 3) sc_edited_block.nd rfl (Or.inl rfl)) (pgs_cons (pg_name (i := 4) sc_edited_block.nd rfl (Or.inl rfl)) pgs_nil)))) (fun _ _ _ _ _ => pts_nil) (fun _ _ _ _ _ => (pe_c c_edited_statement hr (by omega) rfl (pa_cons (pv 4) (pa_cons (pe_op (r := rCatA K) op_catA (pv 1) (pe_tup (pa_cons (pv 3) pa_nil))) (pa_cons (pv 2) pa_nil)))))) pa_nil)))), ?_⟩
  refine run_go (R := .dt K (· = blkD (bEd ch ns 0 b))) ?_ (fun v H' e ⟨d, e0, p⟩ => hQ v H' e (e0 ▸ p))
  refine run_ret ((ev_tupleL (ev_lcE (by decide) (evd_var (d := blkD b) trivial rfl td) (by rw [bd_len]; have := ok.1; omega) (fun i d => (bd (bEd ch ns 0 b))[i]? = some d) ?_)).sub ?_)
  · intro i d x H2 hi e2 tx
    rw [bd_get] at hi
    cases hb : b[i]? with
    | none => rw [hb] at hi; cases hi
    | some t =>
      rw [hb] at hi
      obtain rfl : t.d = d := Option.some.inj hi
      have hm := List.mem_of_getElem? hb
      have hht := ht_mem hm
      obtain ⟨th, tk⟩ := t
      have e2 := e2.same
      refine (ev_es (n := n) st (h := th) (ks := tk) (lp := lp) (path := ns ++ [(i : Int)]) (evd_var (i := 4) trivial rfl tx) (ev_pth (F := F0) (K := K) (ns := ns) (m := (i : Nat)) (evd_var (i := 1) trivial rfl (ta.same e2)) (evv_var (i := 3) trivial rfl) (by omega)) (evv_var (i := 2) trivial rfl) (st _ _ e2 cp) (ok.2 _ hm) (by omega) (by simp; omega)
        ⟨fun r hr => c1 r (bLst_sub hb r hr), fun r hr => c2 r (bLst_sub hb r hr)⟩).sub fun v H3 _ ⟨d0, e0, p0⟩ => ⟨d0, ?_, p0⟩
      rw [bd_get, bEd_get, hb, Nat.zero_add]
      exact e0 ▸ rfl
  · rintro v H3 e3 ⟨d, ⟨es, ⟨g1, g2⟩, rfl⟩, p⟩
    refine ⟨_, ?_, p⟩
    show PyData.tuple es = .tuple (bd (bEd ch ns 0 b))
    rw [eq_of_gets (by rw [g1, bd_len, bd_len, bEd_len]) g2]
theorem sc_edited_open : FnScope ["blocks", "path", "choose", "kept", "k"] ["blocks", "path", "choose"] (fnScope s_edited_open) := ⟨rfl, rfl, rfl, by decide +kernel, rfl, by decide +kernel, by decide +kernel⟩
theorem eo_step (T : Tx w K mg) (st : ∀ H H', Same H H' → CP H → CP H') (m n : Nat) (hm : 9 ≤ m) (c_choose : CV P w K mg base 9 f (spCh CP ch Dm)) (c_edited_block : Cal P w K mg base m "edited_block" (spEB K f CP ch Dm n) []) : Cal P w K mg base (m + 1) "edited_open" (spEO K f CP ch Dm n) [] := by
  refine T.d_edited_open.cal sc_edited_open (fun F => ⟨[], .nil, F.bindsN fun _ _ _ _ _ _ us hl => match us, hl with | [_, _, _], _ => rfl⟩) (by rintro vs H Q E ⟨v, _, _, _, _, rfl, _⟩; rfl) fun f' cdv A outer s H vs Q E hr h => ?_
  obtain ⟨v, ks, pvv, path, lp, rfl, cp, ok, hn, hk4, td, ⟨hp, hl⟩, ⟨c1, c2⟩, hQ⟩ := h
  refine ⟨_, (pss_cons (ps_set (i := 3) sc_edited_open.nd rfl (Or.inl rfl) (pe_lst pa_nil))
    (pss_cons (ps_for PassesOwn.never rfl (pi_list (pe_choose (i := 2) c_choose hr (by omega) rfl (Or.inl rfl) (pa_cons (pv 1) (pa_cons (pe_callB (r := rLenQ K) call_len_seq rfl T.z_len PySem.boot_len (pa_cons (pv 0) pa_nil)) pa_nil)))) (pg_name (i := 4) sc_edited_open.nd rfl (Or.inl rfl))
      (pss_one (ps_expr (pe_bm PySem.F.plainAttrs_list PySem.F.slot_list_append PySem.F.type_list_append mt_append (pv 3) (pa_cons (pe_c c_edited_block hr (by omega) rfl (pa_cons (pe_ix (r := rIxT K) ix_tup (pv 0) (pv 4) (fun _ _ => rfl)) (pa_cons (pe_op (r := rCatA K) op_catA (pv 1) (pe_tup (pa_cons (pv 4) pa_nil))) (pa_cons (pv 2) pa_nil)))) pa_nil)))))
    (pss_one (ps_ret (pe_callTy call_tuple_of rfl T.z_tuple (by decide +kernel) (pa_cons (pv 3) pa_nil)))))), ?_⟩
  have hch := c1.here (h := .opn) rfl
  have hdm : Dm path ks.length := c2 (path, Oh.T.mk .opn ks) (by rw [Oh.T.lst]; exact List.mem_cons_self ..) rfl
  have hlt : ∀ k ∈ ch path ks.length, k < ks.length := fun k hk => List.mem_range.mp (hch.1.subset hk)
  have hcl : (ch path ks.length).length ≤ 4 := by have := hch.1.length_le; rw [List.length_range] at this; omega
  refine ⟨by decide, fun l hl' => ?_⟩
  have e1 := same_new (o := .lst []) hl'
  obtain ⟨pa, rfl, hpa⟩ := hp
  have hlen : EvV F0 (tCB (rLenQ K) (tCons (tVar 0) tNil)) ((L2.start ["blocks", "path", "choose", "kept", "k"] [v, .ref pa, .ref f]).set 3 (some (.ref l))) (upd H l (.lst [])) (.int (ks.length : Nat)) := evv_is (evv_len (evd_var (d := .tuple (bbd ks)) trivial rfl (td.same e1))) (by rw [bbd_len])
  refine ⟨rfl, .ref pa, rfl, hlen _ (.refl trivial) _ fun nv H2 e2 pn => ?_⟩
  rw [show nv = V.int (ks.length : Nat) from pn]
  have hl2 : H2 l = some (.lst []) := e2.same _ _ upd_same
  have e2 := e1.trans e2.same
  refine ⟨st _ _ e2 cp, pa, path, ks.length, rfl, e2 _ _ hpa, hdm, fun q H3 hq e3 hq3 => ?_⟩
  have hll : H3 l = some (.lst []) := e3 _ _ hl2
  have e3 := e2.trans e3
  have hql : q ≠ l := fun z => by
    rw [z, hl2] at hq
    cases hq
  refine ⟨q, rfl, ⟨_, .of hq3⟩, for_it (walk_list (K := K) (a := q) (xs := (ch path ks.length).map fun (k : Nat) => V.int (k : Int))) (fun i σ H4 => Same H H4 ∧ H4 q = some (.lst ((ch path ks.length).map fun (k : Nat) => V.int (k : Int))) ∧ (σ.length = 5 ∧ σ[0]? = some (some v) ∧ σ[1]? = some (some (.ref pa)) ∧ σ[2]? = some (some (.ref f)) ∧ σ[3]? = some (some (.ref l))) ∧
      ∃ ys, H4 l = some (.lst ys) ∧ TdA K H4 ys (bbd (((ch path ks.length).take i).filterMap fun k => (bbEd ch path 0 ks)[k]?)))
    ⟨e3, hq3, ⟨rfl, rfl, rfl, rfl, rfl⟩, [], hll, .nil⟩ (fun i σ H4 _ z => .of z.2.1) ?_ ?_⟩
  · rintro i x σ H4 H5 hi ⟨e4, hq4, ⟨hσ, s0, s1, s2, s3⟩, ys, hl4, hys⟩ ⟨rfl, hxi⟩
    rw [List.getElem?_map] at hxi
    cases hk : (ch path ks.length)[i]? with
    | none => rw [hk] at hxi; cases hxi
    | some k =>
      rw [hk] at hxi
      obtain rfl : V.int (k : Int) = x := Option.some.inj hxi
      have hkl := hlt k (List.mem_of_getElem? hk)
      have hkk : ks[k]? = some ks[k] := List.getElem?_eq_getElem hkl
      have hkm : ks[k] ∈ ks := List.getElem_mem hkl
      refine ⟨.ref l, by simpa using s3, .inl ⟨rfl, _, .of hl4⟩, ?_⟩
      have hblk : EvD F0 K (tOp (rIxT K) (tVar 0) (tVar 4)) (σ.set 4 (some (.int (k : Int)))) H5 (blkD ks[k]) := evd_ix trivial (evd_var (d := .tuple (bbd ks)) trivial (by simpa using s0) (td.same e4)) (evv_var (v := .int (k : Int)) trivial (by simp [hσ])) (atI_nat (by rw [bbd_get, hkk]; rfl))
      refine ev_eb (n := n) (b := ks[k]) (ns := path ++ [(k : Int)]) (lp := lp) st hblk ((ev_pth (F := F0) (K := K) (ns := path) (m := (k : Nat)) (pth_evd (i := 1) (by simpa using s1) ⟨pa, rfl, e4 _ _ hpa⟩) (evv_var (i := 4) trivial (by simp [hσ])) (by omega)).sub fun v H' _ hv => ⟨_, rfl, pth_td hv⟩) (evv_var (v := .ref f) trivial (by simpa using s2)) (st _ _ e4 cp) (ok _ hkm) (hn _ hkm) (by simp; omega) ⟨c1.kidB hkk, c2.kid hkk⟩ H5 (.refl trivial) _ fun u H6 e6 ⟨d0, e0, p0⟩ => ?_
      subst e0
      have e6 := e6.same
      have hl6 := e6 _ _ hl4
      have hylen : ys.length ≤ 4 := by
        rw [hys.len, bbd_len]
        refine Nat.le_trans (List.length_filterMap_le _ _) ?_
        rw [List.length_take]
        omega
      refine ⟨l, ys, u, rfl, rfl, hl6, lt_sl (by omega), ?_⟩
      refine ⟨Same.late (e4.trans e6) hl', by rw [upd_ne hql]; exact e6 _ _ hq4, ⟨by simp [hσ], by simpa using s0, by simpa using s1, by simpa using s2, by simpa using s3⟩, ys ++ [u], upd_same, ?_⟩
      have hg : bbd (((ch path ks.length).take (i + 1)).filterMap fun k => (bbEd ch path 0 ks)[k]?) = bbd (((ch path ks.length).take i).filterMap fun k => (bbEd ch path 0 ks)[k]?) ++ [blkD (bEd ch (path ++ [(k : Int)]) 0 ks[k])] := by
        rw [List.take_add_one, hk, List.filterMap_append, bbd_eq, bbd_eq, List.map_append]
        simp [bbEd_get, hkk]
      rw [hg]
      exact (((hys.same e6).snoc p0).tl (tl_upd hl6))
  · rintro σ H4 ⟨e4, hq4, ⟨hσ, s0, s1, s2, s3⟩, ys, hl4, hys⟩
    rw [List.length_map, List.take_length] at hys
    refine ⟨.ref l, s3, l, ys, rfl, .inl ⟨.of hl4, fun r hr' => ?_⟩⟩
    refine hQ _ _ (e4.trans (same_new hr')) (.tup (.of upd_same) ?_)
    have : selK .opn (ch path ks.length) (bbEd ch path 0 ks) = (ch path ks.length).filterMap fun k => (bbEd ch path 0 ks)[k]? := by
      unfold selK
      rw [if_pos (show Hd.opn.isOpn = true from rfl)]
    rw [this]
    exact hys.same (same_new hr')
theorem rowsD_snoc : ∀ (rs : List (Str × Str)) (ks : List PyData) (r : Str × Str) (k : PyData), rs.length = ks.length → rowsD (rs ++ [r]) (ks ++ [k]) = rowsD rs ks ++ [.tuple [.str r.1, .str r.2, k]]
  | [], [], r, k, _ => rfl
  | a :: rs, b :: ks, r, k, h => by rw [List.cons_append, List.cons_append, rowsD, rowsD_snoc rs ks r k (by simpa using h)]; rfl
  | [], _ :: _, _, _, h => by simp at h
  | _ :: _, [], _, _, h => by simp at h
theorem sc_edited_rows : FnScope ["rows", "path", "choose", "kept", "k", "port", "name", "block"] ["rows", "path", "choose"] (fnScope s_edited_rows) := ⟨rfl, rfl, rfl, by decide +kernel, rfl, by decide +kernel, by decide +kernel⟩
theorem er_step (T : Tx w K mg) (st : ∀ H H', Same H H' → CP H → CP H') (m n : Nat) (c_edited_block : Cal P w K mg base m "edited_block" (spEB K f CP ch Dm n) []) : Cal P w K mg base (m + 1) "edited_rows" (spER K f CP ch Dm n) [] := by
  refine T.d_edited_rows.cal sc_edited_rows (fun F => ⟨[], .nil, F.bindsN fun _ _ _ _ _ _ us hl => match us, hl with | [_, _, _], _ => rfl⟩) (by rintro vs H Q E ⟨v, _, _, _, _, _, rfl, _⟩; rfl) fun f' cdv A outer s H vs Q E hr h => ?_
  obtain ⟨v, rs, ks, pvv, path, lp, rfl, cp, ok, hn, ⟨hrk, hk4⟩, td, ⟨hp, hl⟩, ⟨c1, c2⟩, hQ⟩ := h
  refine ⟨_, (pss_cons (ps_set (i := 3) sc_edited_rows.nd rfl (Or.inl rfl) (pe_lst pa_nil))
    (pss_cons (ps_for PassesOwn.never rfl (pi_enumT rfl T.z_enumerate (pa_cons (pv 0) pa_nil)) (pg_tup rfl (pgs_cons (pg_name (i := 4) sc_edited_rows.nd rfl (Or.inl rfl)) (pgs_cons (pg_tup rfl (pgs_cons (pg_name (i := 5) sc_edited_rows.nd rfl (Or.inl rfl)) (pgs_cons (pg_name (i := 6) sc_edited_rows.nd rfl (Or.inl rfl)) (pgs_cons (pg_name (i := 7) sc_edited_rows.nd rfl (Or.inl rfl)) pgs_nil)))) pgs_nil)))
      (pss_one (ps_expr (pe_bm PySem.F.plainAttrs_list PySem.F.slot_list_append PySem.F.type_list_append mt_append (pv 3) (pa_cons (pe_tup (pa_cons (pv 5) (pa_cons (pv 6) (pa_cons (pe_c c_edited_block hr (by omega) rfl (pa_cons (pv 7) (pa_cons (pe_op (r := rCatA K) op_catA (pv 1) (pe_tup (pa_cons (pv 4) pa_nil))) (pa_cons (pv 2) pa_nil)))) pa_nil)))) pa_nil)))))
    (pss_one (ps_ret (pe_callTy call_tuple_of rfl T.z_tuple (by decide +kernel) (pa_cons (pv 3) pa_nil)))))), ?_⟩
  refine ⟨by decide, fun l hl' => ?_⟩
  have e1 := same_new (o := .lst []) hl'
  obtain ⟨a, xs, rfl, hs, hx⟩ := td.tupE
  obtain ⟨pa, rfl, hpa⟩ := hp
  have hdl : (rowsD rs (bbd ks)).length = ks.length := by rw [rowsD_len _ _ (by rw [bbd_len]; exact hrk), hrk]
  refine ⟨.ref a, rfl, a, xs, rfl, Same.sqt e1 hs, for_it (walk_enumT (K := K) (a := a) (xs := xs)) (fun i σ H4 => Same H H4 ∧ (σ.length = 8 ∧ σ[1]? = some (some (.ref pa)) ∧ σ[2]? = some (some (.ref f)) ∧ σ[3]? = some (some (.ref l))) ∧
      ∃ ys, H4 l = some (.lst ys) ∧ TdA K H4 ys (rowsD (rs.take i) ((bbd (bbEd ch path 0 ks)).take i)))
    ⟨e1, ⟨rfl, rfl, rfl, rfl⟩, [], upd_same, .nil⟩ (fun i σ H4 _ z => Same.sqt z.1 hs) ?_ ?_⟩
  · rintro i x σ H4 H5 hi ⟨e4, ⟨hσ, s1, s2, s3⟩, ys, hl4, hys⟩ ⟨Tp, y, z, rfl, hT, rfl, hy, hz⟩
    cases hy
    obtain ⟨d, hd, tz⟩ := hx.getV hz
    obtain ⟨r, k, hri, hki, rfl⟩ := rowsD_at (by rw [bbd_len]; exact hrk) hd
    rw [bbd_get] at hki
    cases hk : ks[i]? with
    | none => rw [hk] at hki; cases hki
    | some b =>
      rw [hk] at hki
      obtain rfl : blkD b = k := Option.some.inj hki
      have hkm := List.mem_of_getElem? hk
      have e5 := same_new (o := .tup [.int (i : Nat), z]) hT
      obtain ⟨ra, rx, rfl, hrs, hrx⟩ := (tz.same (e4.trans e5)).tupE
      cases hrx with
      | cons q1 hrx => cases hrx with
        | cons q2 hrx => cases hrx with
          | @cons bv _ _ _ q3 hrx =>
            cases hrx
            cases q1
            cases q2
            refine ⟨Tp, _, rfl, .of upd_same, rfl, .int (i : Nat), _, rfl, .ref ra, [], rfl, ra, _, rfl, hrs, rfl, .str r.1, _, rfl, .str r.2, _, rfl, bv, [], rfl, rfl, rfl, ?_⟩
            have hl5 := e5 _ _ hl4
            have e45 := e4.trans e5
            refine ⟨.ref l, by simpa using s3, .inl ⟨rfl, _, .of hl5⟩, .str r.1, by simp [hσ], .str r.2, by simp [hσ], ?_⟩
            refine ev_eb (n := n) (b := b) (ns := path ++ [(i : Int)]) (lp := lp) st (evd_var (i := 7) trivial (by simp [hσ]) q3) ((ev_pth (F := F0) (K := K) (ns := path) (m := (i : Nat)) (pth_evd (i := 1) (by simpa using s1) ⟨pa, rfl, e45 _ _ hpa⟩) (evv_var (i := 4) trivial (by simp [hσ])) (by omega)).sub fun v H' _ hv => ⟨_, rfl, pth_td hv⟩) (evv_var (i := 2) (v := .ref f) trivial (by simpa using s2)) (st _ _ e45 cp) (ok _ hkm) (hn _ hkm) (by simp; omega) ⟨c1.kidB hk, c2.kid hk⟩ _ (.refl trivial) _ fun u H6 e6 ⟨d0, e0, p0⟩ => ?_
            subst e0
            have e6 := e6.same
            refine ⟨(show 3 ≤ sizeLine by decide), fun c hc => ?_⟩
            have e7 := same_new (o := .tup [.str r.1, .str r.2, u]) hc
            have hl7 := e7 _ _ (e6 _ _ hl5)
            have hil : i < ks.length := (List.getElem?_eq_some_iff.mp hk).1
            have hylen : ys.length ≤ 4 := by
              rw [hys.len, rowsD_len _ _ (by rw [List.length_take, List.length_take, bbd_len, bbEd_len, hrk]), List.length_take]
              omega
            refine ⟨l, ys, .ref c, rfl, rfl, hl7, lt_sl (by omega), ?_⟩
            have hcl : c ≠ l := fun z => by rw [z, e6 _ _ hl5] at hc; cases hc
            refine ⟨Same.late (e45.trans (e6.trans e7)) hl', ⟨by simp [hσ], by simpa using s1, by simpa using s2, by simpa using s3⟩, ys ++ [.ref c], upd_same, ?_⟩
            have hbk : (bbd (bbEd ch path 0 ks)).take (i + 1) = (bbd (bbEd ch path 0 ks)).take i ++ [blkD (bEd ch (path ++ [(i : Int)]) 0 b)] := by
              rw [List.take_add_one, bbd_get, bbEd_get, hk, Nat.zero_add] <;> rfl
            have hrt : rs.take (i + 1) = rs.take i ++ [r] := by rw [List.take_add_one, hri] <;> rfl
            rw [hbk, hrt, rowsD_snoc _ _ _ _ (by rw [List.length_take, List.length_take, bbd_len, bbEd_len, hrk])]
            refine ((hys.same (e5.trans (e6.trans e7))).snoc ?_).tl (tl_upd hl7)
            exact .tup (.of upd_same) (.cons (.str _) (.cons (.str _) (.cons (p0.same e7) .nil)))
  · rintro σ H4 ⟨e4, ⟨hσ, s1, s2, s3⟩, ys, hl4, hys⟩
    have hxl : xs.length = ks.length := by rw [hx.len, hdl]
    rw [hxl, List.take_of_length_le (by omega), List.take_of_length_le (by rw [bbd_len, bbEd_len]; exact Nat.le_refl _)] at hys
    refine ⟨.ref l, s3, l, ys, rfl, .inl ⟨.of hl4, fun r hr' => ?_⟩⟩
    exact hQ _ _ (e4.trans (same_new hr')) (.tup (.of upd_same) (hys.same (same_new hr')))
theorem sc_edited_statement : FnScope ["statement", "path", "choose", "kind", "first", "second"] ["statement", "path", "choose"] (fnScope s_edited_statement) := ⟨rfl, rfl, rfl, by decide +kernel, rfl, by decide +kernel, by decide +kernel⟩
theorem es_step (T : Tx w K mg) (st : ∀ H H', Same H H' → CP H → CP H') (m n : Nat) (c_edited_block : Cal P w K mg base m "edited_block" (spEB K f CP ch Dm n) []) (c_edited_open : Cal P w K mg base m "edited_open" (spEO K f CP ch Dm n) []) (c_edited_rows : Cal P w K mg base m "edited_rows" (spER K f CP ch Dm n) []) :
    Cal P w K mg base (m + 1) "edited_statement" (spES K f CP ch Dm (n + 1)) [] := by
  refine T.d_edited_statement.cal sc_edited_statement (fun F => ⟨[], .nil, F.bindsN fun _ _ _ _ _ _ us hl => match us, hl with | [_, _, _], _ => rfl⟩) (by rintro vs H Q E ⟨v, _, _, _, _, _, rfl, _⟩; rfl) fun f' cdv A outer s H vs Q E hr h => ?_
  obtain ⟨v, h, ks, pvv, path, lp, rfl, cp, ok, hn, td, ⟨hp, hl⟩, ⟨c1, c2⟩, hQ⟩ := h
  refine ⟨_, (pss_cons (ps_set (i := 3) sc_edited_statement.nd rfl (Or.inl rfl) (pe_ix (r := rIxT K) ix_tup (pv 0) pe_int (fun _ _ => rfl)))
    (pss_cons (ps_if (pt_cmpR op_eq (pv 3) pe_str (nomark _))
      (pss_one (ps_ret (pe_tup (pa_cons pe_str (pa_cons (pe_c c_edited_open hr (by omega) rfl (pa_cons (pe_ix (r := rIxT K) ix_tup (pv 0) pe_int (fun _ _ => rfl)) (pa_cons (pv 1) (pa_cons (pv 2) pa_nil)))) pa_nil)))))
      pss_nil)
    (pss_cons (ps_if (pt_cmpR op_eq (pv 3) pe_str (nomark _))
      (pss_cons (ps_set (i := 4) sc_edited_statement.nd rfl (Or.inl rfl) (pe_c c_edited_block hr (by omega) rfl (pa_cons (pe_ix (r := rIxT K) ix_tup (pv 0) pe_int (fun _ _ => rfl)) (pa_cons (pe_op (r := rCatA K) op_catA (pv 1) (pe_tup (pa_cons pe_int pa_nil))) (pa_cons (pv 2) pa_nil)))))
      (pss_cons (ps_set (i := 5) sc_edited_statement.nd rfl (Or.inl rfl) (pe_c c_edited_block hr (by omega) rfl (pa_cons (pe_ix (r := rIxT K) ix_tup (pv 0) pe_int (fun _ _ => rfl)) (pa_cons (pe_op (r := rCatA K) op_catA (pv 1) (pe_tup (pa_cons pe_int pa_nil))) (pa_cons (pv 2) pa_nil)))))
      (pss_one (ps_ret (pe_tup (pa_cons pe_str (pa_cons (pe_ix (r := rIxT K) ix_tup (pv 0) pe_int (fun _ _ => rfl)) (pa_cons (pv 4) (pa_cons (pv 5) pa_nil)))))))))
      pss_nil)
    (pss_cons (ps_if (pt_cmpR op_eq (pv 3) pe_str (nomark _))
      (pss_one (ps_ret (pe_tup (pa_cons pe_str (pa_cons (pe_c c_edited_block hr (by omega) rfl (pa_cons (pe_ix (r := rIxT K) ix_tup (pv 0) pe_int (fun _ _ => rfl)) (pa_cons (pe_op (r := rCatA K) op_catA (pv 1) (pe_tup (pa_cons pe_int pa_nil))) (pa_cons (pv 2) pa_nil)))) pa_nil)))))
      pss_nil)
    (pss_cons (ps_if (pt_cmpR op_eq (pv 3) pe_str (nomark _))
      (pss_one (ps_ret (pe_tup (pa_cons pe_str (pa_cons (pe_c c_edited_rows hr (by omega) rfl (pa_cons (pe_ix (r := rIxT K) ix_tup (pv 0) pe_int (fun _ _ => rfl)) (pa_cons (pv 1) (pa_cons (pv 2) pa_nil)))) pa_nil)))))
      pss_nil)
    (pss_one (ps_ret (pv 0)))))))), ?_⟩
  refine run_go (R := .dt K (· = ((Oh.T.mk h ks).ed ch path).d)) ?_ (fun v H' e ⟨d, e0, p⟩ => hQ v H' e (e0 ▸ p))
  obtain ⟨oh, o12, oall, olv, orep⟩ := ok.inv
  have hkid : ∀ b ∈ ks, bHt b + 1 ≤ n := fun b hb => by have := bht_mem hb; have : (Oh.T.mk h ks).ht = bbHt ks := rfl; omega
  have kok : ∀ b ∈ ks, b.length ≤ 12 ∧ ∀ t ∈ b, Oh.T.Ok (lp || h.isRep) t := fun b hb => ⟨o12 b hb, oall b hb⟩
  obtain ⟨z, r, hd⟩ := hd_at0 (h := h) (ks := ks)
  have hv : ∀ {σ : L2.St} {H1 : Hp}, Same H H1 → σ[0]? = some (some v) → EvD F0 K (tVar 0) σ H1 (.tuple (.str z :: r)) := fun e h => evd_var trivial h (hd ▸ td.same e)
  have r0 : Same H H := fun _ _ h => h
  have hpp : ∀ {H1 : Hp}, Same H H1 → PthAt H1 pvv path := fun e => hp.same e
  have hz : ∀ {σ : L2.St}, σ[3]? = some (some (.str z)) → EvV F0 (tVar 3) σ H (.str z) := fun h => evv_var trivial h
  refine run_asgV (evd_s (evd_ix trivial (hv r0 rfl) (evv_c trivial) (atI_nat (j := 0) rfl))) ?_
  have no : ∀ {y : Str}, decide (V.str z = V.str y) = false → EvB F0 (tTest (tOp rEq (tVar 3) (tC (.str y)))) ((L2.start ["statement", "path", "choose", "kind", "first", "second"] [v, pvv, .ref f]).set 3 (some (.str z))) H false := fun h => evb_is (et_test (evv_eq (hz rfl) (evv_c trivial) rfl)) h
  have yes : EvB F0 (tTest (tOp rEq (tVar 3) (tC (.str z)))) ((L2.start ["statement", "path", "choose", "kind", "first", "second"] [v, pvv, .ref f]).set 3 (some (.str z))) H true := evb_is (et_test (evv_eq (hz rfl) (evv_c trivial) rfl)) (by simp)
  -- a block within: path + (k,)
  have blk : ∀ {σ : L2.St} {H1 : Hp} {te : TE} {b : List Oh.T} {k : Nat}, Same H H1 → σ[1]? = some (some pvv) → σ[2]? = some (some (.ref f)) → ks[k]? = some b → EvD F0 K te σ H1 (blkD b) →
      EvD F0 K (tCall (spEB K f CP ch Dm n) [] C8.E0 (tCons te (tCons (tOp (rCatA K) (tVar 1) (tTup (tCons (tC (.int (k : Int))) tNil))) (tCons (tVar 2) tNil)))) σ H1 (blkD (bEd ch (path ++ [(k : Int)]) 0 b)) := fun {σ H1 te b k} e s1 s2 hk hb =>
    ev_eb (lp := lp || h.isRep) st hb ((ev_pth (F := F0) (K := K) (ns := path) (m := (k : Nat)) (pth_evd (i := 1) s1 (hpp e)) (evv_c trivial) (by omega)).sub fun v H' _ hv => ⟨_, rfl, pth_td hv⟩) (evv_var trivial s2) (st _ _ e cp) (kok _ (List.mem_of_getElem? hk)) (hkid _ (List.mem_of_getElem? hk)) (by simp; omega) ⟨c1.kidB hk, c2.kid hk⟩
  have emp : h.isOpn = false → ks = [] → ((Oh.T.mk h ks).ed ch path).d = .tuple (.str z :: r) := fun ho e => by
    subst e
    rw [← hd, Oh.T.ed]
    cases h <;> first | rfl | cases ho
  have retv : h.isOpn = false → ks = [] → RunS F0 (tRet (tVar 0)) ((L2.start ["statement", "path", "choose", "kind", "first", "second"] [v, pvv, .ref f]).set 3 (some (.str z))) H (.dt K (· = ((Oh.T.mk h ks).ed ch path).d)) := fun ho e => by
    rw [emp ho e]
    exact run_ret (hv r0 rfl)
  cases h with
  | set x e => cases hd; exact run_whenF (no (by decide)) rfl (run_whenF (no (by decide)) rfl (run_whenF (no (by decide)) rfl (run_whenF (no (by decide)) rfl (retv rfl oh.2))))
  | tell x e => cases hd; exact run_whenF (no (by decide)) rfl (run_whenF (no (by decide)) rfl (run_whenF (no (by decide)) rfl (run_whenF (no (by decide)) rfl (retv rfl oh.2))))
  | hear x e => cases hd; exact run_whenF (no (by decide)) rfl (run_whenF (no (by decide)) rfl (run_whenF (no (by decide)) rfl (run_whenF (no (by decide)) rfl (retv rfl oh.2))))
  | leave => cases hd; exact run_whenF (no (by decide)) rfl (run_whenF (no (by decide)) rfl (run_whenF (no (by decide)) rfl (run_whenF (no (by decide)) rfl (retv rfl oh))))
  | home => cases hd; exact run_whenF (no (by decide)) rfl (run_whenF (no (by decide)) rfl (run_whenF (no (by decide)) rfl (run_whenF (no (by decide)) rfl (retv rfl oh))))
  | fail => cases hd; exact run_whenF (no (by decide)) rfl (run_whenF (no (by decide)) rfl (run_whenF (no (by decide)) rfl (run_whenF (no (by decide)) rfl (retv rfl oh))))
  | opn =>
    cases hd
    refine run_whenT yes rfl (run_ret (evd_tup (eda_cons (evd_str trivial) (eda_cons (d := .tuple (bbd (selK .opn (ch path ks.length) (bbEd ch path 0 ks)))) ?_ eda_nil)) (show 2 ≤ 100000 by decide)))
    exact ev_call (ea_cons (evd_ix (d := .tuple (bbd ks)) trivial (hv r0 rfl) (evv_c trivial) rfl) (ea_cons (evv_var (v := pvv) trivial rfl) (ea_cons (evv_var (v := .ref f) trivial rfl) ea_nil))) fun vs H1 e1 p Q q => by
      match vs, p with
      | [x, y, u], ⟨⟨d0, e0, p0⟩, p1, p2, _⟩ =>
        subst e0
        exact ⟨x, ks, pvv, path, _, by rw [show y = pvv from p1, show u = V.ref f from p2]; rfl, st _ _ e1.same cp, kok, hkid, oh.2, p0, ⟨hpp e1.same, by omega⟩, ⟨c1, c2⟩, fun v H' e td => q _ _ (.of0 e) ⟨_, rfl, td⟩⟩
  | iff e =>
    obtain ⟨a, b, rfl⟩ : ∃ a b, ks = [a, b] := match ks, (show ks.length = 2 from oh.2) with | [a, b], _ => ⟨a, b, rfl⟩
    cases hd
    refine run_whenF (no (by decide)) rfl (run_whenT yes rfl ?_)
    refine run_asg (T := .dt K (· = blkD (bEd ch (path ++ [((0 : Nat) : Int)]) 0 a))) (blk r0 rfl rfl rfl (evd_ix (d := blkD a) trivial (hv r0 rfl) (evv_c trivial) rfl)) fun v1 H1 e1 ⟨d1, e0, p1⟩ => ?_
    subst e0
    refine run_asg (T := .dt K (· = blkD (bEd ch (path ++ [((1 : Nat) : Int)]) 0 b))) (blk e1.same rfl rfl rfl (evd_ix (d := blkD b) trivial (hv e1.same rfl) (evv_c trivial) rfl)) fun v2 H2 e2 ⟨d2, e0, p2⟩ => ?_
    subst e0
    have e12 := e1.same.trans e2.same
    exact run_ret (evd_tup (eda_cons (evd_str trivial) (eda_cons (evd_ix (d := e.d) trivial (hv e12 rfl) (evv_c trivial) rfl) (eda_cons (evd_var trivial rfl (p1.same e2.same)) (eda_cons (evd_var trivial rfl p2) eda_nil)))) (show 4 ≤ 100000 by decide))
  | rep =>
    obtain ⟨a, rfl⟩ : ∃ a, ks = [a] := match ks, (show ks.length = 1 from oh) with | [a], _ => ⟨a, rfl⟩
    cases hd
    exact run_whenF (no (by decide)) rfl (run_whenF (no (by decide)) rfl (run_whenT yes rfl (run_ret (evd_tup (eda_cons (evd_str trivial) (eda_cons (blk (k := 0) r0 rfl rfl rfl (evd_ix (d := blkD a) trivial (hv r0 rfl) (evv_c trivial) rfl)) eda_nil)) (show 2 ≤ 100000 by decide)))))
  | wait rows =>
    obtain ⟨hrk, hk, hnm, hnd⟩ := oh
    cases hd
    refine run_whenF (no (by decide)) rfl (run_whenF (no (by decide)) rfl (run_whenF (no (by decide)) rfl (run_whenT yes rfl (run_ret (evd_tup (eda_cons (evd_str trivial) (eda_cons (d := .tuple (rowsD rows (bbd (bbEd ch path 0 ks)))) ?_ eda_nil)) (show 2 ≤ 100000 by decide))))))
    exact ev_call (ea_cons (evd_ix (d := .tuple (rowsD rows (bbd ks))) trivial (hv r0 rfl) (evv_c trivial) rfl) (ea_cons (evv_var (v := pvv) trivial rfl) (ea_cons (evv_var (v := .ref f) trivial rfl) ea_nil))) fun vs H1 e1 p Q q => by
      match vs, p with
      | [x, y, u], ⟨⟨d0, e0, p0⟩, p1, p2, _⟩ =>
        subst e0
        exact ⟨x, rows, ks, pvv, path, _, by rw [show y = pvv from p1, show u = V.ref f from p2]; rfl, st _ _ e1.same cp, kok, hkid, ⟨hrk, hk.2⟩, p0, ⟨hpp e1.same, by omega⟩, ⟨c1, c2⟩, fun v H' e td => q _ _ (.of0 e) ⟨_, rfl, td⟩⟩
theorem c_edited_block (T : Tx w K mg) (st : ∀ H H', Same H H' → CP H → CP H') (c_choose : CV P w K mg base 9 f (spCh CP ch Dm)) : ∀ n : Nat, Cal P w K mg base (3 * n + 10) "edited_block" (spEB K f CP ch Dm n) []
  | 0 => by
    have no : ∀ vs H Q E, ¬ spEB K f CP ch Dm 0 vs H Q E := fun vs H Q E ⟨v, b, _, _, _, _, _, _, h, _⟩ => by omega
    exact T.d_edited_block.cal sc_edited_block (fun F => ⟨[], .nil, F.bindsN fun _ _ _ _ _ _ us hl => match us, hl with | [_, _, _], _ => rfl⟩) (fun vs H Q E h => (no vs H Q E h).elim) fun _ _ _ _ _ _ _ _ _ _ h => (no _ _ _ _ h).elim
  | n + 1 => by
    have h0 := c_edited_block T st c_choose n
    have h1 := es_step T st (3 * n + 11) n (cal_mono h0 (by omega) fun _ _ _ _ h => h) (eo_step T st (3 * n + 10) n (by omega) c_choose h0) (er_step T st (3 * n + 10) n h0)
    exact eb_step T st _ _ h1
end
end Oh
set_option maxHeartbeats 4000000
namespace Oh
open PySem PySem.Spec PyProof.Rows L2
open C8 (Cal Met Mak pe_c pe_mk pe_mt pe_mt0 pe_gc InsC call_isC tCut pss_cut fnBody fnArgs fnScope)
open LamX NdefX
section
variable {P : Program} {w : World} {K : PySem.W.Frag} {mg : Str → Option Value} {base : Heap} {te tb ta tc : TE} {σ : L2.St} {H H' : Hp} {E : XK} {ds es : List PyData} {CR f : Addr} {CP : Hp → Prop} {ch : Ch} {Dm : List Int → Nat → Prop} {F : Fm}
theorem CV.mono {k : Nat} {sp sp' : Sp} (c : CV P w K mg base k f sp) (h : ∀ vs H Q E, sp' vs H Q E → sp vs H Q E) : CV P w K mg base k f sp' := ⟨c.fn, fun A outer s H us vs Q E hr e0 r hs => c.run A outer s H us vs Q E hr e0 r (h _ _ _ _ hs)⟩
/-- x.f, the field of an instance, told of its data -/
theorem evd_fld {i : Nat} {a C dx : Addr} {fs : List (Str × V)} {x : Str} {v : V} {d : PyData} (g : F.G H) (hs : σ[i]? = some (some (.ref a))) (ha : H a = some (.ins C dx fs)) (na : ¬ F.sp a) (hc : Cls K C) (hn : NoAttr K C x) (hv : fs.lookup x = some v) (td : Td K H v d) : EvD F K (tFld K (tVar i) x) σ H d := fun H1 e Q q =>
  ⟨.ref a, hs, a, C, dx, fs, v, rfl, e.1 _ _ ha na, hc, hn, hv, q _ _ (.refl e.good) ⟨d, rfl, td.tl (e.tl g)⟩⟩
/-- a new Routine of b -/
def NewR (K : PySem.W.Frag) (CR : Addr) (H' : Hp) (v : V) (b : List T) : Prop := ∃ a tb, v = .ref a ∧ RoutAt K CR H' a tb b
def spEd (K : PySem.W.Frag) (CR f : Addr) (CP : Hp → Prop) (ch : Ch) (Dm : List Int → Nat → Prop) : Sp := fun vs H Q _ => ∃ a tb b, vs = [.ref a, .ref f] ∧ RoutAt K CR H a tb b ∧ BOk b ∧ CP H ∧ (ChOk ch (bLst [] 0 b) ∧ DmOk Dm (bLst [] 0 b)) ∧ ∀ v H', Same H H' → NewR K CR H' v (bEd ch [] 0 b) → Q v H'
theorem sc_edited : FnScope ["routine", "choose"] ["routine", "choose"] (fnScope s_edited) := ⟨rfl, rfl, rfl, by decide +kernel, rfl, by decide +kernel, by decide +kernel⟩
theorem c_edited (T : Tx w K mg) (R : Rx w K mg CR) (st : ∀ H H', Same H H' → CP H → CP H') (c_choose : CV P w K mg base 9 f (spCh CP ch Dm)) : Cal P w K mg base 60 "edited" (spEd K CR f CP ch Dm) [] := by
  have c_edited_block := c_edited_block (P := P) (base := base) T st c_choose 16
  have C_Routine := m_Routine (P := P) (base := base) T R
  refine T.d_edited.cal sc_edited (fun F => ⟨[], .nil, F.bindsN fun _ _ _ _ _ _ us hl => match us, hl with | [_, _], _ => rfl⟩) (by rintro vs H Q E ⟨a, tb, b, rfl, _⟩; rfl) fun f' cdv A outer s H vs Q E hr h => ?_
  obtain ⟨a, tb, b, rfl, r, ok, cp, ⟨c1, c2⟩, hQ⟩ := h
  refine ⟨_, (pss_one (ps_ret (pe_mk C_Routine hr (by omega) rfl (pa_cons (pe_c c_edited_block hr (by omega) rfl (pa_cons (pe_fld (pv 0) rfl) (pa_cons (pe_tup pa_nil) (pa_cons (pv 1) pa_nil)))) pa_nil)))), ?_⟩
  obtain ⟨dx, v, nl, pl, kvs, q1, q2, q3, q4⟩ := r.ex
  refine run_go (R := .rout K CR (bEd ch [] 0 b)) (run_ret (ev_mkR ?_ (bEd_ok ok c1))) (fun v H' e ⟨a', tb', e0, _, _, rr⟩ => hQ v H' e ⟨a', tb', e0, rr⟩)
  refine ev_eb (lp := false) (n := 16) (ns := []) st (evd_fld trivial rfl q1 (fun z => z) R.ins.cl R.n_block rfl q2) (evd_tup (F := F0) eda_nil (by decide)) (evv_var trivial rfl) cp ⟨ok.len, ok.all⟩ ?_ (by decide) ⟨c1, c2⟩
  have := ok.ht
  omega
/-! ### with_picks: a lambda that reads the picks -/
/-- a def whose code object and table are known -/
structure HasC (K : PySem.W.Frag) (mg : Str → Option Value) (x : Str) (st : Stmt) (c : Addr) : Prop where
  ex : ∃ (f : Addr) (oc : Value) (od : Option Addr) (dV kV doc pm : Value) (an : Option Addr) (ct : Value) (osl : Array (Option Value)),
    K.lookup f = some ⟨oc, od, .func (PySem.W.fnOf x x (fnArgs st) (fnBody st) (fnScope st) dV kV doc pm an (.ref c) ct), osl⟩ ∧ PySem.W.codeIn K (.ref c) x = true ∧
    FunD K x x (fnArgs st) (fnBody st) (fnScope st) [] [] f (PySem.W.fnOf x x (fnArgs st) (fnBody st) (fnScope st) dV kV doc pm an (.ref c) ct) ∧ mg x = some (.ref f)
theorem HasC.cal {x : Str} {st : Stmt} {c : Addr} {dv : List V} {N ps : List Str} {k : Nat} {sp : Sp} (h : HasC K mg x st c) (S : FnScope N ps (fnScope st))
    (b : ∀ {f fd}, FunD K x x (fnArgs st) (fnBody st) (fnScope st) [] [] f fd → ∃ ds, Vals dv ds ∧ Binds K fd ps ds)
    (len : ∀ vs H Q E, sp vs H Q E → vs.length = ps.length)
    (hb : ∀ (f : Addr) (A : Around) (outer : List Env) (s : Shared) (H : Hp) (vs : List V) (Q : VK) (E : XK), Room k (A.deeper (envOfC x (fnScope st) s.heap.objs.size f (.ref c))) → sp vs H Q E →
      ∃ t, PSs (cxOf C8.CX0 P w K mg base N x (fnScope st) f (.ref c) A outer s H E).nox (fnBody st) t ∧ t { nx := fun _ H' => Q .non H', rt := Q } (L2.start N vs) H) : Cal P w K mg base (k + 1) x sp dv := by
  obtain ⟨f, oc, od, dV, kV, doc, pm, an, ct, osl, lk, hcd, F, hm⟩ := h.ex
  obtain ⟨ds, d, bd⟩ := b F
  refine ⟨f, _, ps, ds, fn_of lk hcd S len fun A outer s H vs Q E hr hsp => ?_, hm, F.kp, bd, d⟩
  obtain ⟨t, h1, h2⟩ := hb f A outer s H vs Q E hr hsp
  exact ⟨t, h1.nox, h2⟩
theorem extN_tl (e : ExtN H H') : TL H H' := fun a xs r => by
  rcases r with r | ⟨o, r⟩
  · exact .inl (e _ _ r fun ps z => by cases z)
  · exact .inr ⟨o, e _ _ r fun ps z => by cases z⟩
theorem RoutAt.extN {a tb : Addr} {b : List T} (r : RoutAt K CR H a tb b) (e : ExtN H H') : RoutAt K CR H' a tb b := by
  obtain ⟨dx, v, nl, pl, kvs, q1, q2, q3, q4⟩ := r.ex
  exact ⟨dx, v, nl, pl, kvs, e _ _ q1 (fun ps z => by cases z), q2.tl (extN_tl e), e _ _ q3 (fun ps z => by cases z), q4.tl (extN_tl e)⟩
abbrev lamQ : Str := Str.ofString "with_picks.<locals>.<lambda>"
/-- what the lambda needs: its code object, the picks -/
def CPk (c' pa : Addr) (kvs : List (List L2.Key × V)) (ws : List (Option V)) : Hp → Prop := fun H => (ws = [some (.ref pa)] ∧ H c' = some (CodeO c' lamQ)) ∧ H pa = some (.dT kvs)
def DmP (kvs : List (List L2.Key × V)) (pk : List Int → Nat) : List Int → Nat → Prop := fun p _ => valV kvs (pK p) = some (.int (pk p : Nat))
def chP (pk : List Int → Nat) : Ch := fun p _ => [pk p]
def spWP (K : PySem.W.Frag) (CR Pt : Addr) : Sp := fun vs H Q _ => ∃ a tb b pa kvs pk, vs = [.ref a, .ref pa] ∧ Tabs [(Pt, lamQ)] H ∧ RoutAt K CR H a tb b ∧ BOk b ∧ H pa = some (.dT kvs) ∧ (ChOk (chP pk) (bLst [] 0 b) ∧ DmOk (DmP kvs pk) (bLst [] 0 b)) ∧
  ∀ v H', ExtN H H' → Tabs [(Pt, lamQ)] H' → NewR K CR H' v (bEd (chP pk) [] 0 b) → Q v H'
theorem sc_with_picks : FnScope ["routine", "picks"] ["routine", "picks"] (fnScope s_with_picks) := ⟨rfl, rfl, rfl, by decide +kernel, rfl, by decide +kernel, by decide +kernel⟩
theorem c_with_picks {c Pt : Addr} (T : Tx w K mg) (R : Rx w K mg CR) (D : HasC K mg "with_picks" s_with_picks c) (TB : TabB base mg c Pt) : Cal P w K mg base 62 "with_picks" (spWP K CR Pt) [] := by
  refine D.cal sc_with_picks (fun F => ⟨[], .nil, F.bindsN fun _ _ _ _ _ _ us hl => match us, hl with | [_, _], _ => rfl⟩) (by rintro vs H Q E ⟨a, tb, b, pa, kvs, pk, rfl, _⟩; rfl) fun f' A outer s H vs Q E hr h => ?_
  obtain ⟨a, tb, b, pa, kvs, pk, rfl, tabs, r, ok, hpa, ⟨c1, c2⟩, hQ⟩ := h
  obtain ⟨fe, fde, FE, ge⟩ := T.d_edited.ex
  refine ⟨_, (pss_one (ps_ret (pe_lamSw (T := [(Pt, lamQ)]) (c := c) (P := Pt) (g := fe) (k := 60) (j := 61) (fr := ["picks"]) (js := [1]) (sp := fun f c' ws => spEd K CR f (CPk c' pa kvs ws) (chP pk) (DmP kvs pk)) rfl ge FE.kp (pv 0) TB rfl (List.mem_singleton.mpr rfl) (fun p hp _ => by rw [List.mem_singleton.mp hp]; rfl) rfl ?free (by decide) rfl hr (by omega) (fun _ => rfl) ?F))), ?_⟩
  case free =>
    intro y hy e
    rcases hy with _ | ⟨_, _ | ⟨_, _ | ⟨_, hy⟩⟩⟩
    · cases e
    · cases e
    · exact .inl rfl
    · cases hy
  case F =>
    intro f c' pm ctv ws base' hf C
    refine c_edited T R (fun H H' e h => ⟨⟨h.1.1, e _ _ h.1.2⟩, e _ _ h.2⟩) (CV.mono (sp := fun vs H Q E => H c' = some (CodeO c' lamQ) ∧ spCh (CPk c' pa kvs ws) (chP pk) (DmP kvs pk) vs H Q E) (cv_lam (N := ["path", "many", "picks"]) (ps := ["path", "many"]) hf (nscope_by (by decide +kernel)) C (fun us hl => match us, hl with | [_, _], _ => rfl) (by rintro vs H Q E ⟨_, _, _, _, rfl, _⟩; rfl) fun A outer s H vs Q E doc hr h => ?_) fun vs H Q E h => ⟨h.1.1.2, h⟩)
    obtain ⟨⟨⟨hws, hc⟩, hp⟩, x, p, n, rfl, hx, hd, hq⟩ := h
    refine ⟨_, pe_lst (pa_cons (pe_dget (hu1 hr) (pv 2) (pv 0) (fun _ _ => rfl)) pa_nil), ?_⟩
    subst hws
    have hg : DGet H pa (.ref x) (some (.int (pk p : Nat))) := by
      have := DGet.t (k := pK p) hp (by rw [pK_kV]; exact hx)
      rw [show valV kvs (pK p) = some (.int (pk p : Nat)) from hd] at this
      exact this
    exact ⟨.ref pa, rfl, .ref x, rfl, pa, .int (pk p : Nat), rfl, hg, (show 1 ≤ sizeLine by decide), fun l hl => hq l _ hl (same_new hl) upd_same⟩
  refine ⟨.ref a, rfl, tabs, fun f c' H2 eN t2 hc => ?_⟩
  have nt : ∀ {b o}, H b = some o → (∀ ps, o ≠ .tbl ps) → H2 b = some o := fun h n => eN _ _ h n
  have r2 : RoutAt K CR H2 a tb b := r.extN eN
  exact ⟨a, tb, b, rfl, r2, ok, ⟨⟨rfl, hc⟩, nt hpa (by simp)⟩, ⟨c1, c2⟩, fun v H' e hv => hQ v H' (eN.trans (.of e)) (t2.ext e) hv⟩
end
end Oh
set_option maxHeartbeats 4000000
namespace Oh
open PySem PySem.Spec PyProof.Rows L2
open C8 (Cal Met Mak pe_c pe_mk pe_mt pe_mt0 pe_gc InsC call_isC tCut pss_cut fnBody fnArgs fnScope)
open LamX NdefX
section
variable {P : Program} {w : World} {K : PySem.W.Frag} {mg : Str → Option Value} {base : Heap} {te tb ta tc : TE} {σ : L2.St} {H H' : Hp} {E : XK} {ds es : List PyData} {CR CPl : Addr} {F : Fm}
/-! ### names to routines -/
abbrev Mem := List (Str × List T)
structure MemOk (m : Mem) : Prop where
  ge : 2 ≤ m.length
  le : m.length ≤ 4
  nd : (m.map (·.1)).Nodup
  nm : ∀ p ∈ m, NameOk p.1
  bk : ∀ p ∈ m, BOk p.2
/-- the rows of the dict -/
def RowsR (K : PySem.W.Frag) (CR : Addr) (H : Hp) (kvs : List (L2.Key × V)) (m : Mem) : Prop := Paired (fun (kv : L2.Key × V) (p : Str × List T) => kv.1 = Sum.inr p.1 ∧ NewR K CR H kv.2 p.2) kvs m
def DictAt (K : PySem.W.Frag) (CR : Addr) (H : Hp) (d : Addr) (m : Mem) : Prop := ∃ kvs, H d = some (.dK kvs) ∧ RowsR K CR H kvs m
theorem NewR.same {v : V} {b : List T} (h : NewR K CR H v b) (e : Same H H') : NewR K CR H' v b := let ⟨a, tb, h1, h2⟩ := h; ⟨a, tb, h1, h2.same e⟩
theorem RowsR.same {kvs : List (L2.Key × V)} {m : Mem} (h : RowsR K CR H kvs m) (e : Same H H') : RowsR K CR H' kvs m := Paired.mapP h fun _ _ r => ⟨r.1, r.2.same e⟩
theorem DictAt.same {d : Addr} {m : Mem} (h : DictAt K CR H d m) (e : Same H H') : DictAt K CR H' d m := let ⟨kvs, h1, h2⟩ := h; ⟨kvs, e _ _ h1, h2.same e⟩
theorem RowsR.keys {kvs : List (L2.Key × V)} {m : Mem} (h : RowsR K CR H kvs m) : kvs.map (·.1) = m.map fun p => Sum.inr p.1 := by
  unfold RowsR at h
  induction h with
  | nil => rfl
  | cons r t ih => simp only [List.map_cons, ih, r.1]
theorem RowsR.len {kvs : List (L2.Key × V)} {m : Mem} (h : RowsR K CR H kvs m) : kvs.length = m.length := Paired.length h
theorem RowsR.get {kvs : List (L2.Key × V)} {m : Mem} (h : RowsR K CR H kvs m) (nd : (m.map (·.1)).Nodup) {x : Str} {b : List T} (hm : (x, b) ∈ m) : ∃ v, valV kvs (Sum.inr x) = some v ∧ NewR K CR H v b := by
  unfold RowsR at h
  induction h with
  | nil => cases hm
  | @cons kv r kvs m hr ht ih =>
    obtain ⟨n1, n2⟩ := List.nodup_cons.mp (show (r.1 :: m.map (·.1)).Nodup from nd)
    by_cases e : r.1 = x
    · have hrp : r = (x, b) := by
        rcases List.mem_cons.mp hm with z | z
        · exact z.symm
        · exact absurd (List.mem_map.mpr ⟨_, z, rfl⟩) (e ▸ n1)
      rw [hrp] at hr
      exact ⟨kv.2, valV_pos hr.1, hr.2⟩
    · have hm2 : (x, b) ∈ m := by
        rcases List.mem_cons.mp hm with z | z
        · exact absurd (congrArg Prod.fst z).symm e
        · exact z
      rw [valV_neg fun z => e (Sum.inr.inj (hr.1.symm.trans z))]
      exact ih n2 hm2
theorem keys_str {kvs : List (L2.Key × V)} {m : Mem} (h : RowsR K CR H kvs m) : kvs.map (fun kv => kV kv.1) = (m.map (·.1)).map V.str := by
  have := congrArg (List.map kV) h.keys
  simpa [Function.comp_def, kV] using this
def spCR (K : PySem.W.Frag) (CR : Addr) : Sp := fun vs H Q _ => ∃ d m, vs = [.ref d] ∧ DictAt K CR H d m ∧ MemOk m ∧ ∀ H', Same H H' → Q .non H'
theorem upd_back {H : Hp} {d : Addr} {u x : HO} (h : H d = some u) : upd (upd H d x) d u = H := by
  funext a
  unfold upd
  split
  · rename_i e; rw [e, h]
  · rfl
theorem sc_check_routines : FnScope ["routines", "name"] ["routines"] (fnScope s_check_routines) := ⟨rfl, rfl, rfl, by decide +kernel, rfl, by decide +kernel, by decide +kernel⟩
theorem c_check_routines (T : Tx w K mg) (R : Rx w K mg CR) : Cal P w K mg base 4 "check_routines" (spCR K CR) [] := by
  have c_is_name := c_is_name (P := P) (base := base) T
  refine T.d_check_routines.cal sc_check_routines (fun F => ⟨[], .nil, F.bindsN fun _ _ _ _ _ _ us hl => match us, hl with | [_], _ => rfl⟩) (by rintro vs H Q E ⟨d, m, rfl, _⟩; rfl) fun f cdv A outer s H vs Q E hr h => ?_
  obtain ⟨d, m, rfl, ⟨kvs, hd, rows⟩, ok, hQ⟩ := h
  refine ⟨_, (pss_cons (ps_if (PW.pt (pw_or (pt_not (pt_val (pe_callB call_isi rfl T.z_isinstance (by decide +kernel) (pa_cons (pv 0) (pa_cons (pe_bltn (v := .ty "dict") (u := .type "dict") rfl T.z_dict (by decide +kernel) rfl) pa_nil))))) (pw_or1 (pt_not (pt_chain op_le op_le (pe_gc rfl T.g_LEAST_ROUTINES) (pe_callB call_lenD rfl T.z_len PySem.boot_len (pa_cons (pv 0) pa_nil)) (pe_gc rfl T.g_MOST_ROUTINES))))))
      pss_never
      pss_nil)
    (pss_cons (ps_lock (ps_for PassesOwn.never rfl (pi_keys (pv 0)) (pg_name (i := 1) sc_check_routines.nd rfl (Or.inl rfl))
      (pss_one (ps_if (pt_not (pt_val (pe_c c_is_name hr (by omega) rfl (pa_cons (pv 1) pa_nil))))
        pss_never
        pss_nil))))
    (pss_one (ps_for PassesOwn.never rfl (pi_list (pe_callB cr_sortedSt rfl T.z_sorted (by decide +kernel) (pa_cons (pe_callTy (call_list_dK rfl) rfl T.z_list (by decide +kernel) (pa_cons (pv 0) pa_nil)) pa_nil))) (pg_name (i := 1) sc_check_routines.nd rfl (Or.inl rfl))
      (pss_one (ps_if (pt_not (pt_val (pe_callB (call_isC R.ins) rfl T.z_isinstance (by decide +kernel) (pa_cons (pe_dget (hu1 hr) (pv 0) (pv 1) (fun _ _ => rfl)) (pa_cons (pe_gc rfl (show ∃ u, mg "Routine" = some u ∧ L2.RelV (.ref CR) u from ⟨_, R.g_cls, rfl⟩)) pa_nil)))))
        pss_never
        pss_nil)))))), ?_⟩
  have hl := rows.len
  have l2 := ok.ge
  have l4 := ok.le
  have hk : ∀ {i : Nat} {k : L2.Key} {v : V}, kvs[i]? = some (k, v) → ∃ p ∈ m, k = Sum.inr p.1 := fun {i k v} hi => by
    have h1 : (kvs.map (·.1))[i]? = some k := by rw [List.getElem?_map, hi]; rfl
    rw [rows.keys] at h1
    obtain ⟨p, hp, e⟩ := List.mem_map.mp (List.mem_of_getElem? h1)
    exact ⟨p, hp, e.symm⟩
  have hdI : ∀ {H1 : Hp}, Same H H1 → H1 d = some (.dK kvs) := fun e => e _ _ hd
  refine (runP_seq (F := F0) (P' := fun σ' => σ' = L2.start ["routines", "name"] [.ref d]) (P := fun _ => True) (runP_skip (b := false) ?_ rfl rfl) fun σ' e => ?_) H (.refl trivial) _ (fun σ' H2 e _ => hQ H2 e.same)
  · refine evb_is (et_or (et_not (et_B (b := true) fun H1 e Q q => ?_)) fun _ => et_not (et_B (evv_chain (evv_c trivial) (n := (m.length : Nat)) (fun H1 e Q q => ?_) (evv_c trivial)))) ?_
    · exact ⟨_, rfl, .ref d, .ty "dict", _, _, _, rfl, .ty "dict", .base (.dK (hdI e.same)), (show PySem.W.kitOne K (.type "dict") (.type "dict") = some true from rfl), q _ _ (.refl e.good) rfl⟩
    · exact ⟨_, rfl, d, kvs, rfl, hdI e.same, q _ _ (.refl e.good) (by rw [hl]; rfl)⟩
    · simp only [Bool.not_true, Bool.false_or]
      rw [decide_eq_true (show (2 : Int) ≤ (m.length : Nat) by omega), decide_eq_true (show ((m.length : Nat) : Int) ≤ 4 by omega)]
      rfl
  subst e
  refine runP_seq (P' := fun σ' => σ'.length = 2 ∧ σ'[0]? = some (some (.ref d))) ?_ fun σ' ⟨s2, s0⟩ => ?_
  · intro H1 e1 D q
    refine ⟨d, .dK kvs, hdI e1.same, trivial, fun od => ?_⟩
    refine ⟨.ref d, rfl, d, od, rfl, .inl ⟨kvs, upd_same, for_it walk_keys (fun i σ' H3 => H3 = upd H1 d (.frz od (.dK kvs)) ∧ σ'.length = 2 ∧ σ'[0]? = some (some (.ref d))) ⟨rfl, rfl, rfl⟩ (fun i σ' H3 _ z => z.1 ▸ upd_same) ?_ ?_⟩⟩
    · rintro i x σ' H3 H4 hi ⟨rfl, a1, a2⟩ ⟨rfl, k, v, hi', rfl⟩
      obtain ⟨p, hp, rfl⟩ := hk hi'
      refine ⟨.str p.1, ?_, p.1, rfl, ok.nm p hp, true, rfl, ?_⟩
      · rw [List.getElem?_set_self (by omega)]; rfl
      · exact ⟨rfl, by simp [a1], by rw [List.getElem?_set_ne (by decide)]; exact a2⟩
    · rintro σ' H3 ⟨rfl, a1, a2⟩
      refine ⟨upd_same, ?_⟩
      rw [upd_back (hdI e1.same)]
      exact q _ _ (.refl e1.good) ⟨a1, a2⟩
  · intro H1 e1 D q
    refine ⟨.ref d, s0, d, kvs, rfl, hdI e1.same, fun q1 hq1 => ⟨q1, m.map (·.1), rfl, .of (by rw [upd_same, keys_str rows]), fun ys p perm _ hp => ?_⟩⟩
    have e2 : F0.L H1 (upd (upd H1 q1 (.lst (kvs.map fun kv => kV kv.1))) p (.lst (ys.map V.str))) := (Fm.L.new trivial hq1).trans (.new trivial hp)
    refine ⟨p, rfl, ⟨_, .of upd_same⟩, for_it walk_list (fun i σ' H3 => H3 = upd (upd H1 q1 (.lst (kvs.map fun kv => kV kv.1))) p (.lst (ys.map V.str)) ∧ σ'.length = 2 ∧ σ'[0]? = some (some (.ref d))) ⟨rfl, s2, s0⟩ (fun i σ' H3 _ z => SqL.of (by rw [z.1]; exact upd_same)) ?_ fun σ' H3 z => by rw [z.1]; exact q _ _ e2 trivial⟩
    rintro i x σ' H3 H4 hi ⟨rfl, a1, a2⟩ ⟨rfl, hx⟩
    rw [List.getElem?_map] at hx
    cases hy : ys[i]? with
    | none => rw [hy] at hx; cases hx
    | some y =>
      rw [hy] at hx
      obtain rfl : V.str y = x := Option.some.inj hx
      have hm : y ∈ m.map (·.1) := perm.mem_iff.mp (List.mem_of_getElem? hy)
      obtain ⟨⟨y', b⟩, hp', rfl⟩ := List.mem_map.mp hm
      obtain ⟨v, hv, r, tb, rfl, hr⟩ := (rows.same (e1.trans e2).same).get ok.nd hp'
      obtain ⟨dx, vb, nl, pl, ks, q1', _⟩ := hr.ex
      have hg : DGet (upd (upd H1 q1 (.lst (kvs.map fun kv => kV kv.1))) p (.lst (ys.map V.str))) d (.str y') (some (.ref r)) := by
        have := DGet.k (k := Sum.inr y') (hdI (e1.trans e2).same)
        rw [hv] at this
        exact this
      refine ⟨.ref d, by rw [List.getElem?_set_ne (by decide)]; exact a2, .str y', List.getElem?_set_self (by omega), d, _, rfl, hg, r, _, _, rfl, q1', true, rfl, ?_⟩
      exact ⟨rfl, by simp [a1], by rw [List.getElem?_set_ne (by decide)]; exact a2⟩
end
end Oh
set_option maxHeartbeats 4000000
namespace Oh
open PySem PySem.Spec PyProof.Rows L2
open C8 (Cal Met Mak pe_c pe_mk pe_mt pe_mt0 pe_gc InsC call_isC tCut pss_cut fnBody fnArgs fnScope)
open LamX NdefX
section
variable {P : Program} {w : World} {K : PySem.W.Frag} {mg : Str → Option Value} {base : Heap} {te tb ta tc : TE} {σ : L2.St} {H H' : Hp} {E : XK} {ds es : List PyData} {CR CPl : Addr} {F : Fm}
/-! ### a tuple without attributes of its own, its method -/
def tyF (x : V) (H : Hp) : Prop := ∃ p o xs, x = .ref p ∧ H p = some (.frz o (.tup xs)) ∧ o.dict = none
def rTupF (K : PySem.W.Frag) : List V → Hp → VK → Prop := fun xs H Q => ∃ p ys, xs = [.ref p] ∧ SqL K H p ys ∧ ∀ l o, H l = none → o.dict = none → Q (.ref l) (upd H l (.frz o (.tup ys)))
theorem call_tupleF {X : Cx} : CallR X (.type "tuple") (rTupF X.K) := by
  intro pins s σ H xs us Q I r h
  obtain ⟨p, ys, rfl, hq, q⟩ := h
  obtain ⟨u, rfl, rx⟩ := vals1 r
  cases rx
  obtain ⟨its, r', pl, hz⟩ := I.list hq
  have hlen := r'.length
  refine call_tuple_list pl.isList (fun h' kp => ?_) (by simp only [List.size_toArray] <;> omega)
  have I1 : Inv X pins σ H { s with heap := h' } := I.kept (t' := s.toks) kp
  have I2 : Inv X pins σ (upd H h'.objs.size (.frz { cls := .type "tuple", data := .seq its.toArray } (.tup ys))) { s with heap := h'.push { cls := .type "tuple", data := .seq its.toArray } } :=
    I1.laid (t' := s.toks) (fun b o e => Heap.get?_push_of_some _ e) (Nat.le_refl _) (show ObjOk X.prog X.w _ _ _ (.frz _ (.tup ys)) from ⟨Heap.get?_push_size _ rfl, hz, its, r', IsTup.new _ _⟩)
  exact ⟨.ref h'.objs.size, _, I2, rfl, q _ _ (I1.hok.fresh (Nat.le_refl _)) rfl⟩
def tBMF (r : V → List V → Hp → VK → Prop) (to : TE) (t : TA) : TE := fun σ H Q => to σ H fun x H1 => tyF x H1 ∧ t σ H1 fun xs H2 => r x xs H2 Q
theorem pe_bmF {X : Cx} {o e : Expr} {es : List Expr} {to : TE} {t : TA} {name : Str} {apos cpos : Pos} {id : String} {r : V → List V → Hp → VK → Prop} (pa : PlainAttrs "tuple") (slot : Slot "tuple" name id) (hty : typeOf (.builtin id) = pure (.type "method_descriptor")) (hm : MtR X id r) (ho : PE X o to) (ha : PA X (e :: es) t)
    (hbase : attributeBase o name X.env (eval o X.env) = eval o X.env := by rfl)
    (hfew : ((backTo cpos (starEach (e :: es) X.env)).all (fun x => !x.1) && (backToKw cpos (keywordEach [] X.env)).all (fun x => x.1.isSome)
      && decide ((e :: es).length + ([] : List Keyword).length + (if ([] : List Keyword).isEmpty then 0 else 1) < 30)) = true := by rfl)
    (hline : (apos.endLine == cpos.line) = true := by rfl) (hs : starEach (e :: es) X.env = (false, eval e X.env) :: starEach es X.env := by rfl) (hplain : (backTo cpos (starEach es X.env)).any (·.1) = false := by rfl) :
    PE X (.Call (.Attribute o name apos) (e :: es) [] cpos) (tBMF r to t) := by
  refine ⟨fun pins s σ H Q I h => ?_⟩
  refine wpAny_Call_method_late hbase hfew hline rfl (thn (ho.run pins s σ H _ I h) fun v s1 ⟨x, H1, I1, r1, ty, q1⟩ => ?_)
  obtain ⟨p, ob, xs, rfl, hp, hd⟩ := ty
  cases r1
  obtain ⟨hg, _, its, _, ⟨o', ho', hc', _⟩⟩ := I1.hok p _ hp
  refine ⟨"tuple", id, pa, slot, hty, ⟨o', ho', hc'⟩, fun a e => by cases e; exact ⟨ob, hg, hd⟩, ?_⟩
  have hA := ha.run cpos pins s1 σ H1 _ I1 q1
  rw [hs] at hA ⊢
  refine Calls.callWith_builtin (by show (false || (backTo cpos (starEach es X.env)).any (·.1)) = false; rw [hplain] <;> rfl) (Calls.evalArgs_plain ?_)
  exact thn hA fun us s2 ⟨vs, H2, I2, r2, q2⟩ => hm pins s2 σ H2 (.ref p) vs _ us Q I2 rfl r2 q2
/-! ### the class Play -/
structure Px (w : World) (K : PySem.W.Frag) (mg : Str → Option Value) (CPl : Addr) : Prop where
  ini : ∃ e, Emp K e ∧ HasI K mg "Play" CPl "Play.__init__" s_Play_init [.ref e]
  d_eq : HasM K CPl "__eq__" "Play.__eq__" s_Play_eq []
  d_with : HasM K CPl "with_own" "Play.with_own" s_Play_with_own []
  d_rout : ∃ p g fd, PropOf K CPl "routines" p g ∧ FunD K "routines" "Play.routines" (fnArgs s_Play_routines) (fnBody s_Play_routines) (fnScope s_Play_routines) [] [] g fd
  g_cls : mg "Play" = some (.ref CPl)
  ins : InsC K CPl
  n_own : NoAttr K CPl "own"
  n_over : NoAttr K CPl "over"
  n_line : NoAttr K CPl "line"
  n_members : NoAttr K CPl "members"
  n_own_at : NoAttr K CPl "own_at"
def MemAt (K : PySem.W.Frag) (CR : Addr) (H : Hp) (rs : List V) (m : Mem) : Prop := Paired (fun v (p : Str × List T) => NewR K CR H v p.2) rs m
theorem MemAt.same {rs : List V} {m : Mem} (h : MemAt K CR H rs m) (e : Same H H') : MemAt K CR H' rs m := Paired.mapP h fun _ _ r => r.same e
/-- the object at a is a play -/
structure PlayAt (K : PySem.W.Frag) (CR CPl : Addr) (H : Hp) (a : Addr) (own : Str) (over : List Str) (m : Mem) : Prop where
  ex : ∃ dx ov l t i rs, H a = some (.ins CPl dx [("own", .str own), ("over", ov), ("line", .ref l), ("members", .ref t), ("own_at", .int i)]) ∧ Td K H ov (.tuple (over.map .str)) ∧ Rd H l (.tup ((m.map (·.1)).map V.str)) ∧ H t = some (.tup rs) ∧ MemAt K CR H rs m
  asc : AscL (m.map (·.1))
  ok : MemOk m
  own_in : own ∈ m.map (·.1)
  over_ok : (∀ z ∈ over, NameOk z) ∧ AscFrom [] over
theorem PlayAt.same {a : Addr} {own : Str} {over : List Str} {m : Mem} (h : PlayAt K CR CPl H a own over m) (e : Same H H') : PlayAt K CR CPl H' a own over m := by
  obtain ⟨dx, ov, l, t, i, rs, h1, h2, h3, h4, h5⟩ := h.ex
  exact ⟨⟨dx, ov, l, t, i, rs, e _ _ h1, h2.same e, Same.rd e h3, e _ _ h4, h5.same e⟩, h.asc, h.ok, h.own_in, h.over_ok⟩
theorem MemOk.perm {m m' : Mem} (h : MemOk m) (p : m'.Perm m) : MemOk m' := ⟨by rw [p.length_eq]; exact h.ge, by rw [p.length_eq]; exact h.le, (p.map _).nodup_iff.mpr h.nd, fun q hq => h.nm q (p.mem_iff.mp hq), fun q hq => h.bk q (p.mem_iff.mp hq)⟩
/-- the routines of the dict, in the order of other names -/
theorem rows_pick {kvs : List (L2.Key × V)} {m : Mem} (h : RowsR K CR H kvs m) (nd : (m.map (·.1)).Nodup) : ∀ {m' : Mem}, (∀ p ∈ m', p ∈ m) → ∃ rs, MemAt K CR H rs m' ∧ Paired (fun v (p : Str × List T) => valV kvs (Sum.inr p.1) = some v) rs m'
  | [], _ => ⟨[], .nil, .nil⟩
  | (x, b) :: m', hm => by
    obtain ⟨v, hv, hn⟩ := h.get nd (hm _ (List.mem_cons_self ..))
    obtain ⟨rs, r1, r2⟩ := rows_pick h nd fun p hp => hm p (List.mem_cons_of_mem _ hp)
    exact ⟨v :: rs, .cons hn r1, .cons hv r2⟩
/-- names in another order: the members in that order -/
theorem mem_perm {m : Mem} {ys : List Str} (p : ys.Perm (m.map (·.1))) : ∃ m' : Mem, m'.Perm m ∧ m'.map (·.1) = ys := by
  induction hl : m.length generalizing m ys with
  | zero =>
    obtain rfl := List.length_eq_zero_iff.mp hl
    obtain rfl := List.perm_nil.mp p
    exact ⟨[], .nil, rfl⟩
  | succ n ih =>
    cases ys with
    | nil => have := p.length_eq; simp [hl] at this
    | cons y ys =>
      obtain ⟨q, hq, rfl⟩ := List.mem_map.mp (p.mem_iff.mp (List.mem_cons_self ..))
      obtain ⟨s, t, rfl⟩ := List.append_of_mem hq
      have p1 : (s ++ q :: t).Perm (q :: (s ++ t)) := List.perm_middle
      have p2 : ys.Perm ((s ++ t).map (·.1)) := (List.perm_cons q.1).mp (p.trans (p1.map _))
      obtain ⟨m', h1, h2⟩ := ih p2 (by simp at hl ⊢; omega)
      exact ⟨q :: m', (h1.cons q).trans p1.symm, by simp [h2]⟩
theorem paired_getR {α β : Type} {R : α → β → Prop} {xs : List α} {ys : List β} (h : Paired R xs ys) : ∀ {i : Nat} {y : β}, ys[i]? = some y → ∃ x, xs[i]? = some x ∧ R x y := by
  induction h with
  | nil => intro i y e; simp at e
  | cons r t ih =>
    intro i y e
    cases i with
    | zero => exact ⟨_, rfl, by cases e; exact r⟩
    | succ i => exact ih (by simpa using e)
theorem take_snoc {α : Type} {xs : List α} {i : Nat} {x : α} (h : xs[i]? = some x) : xs.take (i + 1) = xs.take i ++ [x] := by
  rw [List.take_succ, h]
  rfl
theorem first_at {x : Str} : ∀ {ys : List Str}, x ∈ ys → ∃ j : Nat, ys[j]? = some x ∧ ∀ m : Nat, m < j → ys[m]? ≠ some x
  | y :: ys, h => by
    by_cases e : y = x
    · exact ⟨0, by rw [e]; rfl, fun m hm => by omega⟩
    · have h2 : x ∈ ys := (List.mem_cons.mp h).elim (fun z => absurd z.symm e) id
      obtain ⟨j, h1, h3⟩ := first_at h2
      refine ⟨j + 1, by simpa using h1, fun m hm => ?_⟩
      cases m with
      | zero => simpa using e
      | succ m => simpa using h3 m (by omega)
theorem But.trans {x : Addr} {A B C : Hp} (p : But x A B) (q : But x B C) : But x A C := fun a o h n => q a o (p a o h n) n
theorem But.of {x : Addr} (e : Same H H') : But x H H' := fun a o h _ => e a o h
theorem But.upd {x : Addr} {o : HO} : But x H (L2.upd H x o) := fun a o h n => by rw [upd_ne n]; exact h
theorem NewR.but {x C dx : Addr} {fs : List (Str × V)} {v : V} {b : List T} (h : NewR K CR H v b) (e : But x H H') (hx : H x = some (.ins C dx fs)) (hf : fs.head?.map (·.1) ≠ some ("block" : Str)) : NewR K CR H' v b := by
  obtain ⟨a, tb, rfl, r⟩ := h
  obtain ⟨dx', vb, nl, pl, kvs, q1, q2, q3, q4⟩ := r.ex
  have n1 : a ≠ x := fun z => by
    rw [z, hx] at q1
    cases q1
    exact hf rfl
  have n2 : tb ≠ x := fun z => by rw [z, hx] at q3; cases q3
  exact ⟨a, tb, rfl, ⟨dx', vb, nl, pl, kvs, e _ _ q1 n1, q2.tl (but_tl e hx), e _ _ q3 n2, q4.tl (but_tl e hx)⟩⟩
/-- over the routines, the rest as it was but the play under way -/
theorem RowsR.but {x C dx : Addr} {fs : List (Str × V)} {kvs : List (L2.Key × V)} {m : Mem} (h : RowsR K CR H kvs m) (e : But x H H') (hx : H x = some (.ins C dx fs)) (hf : fs.head?.map (·.1) ≠ some ("block" : Str)) : RowsR K CR H' kvs m := Paired.mapP h fun _ _ r => ⟨r.1, r.2.but e hx hf⟩
theorem MemAt.but {x C dx : Addr} {fs : List (Str × V)} {rs : List V} {m : Mem} (h : MemAt K CR H rs m) (e : But x H H') (hx : H x = some (.ins C dx fs)) (hf : fs.head?.map (·.1) ≠ some ("block" : Str)) : MemAt K CR H' rs m := Paired.mapP h fun _ _ r => r.but e hx hf
theorem skip_go {t : TT} {tu rest : TS} {D : Ends} (h : EvB F0 t σ H false) (k : ∀ H1, Same H H1 → rest D σ H1) : tSeq (tIfS t tu tNext) rest D σ H := h H (.refl trivial) _ fun b H1 e p => by
  rw [show b = false from p]
  exact k H1 e.same
/-- x in d, x not in d, texts -/
theorem evb_dnotin {i j : Nat} {d : Addr} {x : Str} {kvs : List (L2.Key × V)} (g : F.G H) (hd : H d = some (.dK kvs)) (nd : ¬ F.sp d) (hi : σ[i]? = some (some (.str x))) (hj : σ[j]? = some (some (.ref d))) : EvB F (tB (tDNotIn (tVar i) (tVar j))) σ H (!(valV kvs (Sum.inr x)).isSome) := fun H1 e Q q =>
  ⟨_, hi, .ref d, hj, d, _, rfl, DGet.k (k := Sum.inr x) (e.1 _ _ hd nd), _, rfl, q _ _ (.refl e.good) rfl⟩
def spPI (K : PySem.W.Frag) (CR CPl : Addr) : Sp := fun vs H Q _ => ∃ x dx d own ov over m, vs = [.ref x, .ref d, .str own, ov] ∧ H x = some (.ins CPl dx []) ∧ DictAt K CR H d m ∧ MemOk m ∧ own ∈ m.map (·.1) ∧ Td K H ov (.tuple (over.map .str)) ∧ ((∀ z ∈ over, NameOk z) ∧ AscFrom [] over) ∧
  ∀ H' m', But x H H' → m'.Perm m → PlayAt K CR CPl H' x own over m' → Q .non H'
theorem sc_Play_init : FnScope ["self", "routines", "own", "over", "name"] ["self", "routines", "own", "over"] (fnScope s_Play_init) := ⟨rfl, rfl, rfl, by decide +kernel, rfl, by decide +kernel, by decide +kernel⟩
theorem sp_len_PI : ∀ vs H Q E, spPI K CR CPl vs H Q E → vs.length = 4 := by rintro vs H Q E ⟨x, dx, d, own, ov, over, m, rfl, _⟩; rfl
theorem run_PI {f : Addr} {cdv : Value} {A : Around} {outer : List Env} {s : Shared} {vs : List V} {Q : VK} (T : Tx w K mg) (R : Rx w K mg CR) (PX : Px w K mg CPl) (hr : Room 8 (A.deeper (envOfC "Play.__init__" (fnScope s_Play_init) s.heap.objs.size f cdv))) (h : spPI K CR CPl vs H Q E) :
    ∃ t, PSs (cxOf C8.CX0 P w K mg base ["self", "routines", "own", "over", "name"] "Play.__init__" (fnScope s_Play_init) f cdv A outer s H E).nox (fnBody s_Play_init) t ∧ t { nx := fun _ H' => Q .non H', rt := Q } (L2.start ["self", "routines", "own", "over", "name"] vs) H := by
  have c_check_routines := c_check_routines (P := P) (base := base) T R
  have c_is_name := c_is_name (P := P) (base := base) T
  have c_is_port_tuple := c_is_port_tuple (P := P) (base := base) T
  obtain ⟨x, dx, d, own, ov, over, m, rfl, hx, ⟨kvs, hd, rows⟩, ok, hin, hov, oo, hQ⟩ := h
  refine ⟨_, (pss_cons (ps_expr (pe_c c_check_routines hr (by omega) rfl (pa_cons (pv 1) pa_nil)))
    (pss_cons (ps_if (PW.pt (pw_or (pt_not (pt_val (pe_c c_is_name hr (by omega) rfl (pa_cons (pv 2) pa_nil)))) (pw_or1 (pt_cmp (pc_dnotin (hu1 hr) (pv 2) (pv 1))))))
      pss_never
      pss_nil)
    (pss_cons (ps_if (pt_not (pt_val (pe_c c_is_port_tuple hr (by omega) rfl (pa_cons (pv 3) pa_nil))))
      pss_never
      pss_nil)
    (pss_cons (ps_fld (pv 0) (pv 2) rfl)
    (pss_cons (ps_fld (pv 0) (pv 3) rfl)
    (pss_cons (ps_fld (pv 0) (pe_callTy call_tupleF rfl T.z_tuple (by decide +kernel) (pa_cons (pe_callB cr_sortedSt rfl T.z_sorted (by decide +kernel) (pa_cons (pe_callTy (call_list_dK rfl) rfl T.z_list (by decide +kernel) (pa_cons (pv 1) pa_nil)) pa_nil)) pa_nil)) rfl)
    (pss_cons (ps_fld (pv 0) (pe_callTy call_tuple_of rfl T.z_tuple (by decide +kernel) (pa_cons (pe_lc (own := [("name", 4)]) (g := (gName 4)) (tt := tYes) rfl sc_Play_init.nd (pi_tup (pe_fld (pv 0) rfl)) (blkOk_by (own := [("name", 4)]) (N := ["self", "routines", "own", "over", "name"]) (sc := fnScope s_Play_init) (by decide +kernel)) (fun _ _ _ _ _ => (pg_name (i := 4) sc_Play_init.nd rfl (Or.inl rfl))) (fun _ _ _ _ _ => pts_nil) (fun _ _ _ _ _ => (pe_dget (hu1 hr) (pv 1) (pv 4) (fun _ _ => rfl)))) pa_nil)) rfl)
    (pss_one (ps_fld (pv 0) (pe_bmF PySem.F.plainAttrs_tuple PySem.F.slot_tuple_index PySem.F.type_tuple_index mt_tup_index (pe_fld (pv 0) rfl) (pa_cons (pv 2) pa_nil)) rfl))))))))), ?_⟩
  obtain ⟨⟨own', bo⟩, ho, rfl⟩ := List.mem_map.mp hin
  refine ⟨_, rfl, d, m, rfl, ⟨kvs, hd, rows⟩, ok, fun H1 e1 => ?_⟩
  refine skip_go (evb_is (et_or (et_not (et_test (evv_name (K := K) (evv_ds (evv_var trivial rfl)) (ok.nm _ ho)))) fun _ => evb_dnotin (i := 2) (j := 1) trivial (e1 _ _ hd) (fun z => z) rfl rfl) ?_) fun H2 e2 => ?_
  · obtain ⟨v, hv, _⟩ := rows.get ok.nd ho
    rw [hv]
    rfl
  have e12 := e1.trans e2
  obtain ⟨ova, ovs, rfl, hsq, hovs⟩ := hov.tupE
  obtain rfl := tda_strs hovs
  refine skip_go (et_not (et_test (b := true) fun H3 e3 Q q => ?_)) fun H3 e3 => ?_
  · exact ⟨_, rfl, ova, over, rfl, sqt_tl (Same.tl (e12.trans e3.same)) hsq, oo.1, oo.2, q _ _ (.refl trivial) rfl⟩
  have e13 := e12.trans e3
  have hx3 := e13 _ _ hx
  have hd3 := e13 _ _ hd
  have rows3 := rows.same e13
  have hov3 := hov.same e13
  have b0 : But x H H3 := .of e13
  clear e1 e2 e3 e12 e13 hd rows hov hsq hx
  -- self.own, self.over
  have step : ∀ {Ha Hb : Hp} {fs gs : List (Str × V)}, But x H Ha → Ha x = some (.ins CPl dx fs) → Ha d = some (.dK kvs) → RowsR K CR Ha kvs m → Td K Ha (.ref ova) (.tuple (over.map .str)) → fs.head?.map (·.1) ≠ some ("block" : Str) → Hb = upd Ha x (.ins CPl dx gs) →
      But x H Hb ∧ Hb x = some (.ins CPl dx gs) ∧ Hb d = some (.dK kvs) ∧ RowsR K CR Hb kvs m ∧ Td K Hb (.ref ova) (.tuple (over.map .str)) := by
    rintro Ha Hb fs gs k1 k2 k3 k4 k5 k6 rfl
    have nd : d ≠ x := fun z => by rw [z, k2] at k3; cases k3
    exact ⟨k1.trans .upd, upd_same, by rw [upd_ne nd]; exact k3, k4.but .upd k2 k6, k5.tl (but_tl .upd k2)⟩
  have stepS : ∀ {Ha Hb : Hp} {fs : List (Str × V)}, But x H Ha → Ha x = some (.ins CPl dx fs) → Ha d = some (.dK kvs) → RowsR K CR Ha kvs m → Td K Ha (.ref ova) (.tuple (over.map .str)) → Same Ha Hb →
      But x H Hb ∧ Hb x = some (.ins CPl dx fs) ∧ Hb d = some (.dK kvs) ∧ RowsR K CR Hb kvs m ∧ Td K Hb (.ref ova) (.tuple (over.map .str)) := fun k1 k2 k3 k4 k5 e => ⟨k1.trans (.of e), e _ _ k2, e _ _ k3, k4.same e, k5.same e⟩
  refine ⟨_, rfl, .ref x, rfl, x, CPl, dx, [], rfl, hx3, PX.ins.cl, PX.n_own, by decide, ?_⟩
  obtain ⟨b4, x4, d4, r4, o4⟩ := step (gs := [("own", V.str (own', bo).1)]) b0 hx3 hd3 rows3 hov3 (by simp) rfl
  show tSeq _ _ _ _ (upd H3 x (.ins CPl dx [("own", V.str (own', bo).1)]))
  generalize upd H3 x (.ins CPl dx [("own", V.str (own', bo).1)]) = H4 at b4 x4 d4 r4 o4 ⊢
  refine ⟨_, rfl, .ref x, rfl, x, CPl, dx, _, rfl, x4, PX.ins.cl, PX.n_over, (show 1 < 1000 by decide), ?_⟩
  obtain ⟨b5, x5, d5, r5, o5⟩ := step (gs := [("own", V.str (own', bo).1), ("over", .ref ova)]) b4 x4 d4 r4 o4 (by simp; decide) rfl
  show tSeq _ _ _ _ (upd H4 x (.ins CPl dx [("own", V.str (own', bo).1), ("over", .ref ova)]))
  generalize upd H4 x (.ins CPl dx [("own", V.str (own', bo).1), ("over", .ref ova)]) = H5 at b5 x5 d5 r5 o5 ⊢
  -- self.line
  refine ⟨.ref d, rfl, d, kvs, rfl, d5, fun q1 hq1 => ⟨q1, m.map (·.1), rfl, .of (by rw [upd_same, keys_str r5]), fun ys p perm asc hp => ⟨p, _, rfl, .of upd_same, fun l oL hl hoL => ?_⟩⟩⟩
  have es : Same H5 (upd (upd (upd H5 q1 (.lst (kvs.map fun kv => kV kv.1))) p (.lst (ys.map V.str))) l (.frz oL (.tup (ys.map V.str)))) := ((same_new hq1).trans (same_new hp)).trans (same_new hl)
  obtain ⟨b6, x6, d6, r6, o6⟩ := stepS b5 x5 d5 r5 o5 es
  have l6 : (upd (upd (upd H5 q1 (.lst (kvs.map fun kv => kV kv.1))) p (.lst (ys.map V.str))) l (.frz oL (.tup (ys.map V.str)))) l = some (.frz oL (.tup (ys.map V.str))) := upd_same
  generalize upd (upd (upd H5 q1 (.lst (kvs.map fun kv => kV kv.1))) p (.lst (ys.map V.str))) l (.frz oL (.tup (ys.map V.str))) = H6 at b6 x6 d6 r6 o6 l6 ⊢
  refine ⟨.ref x, rfl, x, CPl, dx, _, rfl, x6, PX.ins.cl, PX.n_line, (show 2 < 1000 by decide), ?_⟩
  obtain ⟨b7, x7, d7, r7, o7⟩ := step (gs := [("own", V.str (own', bo).1), ("over", .ref ova), ("line", .ref l)]) b6 x6 d6 r6 o6 (by simp; decide) rfl
  have lx : l ≠ x := fun z => by rw [z, x6] at l6; cases l6
  have l7 : (upd H6 x (.ins CPl dx [("own", V.str (own', bo).1), ("over", .ref ova), ("line", .ref l)])) l = some (.frz oL (.tup (ys.map V.str))) := by rw [upd_ne lx]; exact l6
  show tSeq _ _ _ _ (upd H6 x (.ins CPl dx [("own", V.str (own', bo).1), ("over", .ref ova), ("line", .ref l)]))
  generalize upd H6 x (.ins CPl dx [("own", V.str (own', bo).1), ("over", .ref ova), ("line", .ref l)]) = H7 at b7 x7 d7 r7 o7 l7 ⊢
  -- self.members
  obtain ⟨m', hpm, rfl⟩ := mem_perm perm
  obtain ⟨rs, hrs, hrv⟩ := rows_pick r7 ok.nd fun p hp => hpm.mem_iff.mp hp
  have hrl := Paired.length hrs
  have ok' := ok.perm hpm
  refine ⟨.ref x, rfl, x, CPl, dx, _, .ref l, rfl, x7, PX.ins.cl, PX.n_line, rfl, l, rfl, ⟨_, .inl (.inr ⟨_, l7⟩)⟩, fun D hD => ?_⟩
  have sD : ∀ {o : HO}, Same H7 (upd H7 D o) := same_new hD
  refine lc_it walk_tup (fun i H3 => H3 = upd H7 D (.lst (rs.take i))) rfl (fun i H3 _ z => .inl (.inr ⟨oL, by rw [z]; exact sD _ _ l7⟩)) ?_ ?_
  · rintro i y H3 H4 hi rfl ⟨rfl, hy⟩
    rw [List.getElem?_map, List.getElem?_map] at hy
    cases hm : m'[i]? with
    | none => rw [hm] at hy; cases hy
    | some q =>
      rw [hm] at hy
      obtain rfl : V.str q.1 = y := Option.some.inj hy
      obtain ⟨v, hv, hvv⟩ := paired_getR hrv hm
      refine ⟨rfl, ?_⟩
      unfold tYes
      dsimp only
      rw [if_pos rfl]
      have hg : DGet (upd H7 D (.lst (rs.take i))) d (.str q.1) (some v) := by
        have := DGet.k (k := Sum.inr q.1) (sD (o := .lst (rs.take i)) _ _ d7)
        rw [hvv] at this
        exact this
      refine ⟨.ref d, rfl, .str q.1, rfl, d, v, rfl, hg, rs.take i, upd_same, ?_, ?_⟩
      · have := ok'.le
        rw [List.length_take, sizeLine_eq]
        omega
      · rw [upd_upd, ← take_snoc hv]
  rintro H3 rfl
  have hrsl : rs.take (m'.map (·.1) |>.map V.str).length = rs := by rw [List.length_map, List.length_map, ← hrl, List.take_length]
  rw [hrsl]
  refine ⟨D, rs, rfl, .inl ⟨.of upd_same, fun t ht => ?_⟩⟩
  have es : Same H7 (upd (upd H7 D (.lst rs)) t (.tup rs)) := sD.trans (same_new ht)
  obtain ⟨b8, x8, d8, r8, o8⟩ := stepS b7 x7 d7 r7 o7 es
  have t8 : (upd (upd H7 D (.lst rs)) t (.tup rs)) t = some (.tup rs) := upd_same
  have l8 := es _ _ l7
  have m8 := hrs.same es
  generalize upd (upd H7 D (.lst rs)) t (.tup rs) = H8 at b8 x8 d8 r8 o8 t8 l8 m8 ⊢
  refine ⟨.ref x, rfl, x, CPl, dx, _, rfl, x8, PX.ins.cl, PX.n_members, (show 3 < 1000 by decide), ?_⟩
  obtain ⟨b9, x9, d9, r9, o9⟩ := step (gs := [("own", V.str (own', bo).1), ("over", .ref ova), ("line", .ref l), ("members", .ref t)]) b8 x8 d8 r8 o8 (by simp; decide) rfl
  have tx : t ≠ x := fun z => by rw [z, x8] at t8; cases t8
  have m9 : MemAt K CR (upd H8 x (.ins CPl dx [("own", V.str (own', bo).1), ("over", .ref ova), ("line", .ref l), ("members", .ref t)])) rs m' := m8.but .upd x8 (by simp; decide)
  have t9 : (upd H8 x (.ins CPl dx [("own", V.str (own', bo).1), ("over", .ref ova), ("line", .ref l), ("members", .ref t)])) t = some (.tup rs) := by rw [upd_ne tx]; exact t8
  have l9 : (upd H8 x (.ins CPl dx [("own", V.str (own', bo).1), ("over", .ref ova), ("line", .ref l), ("members", .ref t)])) l = some (.frz oL (.tup ((m'.map (·.1)).map V.str))) := by rw [upd_ne lx]; exact l8
  rw [show putF ("members" : Str) (V.ref t) [("own", V.str (own', bo).1), ("over", .ref ova), ("line", .ref l)] = ([("own", V.str (own', bo).1), ("over", .ref ova), ("line", .ref l), ("members", .ref t)] : List (Str × V)) from rfl]
  generalize upd H8 x (.ins CPl dx [("own", V.str (own', bo).1), ("over", .ref ova), ("line", .ref l), ("members", .ref t)]) = H9 at b9 x9 d9 r9 o9 m9 t9 l9 ⊢
  have hin' : (own', bo).1 ∈ m'.map (·.1) := (hpm.map _).mem_iff.mpr hin
  obtain ⟨j, hj, hjm⟩ := first_at hin'
  refine ⟨.ref x, rfl, x, CPl, dx, _, .ref l, rfl, x9, PX.ins.cl, PX.n_line, rfl, ⟨l, oL, _, rfl, l9, hoL⟩, _, rfl, l, m'.map (·.1), (own', bo).1, j, rfl, rfl, .inl (.inr ⟨_, l9⟩), hj, hjm, ?_⟩
  refine ⟨.ref x, rfl, x, CPl, dx, _, rfl, x9, PX.ins.cl, PX.n_own_at, (show 4 < 1000 by decide), ?_⟩
  obtain ⟨b10, x10, d10, r10, o10⟩ := step (gs := [("own", V.str (own', bo).1), ("over", .ref ova), ("line", .ref l), ("members", .ref t), ("own_at", .int (j : Nat))]) b9 x9 d9 r9 o9 (by simp; decide) rfl
  refine hQ _ m' b10 hpm ⟨⟨dx, .ref ova, l, t, (j : Nat), rs, x10, o10, .inr ⟨oL, by rw [upd_ne lx]; exact l9⟩, by rw [upd_ne tx]; exact t9, m9.but .upd x9 (by simp; decide)⟩, asc, ok', hin', oo⟩
theorem m_Play (T : Tx w K mg) (R : Rx w K mg CR) (PX : Px w K mg CPl) : Mak P w K mg base 9 "Play" CPl (spPI K CR CPl) [] := by
  obtain ⟨e, _, D⟩ := PX.ini
  exact D.mak sc_Play_init (fun F => F.binds1 4 1 (by simp) rfl fun _ _ _ _ _ _ _ us its hu hi => match us, hu, its, hi with | [_, _, _, _], _, [_], _ => ⟨_, rfl, rfl⟩) sp_len_PI fun f cdv A outer s H vs Q E hr h => run_PI T R PX hr h
/-- without the ports: the empty tuple that stands -/
theorem m_Play0 (T : Tx w K mg) (R : Rx w K mg CR) (PX : Px w K mg CPl) : ∃ e, Emp K e ∧ Mak P w K mg base 9 "Play" CPl (spPI K CR CPl) [.ref e] := by
  obtain ⟨e, he, D⟩ := PX.ini
  exact ⟨e, he, D.mak sc_Play_init (fun F => F.binds1 3 0 (by simp) rfl fun _ _ _ _ _ _ _ us its hu hi => match us, hu, its, hi with | [_, _, _], _, [_], _ => ⟨_, rfl, rfl⟩) sp_len_PI fun f cdv A outer s H vs Q E hr h => run_PI T R PX hr h⟩
end
end Oh
set_option maxHeartbeats 4000000
namespace Oh
open PySem PySem.Spec PyProof.Rows L2
open C8 (Cal Met Mak pe_c pe_mk pe_mt pe_mt0 pe_gc InsC call_isC tCut pss_cut fnBody fnArgs fnScope)
open LamX NdefX
section
variable {P : Program} {w : World} {K : PySem.W.Frag} {mg : Str → Option Value} {base : Heap} {te tb ta tc : TE} {σ : L2.St} {H H' : Hp} {E : XK} {ds es : List PyData} {CR CPl : Addr} {F : Fm}
/-! ### the property -/
structure Prp (P : Program) (w : World) (K : PySem.W.Frag) (mg : Str → Option Value) (base : Heap) (k : Nat) (C : Addr) (f : Str) (sp : Sp) : Prop where
  ex : ∃ p g fd, PropOf K C f p g ∧ FnOk P w K mg base C8.CX0 k g fd ["self"] sp ∧ Binds K fd ["self"] []
theorem pe_prp {X : Cx} {j k : Nat} {C : Addr} {f : Str} {sp : Sp} {e : Expr} {ta : TE} {pos : Pos} (c : Prp X.prog X.w X.K X.mg X.base k C f sp) (hc : Cls X.K C) (hr : Room j X.A) (hk : k + 1 ≤ j) (he : PE X e ta) (hab : attributeBase e f X.env (eval e X.env) = eval e X.env := by rfl) :
    PE X (.Attribute e f pos) (tProp C sp [] C8.E0 ta) := by
  obtain ⟨p, g, fd, hp, F, b⟩ := c.ex
  exact pe_prop he hc hp F (hr.mono hk) b .nil C8.pass0 hab
/-- a dict comprehension over it: Pv by the turn and the heap (the new dict at D within) -/
theorem dc_it {J : It} {n : Nat} {G : Hp → Prop} {Y : Nat → Hp → V → Hp → Prop} (w : Walk J n G Y) {g : TG} {tt : TT} {tk tv : TE} {vs : List Nat} {σ : L2.St} {H1 : Hp} {D : Addr} {Qd : Hp → Prop} (Pv : Nat → Hp → Prop) (h0 : Pv 0 (upd H1 D (.dK []))) (hG : ∀ i H, i ≤ n → Pv i H → G H)
    (hs : ∀ i x H H', i < n → Pv i H → Y i H x H' → g x (wipe σ vs) H' fun σ2 H2 => wipe σ2 vs = wipe σ vs ∧ tt σ2 H2 fun b H3 =>
      if b = true then tk σ2 H3 fun y H4 => tv σ2 H4 fun z H5 => ∃ kvs k, y = kV k ∧ H5 D = some (.dK kvs) ∧ kvs.length < sizeLine ∧ Pv (i + 1) (upd H5 D (.dK (putK kvs k z))) else Pv (i + 1) H3) (hd : ∀ H, Pv n H → Qd H) :
    ∃ W : Nat → Nat → Hp → Prop, (∃ m, W 0 m (upd H1 D (.dK []))) ∧ ∀ i m H, W i m H →
      (J.stop i H ∧ Qd H) ∨ (J.go i H ∧ ∃ Nx : Hp → Prop, (∀ H', Nx H' → ∃ m', m' < m ∧ W (i + 1) m' H') ∧ ∀ x H', J.yld i H x H' → g x (wipe σ vs) H' fun σ2 H2 => wipe σ2 vs = wipe σ vs ∧ tt σ2 H2 fun b H3 =>
        if b = true then tk σ2 H3 fun y H4 => tv σ2 H4 fun z H5 => ∃ kvs k, y = kV k ∧ H5 D = some (.dK kvs) ∧ kvs.length < sizeLine ∧ Nx (upd H5 D (.dK (putK kvs k z))) else Nx H3) := by
  refine ⟨fun i m H => m = n - i ∧ i ≤ n ∧ Pv i H, ⟨n, by simp, Nat.zero_le _, h0⟩, ?_⟩
  rintro i m H ⟨rfl, hi, p⟩
  have q := hG i H hi p
  by_cases hlt : i < n
  · refine .inr ⟨w.goes i H hlt q, Pv (i + 1), fun H' p' => ⟨n - (i + 1), by omega, rfl, hlt, p'⟩, fun x H' y => hs i x H H' hlt p (w.yields i H x H' hlt q y)⟩
  · have e : i = n := by omega
    subst e
    exact .inl ⟨w.stops H q, hd H p⟩
def rowsOf (m : Mem) (rs : List V) : List (L2.Key × V) := List.zipWith (fun (p : Str × List T) v => (Sum.inr p.1, v)) m rs
theorem rows_of : ∀ {rs : List V} {m : Mem}, MemAt K CR H rs m → RowsR K CR H (rowsOf m rs) m
  | _, _, .nil => .nil
  | _, _, .cons r t => .cons ⟨rfl, r⟩ (rows_of t)
theorem rowsOf_get {rs : List V} {m : Mem} {i : Nat} {p : Str × List T} {v : V} (h1 : m[i]? = some p) (h2 : rs[i]? = some v) : (rowsOf m rs)[i]? = some (Sum.inr p.1, v) := by
  unfold rowsOf
  rw [List.getElem?_zipWith, h1, h2]
theorem nodup_take {α : Type} {xs : List α} {i : Nat} {x : α} (nd : xs.Nodup) (h : xs[i]? = some x) : x ∉ xs.take i := fun hm => by
  obtain ⟨j, hj⟩ := List.mem_iff_getElem?.mp hm
  have hji : j < i := by
    have := (List.getElem?_eq_some_iff.mp hj).1
    rw [List.length_take] at this
    omega
  rw [List.getElem?_take_of_lt hji] at hj
  have hl : j < xs.length := (List.getElem?_eq_some_iff.mp hj).1
  have := (List.getElem?_inj hl nd).mp (hj.trans h.symm)
  omega
theorem valV_absent {kvs : List (L2.Key × V)} {k : L2.Key} (h : k ∉ kvs.map (·.1)) : valV kvs k = none := by
  cases q : valV kvs k with
  | none => rfl
  | some v => exact absurd (valV_in q) h
def spRt (K : PySem.W.Frag) (CR CPl : Addr) : Sp := fun vs H Q _ => ∃ a own over m, vs = [.ref a] ∧ PlayAt K CR CPl H a own over m ∧ ∀ d H', H d = none → Same H H' → DictAt K CR H' d m → Q (.ref d) H'
theorem sc_Play_routines : FnScope ["self", "index", "name"] ["self"] (fnScope s_Play_routines) := ⟨rfl, rfl, rfl, by decide +kernel, rfl, by decide +kernel, by decide +kernel⟩
theorem p_routines (T : Tx w K mg) (PX : Px w K mg CPl) : Prp P w K mg base 1 CPl "routines" (spRt K CR CPl) := by
  obtain ⟨p, g, fd, hp, D⟩ := PX.d_rout
  refine ⟨p, g, fd, hp, D.ok sc_Play_routines (by rintro vs H Q E ⟨a, _, _, _, rfl, _⟩; rfl) (fun cdv A outer s H vs Q E hr h => ?_), D.bindsN fun _ _ _ _ _ _ us hl => match us, hl with | [_], _ => rfl⟩
  obtain ⟨a, own, over, m, rfl, pl, hQ⟩ := h
  refine ⟨_, PSs.nox (pss_one (ps_ret (pe_dc (own := [("index", 1), ("name", 2)]) (g := (gTup K 2 (gCons (gName 1) (gCons (gName 2) gNil)))) (tt := tYes) rfl sc_Play_routines.nd (pi_enumT rfl T.z_enumerate (pa_cons (pe_fld (pv 0) rfl) pa_nil)) (blkOk_by (own := [("index", 1), ("name", 2)]) (N := ["self", "index", "name"]) (sc := fnScope s_Play_routines) (by decide +kernel))
    (fun _ _ _ _ _ => (pg_tup rfl (pgs_cons (pg_name (i := 1) sc_Play_routines.nd rfl (Or.inl rfl)) (pgs_cons (pg_name (i := 2) sc_Play_routines.nd rfl (Or.inl rfl)) pgs_nil)))) (fun _ _ _ _ _ => pts_nil) (fun _ _ _ _ _ => pv 2) (fun _ _ _ _ _ => (pe_ix (r := rIxT K) ix_tup (pe_fldK (K := K) rfl (pv 0) rfl) (pv 1) (fun _ _ => rfl)))))), ?_⟩
  obtain ⟨dx, ov, l, t, i, rs, q1, q2, q3, q4, q5⟩ := pl.ex
  have hl := Paired.length q5
  have hle := pl.ok.le
  refine ⟨.ref a, rfl, a, CPl, dx, _, .ref l, rfl, q1, PX.ins.cl, PX.n_line, rfl, l, _, rfl, .inl q3, fun D hD => ?_⟩
  refine dc_it walk_enumT (fun i H3 => Same H H3 ∧ H3 D = some (.dK ((rowsOf m rs).take i))) ⟨same_new hD, upd_same⟩ (fun i H3 _ z => .inl (Same.rd z.1 q3)) ?_ ?_
  · rintro j x H3 H4 hj ⟨e3, hd3⟩ ⟨Tp, y, z, rfl, hT, rfl, hy, hz⟩
    cases hy
    replace hz : ((m.map (·.1)).map V.str)[j]? = some z := hz
    rw [List.getElem?_map, List.getElem?_map] at hz
    cases hm : m[j]? with
    | none => rw [hm] at hz; cases hz
    | some p =>
      rw [hm] at hz
      obtain rfl : V.str p.1 = z := Option.some.inj hz
      obtain ⟨v, hv, hvr⟩ := paired_getR q5 hm
      refine pair_into upd_same ⟨wipe_two _ 1 2 _ _ (by decide), ?_⟩
      unfold tYes
      dsimp only
      rw [if_pos rfl]
      have e4 : Same H (upd H3 Tp (.tup [.int (j : Nat), .str p.1])) := e3.trans (same_new hT)
      refine ⟨.str p.1, rfl, .ref a, rfl, a, CPl, dx, _, .ref t, rfl, e4 _ _ q1, PX.ins.cl, PX.n_members, rfl, .int (j : Nat), rfl, ?_⟩
      have hr0 := rowsOf_get hm hv
      have hkn : (Sum.inr p.1 : L2.Key) ∉ ((rowsOf m rs).take j).map (·.1) := by
        rw [List.map_take, (rows_of q5).keys]
        refine nodup_take ?_ (by rw [List.getElem?_map, hm]; rfl)
        have : ((m.map (·.1)).map (fun x : Str => (Sum.inr x : L2.Key))).Nodup := List.Pairwise.map _ (fun x y h e => h (Sum.inr.inj e)) pl.ok.nd
        simpa [Function.comp_def] using this
      refine ⟨t, rs, (j : Nat), v, rfl, rfl, .of (e4 _ _ q4), atI_nat hv, (rowsOf m rs).take j, Sum.inr p.1, rfl, by rw [upd_ne (ne_of_none hd3 hT)]; exact hd3, ?_, ?_, ?_⟩
      · rw [List.length_take, sizeLine_eq]
        have := (rows_of q5).len
        omega
      · exact Same.late e4 hD
      · rw [upd_same, putK_new v (valV_absent hkn), ← take_snoc hr0]
  · rintro H3 ⟨e3, hd3⟩
    have hk : (rowsOf m rs).take ((m.map (·.1)).map V.str).length = rowsOf m rs := by
      have := (rows_of q5).len
      rw [List.length_map, List.length_map, ← this, List.take_length]
    rw [hk] at hd3
    exact hQ D H3 hD e3 ⟨_, hd3, (rows_of q5).same e3⟩
end
end Oh
set_option maxHeartbeats 4000000
namespace Oh
open PySem PySem.Spec PyProof.Rows L2
open C8 (Cal Met Mak pe_c pe_mk pe_mt pe_mt0 pe_gc InsC call_isC tCut pss_cut fnBody fnArgs fnScope)
open LamX NdefX
section
variable {P : Program} {w : World} {K : PySem.W.Frag} {mg : Str → Option Value} {base : Heap} {te tb ta tc : TE} {σ : L2.St} {H H' : Hp} {E : XK} {ds es : List PyData} {CR CPl : Addr} {F : Fm}
/-! ### one member in another's place -/
def setM (own : Str) (b : List T) (m : Mem) : Mem := m.map fun p => if p.1 = own then (p.1, b) else p
theorem setM_fst (own : Str) (b : List T) (m : Mem) : (setM own b m).map (·.1) = m.map (·.1) := by
  unfold setM
  rw [List.map_map]
  refine List.map_congr_left fun p _ => ?_
  show (if p.1 = own then (p.1, b) else p).1 = p.1
  split <;> rfl
theorem setM_ok {own : Str} {b : List T} {m : Mem} (h : MemOk m) (hb : BOk b) : MemOk (setM own b m) := by
  refine ⟨by unfold setM; rw [List.length_map]; exact h.ge, by unfold setM; rw [List.length_map]; exact h.le, by rw [setM_fst]; exact h.nd, fun p hp => ?_, fun p hp => ?_⟩
  · obtain ⟨q, hq, rfl⟩ := List.mem_map.mp hp
    have := h.nm q hq
    split <;> exact this
  · obtain ⟨q, hq, rfl⟩ := List.mem_map.mp hp
    split
    · exact hb
    · exact h.bk q hq
theorem rows_put {kvs : List (L2.Key × V)} {m : Mem} {own : Str} {b : List T} {v : V} (h : RowsR K CR H kvs m) (hin : own ∈ m.map (·.1)) (hv : NewR K CR H v b) : RowsR K CR H (putK kvs (Sum.inr own) v) (setM own b m) := by
  have any : (kvs.any fun kv => decide (kv.1 = (Sum.inr own : L2.Key))) = true := by
    have : (Sum.inr own : L2.Key) ∈ kvs.map (·.1) := by
      rw [h.keys]
      obtain ⟨p, hp, rfl⟩ := List.mem_map.mp hin
      exact List.mem_map.mpr ⟨p, hp, rfl⟩
    obtain ⟨kv, hkv, e⟩ := List.mem_map.mp this
    exact List.any_eq_true.mpr ⟨kv, hkv, decide_eq_true e⟩
  unfold putK
  rw [if_pos any]
  clear any hin
  unfold RowsR at h ⊢
  unfold setM
  induction h with
  | nil => exact .nil
  | @cons kv p kvs m r t ih =>
    refine .cons ?_ ih
    dsimp only
    by_cases e : p.1 = own
    · rw [if_pos (by rw [r.1, e]), if_pos e]
      exact ⟨r.1, hv⟩
    · rw [if_neg (by rw [r.1]; exact fun z => e (Sum.inr.inj z)), if_neg e]
      exact r
theorem fst_uniq {α β : Type} {l : List (α × β)} (nd : (l.map (·.1)).Nodup) {x : α} {b c : β} (h1 : (x, b) ∈ l) (h2 : (x, c) ∈ l) : b = c := by
  induction l with
  | nil => cases h1
  | cons p l ih =>
    obtain ⟨n1, n2⟩ := List.nodup_cons.mp (show (p.1 :: l.map (·.1)).Nodup from nd)
    rcases List.mem_cons.mp h1 with e1 | h1 <;> rcases List.mem_cons.mp h2 with e2 | h2
    · exact congrArg Prod.snd (e1.trans e2.symm)
    · exact absurd (List.mem_map.mpr ⟨_, h2, (show x = p.1 from congrArg (fun z : α × β => z.1) e1)⟩) n1
    · exact absurd (List.mem_map.mpr ⟨_, h1, (show x = p.1 from congrArg (fun z : α × β => z.1) e2)⟩) n1
    · exact ih n2 h1 h2
theorem asc_uniq {xs ys : List Str} (h1 : AscL xs) (h2 : AscL ys) (p : xs.Perm ys) : xs = ys := by
  have anti : ∀ x y : Str, decide (x.cps.toList < y.cps.toList) = false → decide (y.cps.toList < x.cps.toList) = false → x = y := fun x y a b => str_of_cps (List.le_antisymm (of_decide_eq_false b) (of_decide_eq_false a))
  exact sorted_uniq (lt := fun x y => decide (x.cps.toList < y.cps.toList)) anti (h1.imp fun h => decide_eq_false h) (h2.imp fun h => decide_eq_false h) p
theorem mem_uniq {m m' : Mem} (p : m'.Perm m) (nd : (m.map (·.1)).Nodup) (h1 : AscL (m'.map (·.1))) (h2 : AscL (m.map (·.1))) : m' = m := by
  have e := asc_uniq h1 h2 (p.map _)
  refine List.ext_getElem? fun i => ?_
  have ei := congrArg (fun l => l[i]?) e
  simp only [List.getElem?_map] at ei
  cases q1 : m'[i]? with
  | none =>
    rw [q1] at ei
    cases q2 : m[i]? with
    | none => rfl
    | some y => rw [q2] at ei; cases ei
  | some x =>
    rw [q1] at ei
    cases q2 : m[i]? with
    | none => rw [q2] at ei; cases ei
    | some y =>
      rw [q2] at ei
      obtain ⟨x1, x2⟩ := x
      obtain ⟨y1, y2⟩ := y
      obtain rfl : x1 = y1 := Option.some.inj ei
      rw [fst_uniq nd (p.mem_iff.mp (List.mem_of_getElem? q1)) (List.mem_of_getElem? q2)]
/-- the rows, the dict itself written anew -/
theorem rows_late {kvs : List (L2.Key × V)} {m : Mem} {d : Addr} {l ks : List (L2.Key × V)} (hk : H d = some (.dK l)) (h : RowsR K CR H kvs m) : RowsR K CR (upd H d (.dK ks)) kvs m := Paired.mapP h fun _ _ r => by
  refine ⟨r.1, ?_⟩
  obtain ⟨a, tb, e, q⟩ := r.2
  obtain ⟨dx', vb, nl, pl, kvs, q1, q2, q3, q4⟩ := q.ex
  have n1 : a ≠ d := fun z => by rw [z, hk] at q1; cases q1
  have n2 : tb ≠ d := fun z => by rw [z, hk] at q3; cases q3
  have tl : TL H (upd H d (.dK ks)) := fun c us z => by
    have nc : c ≠ d := by
      rintro rfl
      rcases z with z | ⟨o, z⟩ <;> rw [hk] at z <;> cases z
    rcases z with z | ⟨o, z⟩
    · exact .inl (by rw [upd_ne nc]; exact z)
    · exact .inr ⟨o, by rw [upd_ne nc]; exact z⟩
  exact ⟨a, tb, e, ⟨dx', vb, nl, pl, kvs, by rw [upd_ne n1]; exact q1, q2.tl tl, by rw [upd_ne n2]; exact q3, q4.tl tl⟩⟩
/-! ### own_routine, with_own -/
def spOwn (K : PySem.W.Frag) (CR CPl : Addr) : Sp := fun vs H Q _ => ∃ a own over m b, vs = [.ref a] ∧ PlayAt K CR CPl H a own over m ∧ (own, b) ∈ m ∧ ∀ v H', Same H H' → NewR K CR H' v b → Q v H'
theorem sc_own_routine : FnScope ["play"] ["play"] (fnScope s_own_routine) := ⟨rfl, rfl, rfl, by decide +kernel, rfl, by decide +kernel, by decide +kernel⟩
theorem c_own_routine (T : Tx w K mg) (PX : Px w K mg CPl) : Cal P w K mg base 4 "own_routine" (spOwn K CR CPl) [] := by
  have PR_routines := p_routines (P := P) (base := base) (CR := CR) T PX
  refine T.d_own_routine.cal sc_own_routine (fun F => ⟨[], .nil, F.bindsN fun _ _ _ _ _ _ us hl => match us, hl with | [_], _ => rfl⟩) (by rintro vs H Q E ⟨a, _, _, _, _, rfl, _⟩; rfl) fun f cdv A outer s H vs Q E hr h => ?_
  obtain ⟨a, own, over, m, b, rfl, pl, hb, hQ⟩ := h
  refine ⟨_, (pss_one (ps_ret (pe_dget (hu1 hr) (pe_prp PR_routines PX.ins.cl hr (by omega) (pv 0)) (pe_fld (pv 0) rfl) (fun _ _ => rfl)))), ?_⟩
  obtain ⟨dx, ov, l, t, i, rs, q1, _⟩ := pl.ex
  refine ⟨.ref a, rfl, a, dx, _, rfl, q1, a, own, over, m, rfl, pl, fun d H1 hd e1 ⟨kvs, hk, rows⟩ => ?_⟩
  obtain ⟨v, hv, hn⟩ := rows.get pl.ok.nd hb
  refine ⟨.ref a, rfl, a, CPl, dx, _, _, rfl, e1 _ _ q1, PX.ins.cl, PX.n_own, rfl, d, v, rfl, ?_, hQ v H1 e1 hn⟩
  have := DGet.k (k := Sum.inr own) hk
  rw [hv] at this
  exact this
def spWO (K : PySem.W.Frag) (CR CPl : Addr) : Sp := fun vs H Q _ => ∃ a r tb own over m b, vs = [.ref a, .ref r] ∧ PlayAt K CR CPl H a own over m ∧ RoutAt K CR H r tb b ∧ BOk b ∧ ∀ a' H', Same H H' → H a' = none → PlayAt K CR CPl H' a' own over (setM own b m) → Q (.ref a') H'
theorem sc_Play_with_own : FnScope ["self", "routine", "changed"] ["self", "routine"] (fnScope s_Play_with_own) := ⟨rfl, rfl, rfl, by decide +kernel, rfl, by decide +kernel, by decide +kernel⟩
theorem t_with_own (T : Tx w K mg) (R : Rx w K mg CR) (PX : Px w K mg CPl) : Met P w K mg base 12 CPl "with_own" (spWO K CR CPl) [] := by
  have PR_routines := p_routines (P := P) (base := base) (CR := CR) T PX
  have C_Play := m_Play (P := P) (base := base) T R PX
  refine PX.d_with.met sc_Play_with_own (fun F => ⟨[], .nil, F.bindsN fun _ _ _ _ _ _ us hl => match us, hl with | [_, _], _ => rfl⟩) (by rintro vs H Q E ⟨a, _, _, _, _, _, _, rfl, _⟩; rfl) fun f cdv A outer s H vs Q E hr h => ?_
  obtain ⟨a, r, tb, own, over, m, b, rfl, pl, rr, hb, hQ⟩ := h
  refine ⟨_, (pss_cons (ps_if (pt_not (pt_val (pe_callB (call_isC R.ins) rfl T.z_isinstance (by decide +kernel) (pa_cons (pv 1) (pa_cons (pe_gc rfl (show ∃ u, mg "Routine" = some u ∧ L2.RelV (.ref CR) u from ⟨_, R.g_cls, rfl⟩)) pa_nil)))))
      pss_never
      pss_nil)
    (pss_cons (ps_set (i := 2) sc_Play_with_own.nd rfl (Or.inl rfl) (pe_prp PR_routines PX.ins.cl hr (by omega) (pv 0)))
    (pss_cons (ps_dput (hu1 hr) (pv 2) (pe_fld (pv 0) rfl) (pv 1) rfl)
    (pss_one (ps_ret (pe_mk C_Play hr (by omega) rfl (pa_cons (pv 2) (pa_cons (pe_fld (pv 0) rfl) (pa_cons (pe_fld (pv 0) rfl) pa_nil))))))))), ?_⟩
  obtain ⟨dx, ov, l, t, i, rs, q1, q2, _⟩ := pl.ex
  obtain ⟨rdx, vb, nl, pl', kvs', r1, _⟩ := rr.ex
  refine skip_go (et_not (et_test (b := true) fun H3 e3 Q q => ⟨_, rfl, r, _, _, rfl, e3.same _ _ r1, q _ _ (.refl trivial) rfl⟩)) fun H1 e1 => ?_
  have pl1 := pl.same e1
  have rr1 := rr.same e1
  refine ⟨.ref a, rfl, a, dx, _, rfl, e1 _ _ q1, a, own, over, m, rfl, pl1, fun d H2 hd e2 ⟨kvs, hk, rows⟩ => ?_⟩
  have rows : RowsR K CR H2 kvs m := rows
  have e12 := e1.trans e2
  have rr2 := rr1.same e2
  have hlen := rows.len
  have hle := pl.ok.le
  refine ⟨.ref r, rfl, .ref d, rfl, .ref a, rfl, a, CPl, dx, _, _, rfl, e12 _ _ q1, PX.ins.cl, PX.n_own, rfl, d, _, rfl, DPut.k (k := Sum.inr own) hk (by rw [sizeLine_eq]; omega), ?_⟩
  have e3 : Same H1 (upd H2 d (.dK (putK kvs (Sum.inr own) (.ref r)))) := Same.late e2 hd
  have e13 := e1.trans e3
  refine ⟨.ref d, rfl, .ref a, rfl, a, CPl, dx, _, _, rfl, e13 _ _ q1, PX.ins.cl, PX.n_own, rfl, .ref a, rfl, a, CPl, dx, _, _, rfl, e13 _ _ q1, PX.ins.cl, PX.n_over, rfl, fun x dx' hx hdx hne => ?_⟩
  have e4 : Same (upd H2 d (.dK (putK kvs (Sum.inr own) (.ref r)))) (upd (upd (upd H2 d (.dK (putK kvs (Sum.inr own) (.ref r)))) dx' (.own x)) x (.ins CPl dx' [])) := Same.late (same_new hdx) hx
  have da : DictAt K CR (upd H2 d (.dK (putK kvs (Sum.inr own) (.ref r)))) d (setM own b m) := by
    have e5 : Same H1 (upd H2 d (.dK (putK kvs (Sum.inr own) (.ref r)))) := e3
    refine ⟨_, upd_same, ?_⟩
    refine rows_put ?_ pl.own_in ⟨r, tb, rfl, rr1.same e3⟩
    exact rows_late hk rows
  refine ⟨x, dx', d, own, ov, over, setM own b m, rfl, upd_same, da.same e4, setM_ok pl.ok hb, by rw [setM_fst]; exact pl.own_in, (q2.same e13).same e4, pl.over_ok, fun H' m' but hpm hpl => ⟨rfl, ?_⟩⟩
  have e6 : Same H H' := fun a o z => but a o (e4 a o (e13 a o z)) (ne_of_none (e13 a o z) hx)
  have hm : m' = setM own b m := mem_uniq hpm (by rw [setM_fst]; exact pl.ok.nd) hpl.asc (by rw [setM_fst]; exact pl.asc)
  subst hm
  exact hQ x H' e6 (fresh_back e13 hx) hpl
end
end Oh
set_option maxHeartbeats 4000000
namespace Oh
open PySem PySem.Spec PyProof.Rows L2
open C8 (Cal Met Mak pe_c pe_mk pe_mt pe_mt0 pe_gc InsC call_isC tCut pss_cut fnBody fnArgs fnScope)
open LamX NdefX
section
variable {P : Program} {w : World} {K : PySem.W.Frag} {mg : Str → Option Value} {base : Heap} {te tb ta tc : TE} {σ : L2.St} {H H' : Hp} {E : XK} {ds es : List PyData} {CR CPl : Addr} {F : Fm}
theorem opns_mem {b : List T} {p : List Int} (h : p ∈ opns b) : ∃ ks, (p, T.mk .opn ks) ∈ bLst [] 0 b := by
  unfold opns at h
  obtain ⟨_, h⟩ := List.mem_filter.mp h
  unfold opnP at h
  obtain ⟨⟨q, t⟩, hm, hq⟩ := List.any_eq_true.mp h
  obtain ⟨h1, h2⟩ := Bool.and_eq_true_iff.mp hq
  obtain rfl : q = p := of_decide_eq_true h1
  obtain ⟨hd, ks⟩ := t
  cases hd <;> first | exact ⟨ks, hm⟩ | cases h2
theorem opns_len {b : List T} : (opns b).length ≤ (bLst [] 0 b).length := by
  unfold opns
  refine Nat.le_trans (List.length_filter_le _ _) ?_
  rw [(srtP_perm _).length_eq, List.length_map]
  exact Nat.le_refl _
abbrev cnts (b : List T) : List V := (opns b).map fun p => V.int (cntAt (bLst [] 0 b) p : Nat)
def spOC (K : PySem.W.Frag) (CR : Addr) : Sp := fun vs H Q _ => ∃ a tb b, vs = [.ref a] ∧ RoutAt K CR H a tb b ∧ BOk b ∧ ∀ l H', H l = none → Same H H' → H' l = some (.lst (cnts b)) → Q (.ref l) H'
theorem sc_open_counts : FnScope ["routine", "path"] ["routine"] (fnScope s_open_counts) := ⟨rfl, rfl, rfl, by decide +kernel, rfl, by decide +kernel, by decide +kernel⟩
theorem c_open_counts (T : Tx w K mg) (R : Rx w K mg CR) : Cal P w K mg base 6 "open_counts" (spOC K CR) [] := by
  have M_open_lines := t_open_lines (P := P) (base := base) T R
  have M_statement := t_statement (P := P) (base := base) T R
  refine T.d_open_counts.cal sc_open_counts (fun F => ⟨[], .nil, F.bindsN fun _ _ _ _ _ _ us hl => match us, hl with | [_], _ => rfl⟩) (by rintro vs H Q E ⟨a, _, _, rfl, _⟩; rfl) fun f cdv A outer s H vs Q E hr h => ?_
  obtain ⟨a, tb, b, rfl, r, ok, hQ⟩ := h
  refine ⟨_, (pss_one (ps_ret (pe_lc (own := [("path", 1)]) (g := (gName 1)) (tt := tYes) rfl sc_open_counts.nd (pi_list (pe_mt0 M_open_lines hr (by omega) (pv 0))) (blkOk_by (own := [("path", 1)]) (N := ["routine", "path"]) (sc := fnScope s_open_counts) (by decide +kernel)) (fun _ _ _ _ _ => (pg_name (i := 1) sc_open_counts.nd rfl (Or.inl rfl))) (fun _ _ _ _ _ => pts_nil) (fun _ _ _ _ _ => (pe_callB (r := rLenQ K) call_len_seq rfl T.z_len PySem.boot_len (pa_cons (pe_ix (r := rIxT K) ix_tup (pe_mt M_statement hr (by omega) (pv 0) (pa_cons (pv 1) pa_nil)) pe_int (fun _ _ => rfl)) pa_nil)))))), ?_⟩
  obtain ⟨dx, vb, nl, pl, kvs, r1, _⟩ := r.ex
  refine ⟨.ref a, rfl, a, dx, _, rfl, r1, rfl, a, tb, b, rfl, r, ok.cnt, fun p xs H1 hp e1 hl hx => ?_⟩
  have hxl := Paired.length hx
  have hnl : (opns b).length ≤ 6000 := Nat.le_trans opns_len (by rw [bLst_len]; exact ok.cnt)
  refine ⟨p, rfl, ⟨xs, .of hl⟩, fun D hD => ?_⟩
  refine lc_it walk_list (fun i H3 => Same H1 H3 ∧ H3 D = some (.lst ((cnts b).take i))) ⟨same_new hD, upd_same⟩ (fun i H3 _ z => .of (z.1 _ _ hl)) ?_ ?_
  · rintro i x H3 H4 hi ⟨e3, hd3⟩ ⟨rfl, hxi⟩
    obtain ⟨q, hq, pa, rfl, hpa⟩ := paired_get hx hxi
    obtain ⟨ks, hks⟩ := opns_mem (List.mem_of_getElem? hq)
    have e13 := e1.trans e3
    refine ⟨rfl, ?_⟩
    unfold tYes
    dsimp only
    rw [if_pos rfl]
    refine ⟨.ref a, rfl, a, dx, _, rfl, e13 _ _ r1, rfl, .ref pa, rfl, a, tb, b, pa, q, Oh.T.mk .opn ks, rfl, r.same e13, e3 _ _ hpa, hks, fun v tv => ?_⟩
    obtain ⟨va, vxs, rfl, vsq, vx⟩ := tv.tupE
    obtain ⟨v1, hv1, tv1⟩ := tda_atI (z := 1) (d := .tuple (bbd ks)) vx rfl
    obtain ⟨wa, wxs, rfl, wsq, wx⟩ := tv1.tupE
    refine ⟨va, vxs, 1, .ref wa, rfl, rfl, vsq, hv1, wa, wxs, rfl, .inr wsq, (cnts b).take i, hd3, ?_, Same.late e3 hD, ?_⟩
    · rw [List.length_take, sizeLine_eq]
      have : (cnts b).length = (opns b).length := List.length_map ..
      omega
    · have hn : wxs.length = cntAt (bLst [] 0 b) q := by
        rw [wx.len, bbd_len, cntAt_at (bLst_nodup [] 0 b) hks]
        rfl
      rw [upd_same, hn, ← take_snoc (xs := cnts b) (x := V.int (cntAt (bLst [] 0 b) q : Nat)) (by rw [List.getElem?_map, hq]; rfl)]
  · rintro H3 ⟨e3, hd3⟩
    rw [hxl, show (cnts b).take (opns b).length = cnts b by rw [← List.length_map (f := fun p => V.int (cntAt (bLst [] 0 b) p : Nat)), List.take_length]] at hd3
    exact hQ D H3 (fresh_back e1 hD) (e1.trans e3) hd3
theorem asg_go {i : Nat} {rest : TS} {D : Ends} (h : te σ H fun v H1 => rest D (σ.set i (some v)) H1) : tSeq (tAsg te (gName i)) rest D σ H := h
def PicksOk (b : List T) (kvs : List (List L2.Key × V)) : Prop := kvs.length = (opns b).length ∧ ∀ p ∈ opns b, ∃ k : Nat, valV kvs (pK p) = some (.int (k : Nat)) ∧ k < cntAt (bLst [] 0 b) p
def spAP (K : PySem.W.Frag) (CR : Addr) : Sp := fun vs H Q _ => ∃ a tb b pa kvs, vs = [.ref a, .ref pa] ∧ RoutAt K CR H a tb b ∧ BOk b ∧ H pa = some (.dT kvs) ∧ PicksOk b kvs ∧ ∀ H', Same H H' → Q (.bl true) H'
theorem sc_are_picks : FnScope ["routine", "picks", "lines", "path", "count"] ["routine", "picks"] (fnScope s_are_picks) := ⟨rfl, rfl, rfl, by decide +kernel, rfl, by decide +kernel, by decide +kernel⟩
theorem c_are_picks (T : Tx w K mg) (R : Rx w K mg CR) : Cal P w K mg base 8 "are_picks" (spAP K CR) [] := by
  have M_open_lines := t_open_lines (P := P) (base := base) T R
  have c_open_counts := c_open_counts (P := P) (base := base) T R
  have c_is_index := c_is_index (P := P) (base := base) T
  refine T.d_are_picks.cal sc_are_picks (fun F => ⟨[], .nil, F.bindsN fun _ _ _ _ _ _ us hl => match us, hl with | [_, _], _ => rfl⟩) (by rintro vs H Q E ⟨a, _, _, _, _, rfl, _⟩; rfl) fun f cdv A outer s H vs Q E hr h => ?_
  obtain ⟨a, tb, b, pa, kvs, rfl, r, ok, hpa, pok, hQ⟩ := h
  refine ⟨_, (pss_cons (ps_set (i := 2) sc_are_picks.nd rfl (Or.inl rfl) (pe_mt0 M_open_lines hr (by omega) (pv 0)))
    (pss_cons (ps_if (PW.pt (pw_or (pt_not (pt_val (pe_callB call_isi rfl T.z_isinstance (by decide +kernel) (pa_cons (pv 1) (pa_cons (pe_bltn (v := .ty "dict") (u := .type "dict") rfl T.z_dict (by decide +kernel) rfl) pa_nil))))) (pw_or1 (pt_cmpR op_ne (pe_callB call_len_dT rfl T.z_len PySem.boot_len (pa_cons (pv 1) pa_nil)) (pe_callB (r := rLenQ K) call_len_seq rfl T.z_len PySem.boot_len (pa_cons (pv 2) pa_nil)) (nomark _)))))
      (pss_one (ps_ret pe_bl))
      pss_nil)
    (pss_cons (ps_for PassesOwn.never rfl (RZ.pi_zipA rfl T.z_zip (pa_cons (pv 2) (pa_cons (pe_c c_open_counts hr (by omega) rfl (pa_cons (pv 0) pa_nil)) pa_nil))) (pg_tup rfl (pgs_cons (pg_name (i := 3) sc_are_picks.nd rfl (Or.inl rfl)) (pgs_cons (pg_name (i := 4) sc_are_picks.nd rfl (Or.inl rfl)) pgs_nil)))
      (pss_one (ps_if (PW.pt (pw_or (pt_cmp (pc_dnotin (hu1 hr) (pv 3) (pv 1))) (pw_or1 (pt_not (pt_val (pe_c c_is_index hr (by omega) rfl (pa_cons (pe_dget (hu1 hr) (pv 1) (pv 3) (fun _ _ => rfl)) (pa_cons (pv 4) pa_nil))))))))
        (pss_one (ps_ret pe_bl))
        pss_nil)))
    (pss_one (ps_ret pe_bl))))), ?_⟩
  obtain ⟨dx, vb, nl, pl, kvs', r1, _⟩ := r.ex
  refine asg_go ⟨.ref a, rfl, a, dx, _, rfl, r1, rfl, a, tb, b, rfl, r, ok.cnt, fun p xs H1 hp e1 hl hx => ?_⟩
  have hxl := Paired.length hx
  have hpa1 := e1 _ _ hpa
  dsimp only
  refine skip_go (evb_is (et_or (et_not (et_B (b := true) fun H3 e3 Q q => ?_)) fun _ => et_test (evv_ne (x := .int kvs.length) (y := .int xs.length) (fun H3 e3 Q q => ?_) (fun H3 e3 Q q => ?_) rfl)) ?_) fun H2 e2 => ?_
  · exact ⟨_, rfl, .ref pa, .ty "dict", _, _, _, rfl, .ty "dict", .base (.dT (e3.same _ _ hpa1)), (show PySem.W.kitOne K (.type "dict") (.type "dict") = some true from rfl), q _ _ (.refl e3.good) rfl⟩
  · exact ⟨_, rfl, pa, kvs, rfl, e3.same _ _ hpa1, q _ _ (.refl e3.good) rfl⟩
  · exact ⟨_, rfl, p, xs, rfl, .inl (.of (e3.same _ _ hl)), q _ _ (.refl e3.good) rfl⟩
  · rw [pok.1, hxl]
    simp
  have e12 := e1.trans e2
  refine ⟨.ref p, rfl, .ref a, rfl, a, tb, b, rfl, r.same e12, ok, fun l H3 hl3 e3 hc => ?_⟩
  have e13 := e12.trans e3
  have hl2 := e3 _ _ (e2 _ _ hl)
  refine ⟨p, l, xs, cnts b, rfl, .inl ⟨.of hl2, .of hc, for_it (walk_zip (n := (opns b).length) (by rw [hxl, List.length_map]; exact (Nat.min_self _).symm)) (fun i σ' H4 => Same H3 H4 ∧ σ'.length = 5 ∧ σ'[1]? = some (some (.ref pa))) ⟨fun _ _ h => h, rfl, rfl⟩ (fun i σ' H4 _ z => ⟨.of (z.1 _ _ hl2), .of (z.1 _ _ hc)⟩) ?_ ?_⟩⟩
  · rintro i x σ' H4 H5 hi ⟨e4, a1, a2⟩ ⟨Tp, y, z, rfl, hT, rfl, hy, hz⟩
    replace hz : (cnts b)[i]? = some z := hz
    replace hy : xs[i]? = some y := hy
    obtain ⟨q, hq, qa, rfl, hqa⟩ := paired_get hx hy
    obtain ⟨k, hk, hkc⟩ := pok.2 q (List.mem_of_getElem? hq)
    rw [List.getElem?_map, hq] at hz
    obtain rfl : V.int (cntAt (bLst [] 0 b) q : Nat) = z := Option.some.inj hz
    have e5 : Same H4 (upd H4 Tp (.tup [.ref qa, .int (cntAt (bLst [] 0 b) q : Nat)])) := same_new hT
    refine pair_into upd_same ?_
    generalize upd H4 Tp (.tup [.ref qa, .int (cntAt (bLst [] 0 b) q : Nat)]) = H5 at e5 ⊢
    have eA : Same H1 H5 := ((e2.trans e3).trans e4).trans e5
    have hg : DGet H5 pa (.ref qa) (some (.int (k : Nat))) := by
      have := DGet.t (k := pK q) (eA _ _ hpa1) (by rw [pK_kV]; exact eA _ _ hqa)
      rw [hk] at this
      exact this
    have s1 : ((σ'.set 3 (some (.ref qa))).set 4 (some (.int (cntAt (bLst [] 0 b) q : Nat))))[1]? = some (some (.ref pa)) := by
      rw [List.getElem?_set_ne (by decide), List.getElem?_set_ne (by decide)]
      exact a2
    have s3 : ((σ'.set 3 (some (.ref qa))).set 4 (some (.int (cntAt (bLst [] 0 b) q : Nat))))[3]? = some (some (.ref qa)) := by
      rw [List.getElem?_set_ne (by decide), List.getElem?_set_self (by omega)]
    have s4 : ((σ'.set 3 (some (.ref qa))).set 4 (some (.int (cntAt (bLst [] 0 b) q : Nat))))[4]? = some (some (.int (cntAt (bLst [] 0 b) q : Nat))) := by
      rw [List.getElem?_set_self (by simp [a1])]
    refine ⟨.ref qa, s3, .ref pa, s1, pa, _, rfl, hg, false, rfl, ?_⟩
    refine ⟨.ref pa, s1, .ref qa, s3, pa, _, rfl, hg, .int (cntAt (bLst [] 0 b) q : Nat), s4, (k : Nat), (cntAt (bLst [] 0 b) q : Nat), rfl, ⟨by omega, by omega⟩, true, rfl, ?_⟩
    exact ⟨e4.trans e5, by simp [a1], s1⟩
  · rintro σ' H4 ⟨e4, _⟩
    exact hQ H4 (e13.trans e4)
theorem mem_opns {b : List T} {r : List Int × T} (h : r ∈ bLst [] 0 b) (o : r.2.isOpn = true) : r.1 ∈ opns b := by
  unfold opns
  refine List.mem_filter.mpr ⟨(srtP_perm _).mem_iff.mpr (List.mem_map.mpr ⟨r, h, rfl⟩), ?_⟩
  rw [opnP_at (bLst_nodup [] 0 b) (p := r.1) (t := r.2) h]
  exact o
theorem NewR.extN {v : V} {b : List T} (h : NewR K CR H v b) (e : ExtN H H') : NewR K CR H' v b := let ⟨a, tb, h1, h2⟩ := h; ⟨a, tb, h1, h2.extN e⟩
theorem PlayAt.extN {a : Addr} {own : Str} {over : List Str} {m : Mem} (h : PlayAt K CR CPl H a own over m) (e : ExtN H H') : PlayAt K CR CPl H' a own over m := by
  obtain ⟨dx, ov, l, t, i, rs, h1, h2, h3, h4, h5⟩ := h.ex
  exact ⟨⟨dx, ov, l, t, i, rs, e _ _ h1 (fun ps z => by cases z), h2.tl (extN_tl e), extN_tl e _ _ h3, e _ _ h4 (fun ps z => by cases z), Paired.mapP h5 fun _ _ r => r.extN e⟩, h.asc, h.ok, h.own_in, h.over_ok⟩
def spFP (K : PySem.W.Frag) (CR CPl Pt : Addr) : Sp := fun vs H Q _ => ∃ a own over m b pa kvs pk, vs = [.ref a, .ref pa] ∧ Tabs [(Pt, lamQ)] H ∧ PlayAt K CR CPl H a own over m ∧ (own, b) ∈ m ∧ H pa = some (.dT kvs) ∧ PicksOk b kvs ∧ (∀ p ∈ opns b, valV kvs (pK p) = some (.int (pk p : Nat))) ∧
  ∀ a' H', ExtN H H' → Tabs [(Pt, lamQ)] H' → PlayAt K CR CPl H' a' own over (setM own (bEd (chP pk) [] 0 b) m) → Q (.ref a') H'
theorem sc_fixed_play : FnScope ["play", "picks", "own"] ["play", "picks"] (fnScope s_fixed_play) := ⟨rfl, rfl, rfl, by decide +kernel, rfl, by decide +kernel, by decide +kernel⟩
theorem c_fixed_play {c Pt : Addr} (T : Tx w K mg) (R : Rx w K mg CR) (PX : Px w K mg CPl) (D : HasC K mg "with_picks" s_with_picks c) (TB : TabB base mg c Pt) : Cal P w K mg base 64 "fixed_play" (spFP K CR CPl Pt) [] := by
  have c_own_routine := c_own_routine (P := P) (base := base) (CR := CR) T PX
  have c_are_picks := c_are_picks (P := P) (base := base) T R
  have c_with_picks := c_with_picks (P := P) (base := base) T R D TB
  have M_with_own := t_with_own (P := P) (base := base) T R PX
  refine T.d_fixed_play.cal sc_fixed_play (fun F => ⟨[], .nil, F.bindsN fun _ _ _ _ _ _ us hl => match us, hl with | [_, _], _ => rfl⟩) (by rintro vs H Q E ⟨a, _, _, _, _, _, _, _, rfl, _⟩; rfl) fun f cdv A outer s H vs Q E hr h => ?_
  obtain ⟨a, own, over, m, b, pa, kvs, pk, rfl, tabs, pl, hb, hpa, pok, hpk, hQ⟩ := h
  refine ⟨_, (pss_cons (ps_set (i := 2) sc_fixed_play.nd rfl (Or.inl rfl) (pe_c c_own_routine hr (by omega) rfl (pa_cons (pv 0) pa_nil)))
    (pss_cons (ps_if (pt_not (pt_val (pe_c c_are_picks hr (by omega) rfl (pa_cons (pv 2) (pa_cons (pv 1) pa_nil)))))
      pss_never
      pss_nil)
    (pss_one (ps_ret (pe_mt M_with_own hr (by omega) (pv 0) (pa_cons (pe_c c_with_picks hr (by omega) rfl (pa_cons (pv 2) (pa_cons (pv 1) pa_nil))) pa_nil)))))), ?_⟩
  have bok := pl.ok.bk _ hb
  have hlt : ∀ r ∈ bLst [] 0 b, r.2.isOpn = true → valV kvs (pK r.1) = some (.int (pk r.1 : Nat)) ∧ pk r.1 < r.2.kids.length := fun r hr o => by
    have hm := mem_opns hr o
    have h1 := hpk _ hm
    obtain ⟨k, h2, h3⟩ := pok.2 _ hm
    rw [cntAt_at (bLst_nodup [] 0 b) (p := r.1) (t := r.2) hr] at h3
    rw [h1] at h2
    have : (pk r.1 : Int) = (k : Int) := by
      injection h2 with h2
      injection h2
    exact ⟨h1, by omega⟩
  have c1 : ChOk (chP pk) (bLst [] 0 b) := fun r hr o => ⟨List.singleton_sublist.mpr (List.mem_range.mpr (hlt r hr o).2), by simp [chP]⟩
  have c2 : DmOk (DmP kvs pk) (bLst [] 0 b) := fun r hr o => (hlt r hr o).1
  refine asg_go ⟨_, rfl, a, own, over, m, b, rfl, pl, hb, fun v H1 e1 ⟨r, tb, hv, rr⟩ => ?_⟩
  subst hv
  have hpa1 := e1 _ _ hpa
  refine skip_go (et_not (et_test (b := true) fun H3 e3 Q q => ⟨_, rfl, _, rfl, r, tb, b, pa, kvs, rfl, rr.same e3.same, bok, e3.same _ _ hpa1, pok, fun H4 e4 => q _ _ (.of0 e4) rfl⟩)) fun H2 e2 => ?_
  have e12 := e1.trans e2
  obtain ⟨dx, ov, l, t, i, rs, q1, _⟩ := pl.ex
  refine ⟨.ref a, rfl, a, dx, _, rfl, e12 _ _ q1, rfl, _, rfl, _, rfl, r, tb, b, pa, kvs, pk, rfl, tabs.ext e12, rr.same e2, bok, e2 _ _ hpa1, ⟨c1, c2⟩, fun v2 H3 e3 tabs3 ⟨r3, tb3, hv3, rr3⟩ => ?_⟩
  subst hv3
  have e13 := (ExtN.of e12).trans e3
  refine ⟨a, r3, tb3, own, over, m, _, rfl, pl.extN e13, rr3, bEd_ok bok c1, fun a' H4 e4 _ pl4 => hQ a' H4 (e13.trans (.of e4)) (tabs3.ext e4) pl4⟩
end
end Oh
set_option maxHeartbeats 4000000
namespace Oh
open PySem PySem.Spec PyProof.Rows L2
open C8 (Cal Met Mak pe_c pe_mk pe_mt pe_mt0 pe_gc InsC call_isC tCut pss_cut fnBody fnArgs fnScope)
open PyData (depth depthAll canLay0 canLayAll0)
def Lay (n : Nat) (d : PyData) : Prop := d.canLay0 = true ∧ d.depth ≤ n
theorem Lay.mono {m n : Nat} {d : PyData} (h : Lay m d) (e : m ≤ n) : Lay n d := ⟨h.1, Nat.le_trans h.2 e⟩
theorem lay_str {x : Str} (h : PyData.strOk x = true) : Lay 0 (.str x) := ⟨h, Nat.le_refl _⟩
theorem lay_all {n : Nat} : ∀ {ds : List PyData}, (∀ d ∈ ds, Lay n d) → canLayAll0 ds = true ∧ depthAll ds ≤ n
  | [], _ => ⟨rfl, Nat.zero_le _⟩
  | d :: ds, h => by
    obtain ⟨a, b⟩ := h d (List.mem_cons_self ..)
    obtain ⟨c, e⟩ := lay_all fun x hx => h x (List.mem_cons_of_mem _ hx)
    exact ⟨by rw [canLayAll0, a, c]; rfl, by rw [depthAll]; exact Nat.max_le.mpr ⟨b, e⟩⟩
theorem lay_tup {n : Nat} {ds : List PyData} (h : ∀ d ∈ ds, Lay n d) : Lay (n + 1) (.tuple ds) := by
  obtain ⟨a, b⟩ := lay_all h
  exact ⟨by rw [canLay0]; exact a, by rw [depth]; omega⟩
theorem strOk_name {x : Str} (h : NameOk x) : PyData.strOk x = true := by
  unfold PyData.strOk
  rw [← Array.all_toList, List.all_eq_true]
  intro c hc
  have := h.2.1 c hc
  exact decide_eq_true (by omega)
theorem lay_name {n : Nat} {x : Str} (h : NameOk x) : Lay n (.str x) := (lay_str (strOk_name h)).mono (Nat.zero_le _)
theorem lay_c {n : Nat} {x : Str} (h : PyData.strOk x = true) : Lay n (.str x) := (lay_str h).mono (Nat.zero_le _)
theorem lay1 {n : Nat} {d : PyData} (h : Lay n d) : ∀ x ∈ [d], Lay n x := fun x hx => by rw [List.mem_singleton.mp hx]; exact h
theorem lay_cons {n : Nat} {d : PyData} {ds : List PyData} (h : Lay n d) (t : ∀ x ∈ ds, Lay n x) : ∀ x ∈ d :: ds, Lay n x := fun x hx => (List.mem_cons.mp hx).elim (fun e => e ▸ h) (t x)
theorem lay_nil {n : Nat} : ∀ x ∈ ([] : List PyData), Lay n x := fun x hx => by cases hx
theorem ex_lay : ∀ {e : Ex}, e.ok → Lay e.ht e.d
  | .dig n, h => ⟨rfl, Nat.zero_le _⟩
  | .nm x, h => lay_tup (lay_cons (lay_c (by decide +kernel)) (lay1 (lay_name h)))
  | .no a, h => lay_tup (lay_cons (lay_c (by decide +kernel)) (lay1 (ex_lay (e := a) h)))
  | .bin o a b, h => lay_tup (lay_cons (lay_c (by cases o <;> decide +kernel)) (lay_cons ((ex_lay (e := a) h.1).mono (Nat.le_max_left _ _)) (lay1 ((ex_lay (e := b) h.2).mono (Nat.le_max_right _ _)))))
theorem bd_lay {n : Nat} : ∀ {b : List T}, (∀ t ∈ b, Lay n t.d) → ∀ d ∈ bd b, Lay n d
  | [], _ => lay_nil
  | t :: ts, h => lay_cons (h t (List.mem_cons_self ..)) (bd_lay fun u hu => h u (List.mem_cons_of_mem _ hu))
theorem bbd_lay {n : Nat} : ∀ {ks : List (List T)}, (∀ b ∈ ks, Lay n (blkD b)) → ∀ d ∈ bbd ks, Lay n d
  | [], _ => lay_nil
  | b :: ks, h => lay_cons (h b (List.mem_cons_self ..)) (bbd_lay fun u hu => h u (List.mem_cons_of_mem _ hu))
theorem rows_lay {n : Nat} : ∀ {rows : List (Str × Str)} {ks : List PyData}, (∀ r ∈ rows, NameOk r.1 ∧ NameOk r.2) → (∀ d ∈ ks, Lay n d) → ∀ d ∈ rowsD rows ks, Lay (n + 1) d
  | [], _, _, _ => lay_nil
  | _ :: _, [], _, _ => lay_nil
  | r :: rs, k :: ks, h1, h2 => lay_cons (lay_tup (lay_cons (lay_name (h1 r (List.mem_cons_self ..)).1) (lay_cons (lay_name (h1 r (List.mem_cons_self ..)).2) (lay1 (h2 k (List.mem_cons_self ..)))))) (rows_lay (fun q hq => h1 q (List.mem_cons_of_mem _ hq)) fun d hd => h2 d (List.mem_cons_of_mem _ hd))
theorem t_lay (t : T) : ∀ {lp : Bool}, T.Ok lp t → Lay (4 * t.ht + 6) t.d := by
  refine T.ind (P := fun t => ∀ {lp : Bool}, T.Ok lp t → Lay (4 * t.ht + 6) t.d) (fun h ks ih => ?_) t
  intro lp ok
  obtain ⟨oh, o12, oall, olv, orep⟩ := ok.inv
  have hk : ∀ b ∈ ks, Lay (4 * bbHt ks + 3) (blkD b) := fun b hb => by
    have hb1 := bht_mem hb
    refine (lay_tup (n := 4 * bHt b + 6) (bd_lay fun t ht => (ih b hb t ht (oall b hb t ht)).mono ?_)).mono (by omega)
    have := ht_mem ht
    omega
  have hx : ∀ {e : Ex} {n : Nat}, e.ok → e.ht ≤ 5 → 5 ≤ n → Lay n e.d := fun h1 h2 h3 => (ex_lay h1).mono (by omega)
  have hd := bbd_lay hk
  show Lay (4 * bbHt ks + 5 + 1) (hdD h (bbd ks))
  cases h with
  | set x e => exact lay_tup (lay_cons (lay_c (by decide +kernel)) (lay_cons (lay_name oh.1.1) (lay1 (hx oh.1.2.1 oh.1.2.2 (by omega)))))
  | tell x e => exact lay_tup (lay_cons (lay_c (by decide +kernel)) (lay_cons (lay_name oh.1.1) (lay1 (hx oh.1.2.1 oh.1.2.2 (by omega)))))
  | hear p x => exact lay_tup (lay_cons (lay_c (by decide +kernel)) (lay_cons (lay_name oh.1.1) (lay1 (lay_name oh.1.2))))
  | leave => exact lay_tup (lay1 (lay_c (by decide +kernel)))
  | home => exact lay_tup (lay1 (lay_c (by decide +kernel)))
  | fail => exact lay_tup (lay1 (lay_c (by decide +kernel)))
  | wait rows => exact lay_tup (lay_cons (lay_c (by decide +kernel)) (lay1 (lay_tup (n := 4 * bbHt ks + 4) (rows_lay oh.2.2.1 hd))))
  | opn => exact lay_tup (lay_cons (lay_c (by decide +kernel)) (lay1 ((lay_tup (n := 4 * bbHt ks + 3) hd).mono (by omega))))
  | iff e => exact lay_tup (lay_cons (lay_c (by decide +kernel)) (lay_cons (hx oh.1.1 oh.1.2 (by omega)) fun d q => (hd d q).mono (by omega)))
  | rep => exact lay_tup (lay_cons (lay_c (by decide +kernel)) fun d q => (hd d q).mono (by omega))
theorem blk_shaped {b : List T} (ok : BOk b) : SeqAt.shaped (blkD b) = true ∧ PyData.eqv (blkD b) (blkD b) = true := by
  have h : Lay 51 (blkD b) := lay_tup (n := 50) (bd_lay fun t ht => (t_lay t (ok.all t ht)).mono (by
    have := ht_mem ht
    have := ok.ht
    omega))
  exact ⟨by unfold SeqAt.shaped; rw [h.1, decide_eq_true (show (blkD b).depth ≤ 64 from Nat.le_trans h.2 (by decide))]; rfl, SeqAt.eqv_refl _ h.1⟩
end Oh
set_option maxHeartbeats 4000000
namespace Oh
open PySem PySem.Spec PyProof.Rows L2
open C8 (Cal Met Mak pe_c pe_mk pe_mt pe_mt0 pe_gc InsC call_isC tCut pss_cut fnBody fnArgs fnScope)
open LamX NdefX
section
variable {P : Program} {w : World} {K : PySem.W.Frag} {mg : Str → Option Value} {base : Heap} {te tb ta tc : TE} {σ : L2.St} {H H' : Hp} {E : XK} {ds es : List PyData} {CR CPl : Addr} {F : Fm}
theorem evv_eqD {d e : PyData} (ha : EvD F K ta σ H d) (hb : EvD F K tb σ H e) (h1 : SeqAt.shaped d = true) (h2 : SeqAt.shaped e = true) : EvV F (tOp (rEqD K) ta tb) σ H (.bl (PyData.eqv d e)) :=
  ev_op ha hb fun x y H1 e1 ⟨d1, q1, p1⟩ ⟨d2, q2, p2⟩ Q q => by
    subst q1
    subst q2
    exact ⟨_, _, p1.dp, p2.dp, h1, h2, q _ _ (.refl e1.good) rfl⟩
theorem evv_neD {d e : PyData} (ha : EvD F K ta σ H d) (hb : EvD F K tb σ H e) (h1 : SeqAt.shaped d = true) (h2 : SeqAt.shaped e = true) : EvV F (tOp (rNeD K) ta tb) σ H (.bl (!PyData.eqv d e)) :=
  ev_op ha hb fun x y H1 e1 ⟨d1, q1, p1⟩ ⟨d2, q2, p2⟩ Q q => by
    subst q1
    subst q2
    exact ⟨_, _, p1.dp, p2.dp, h1, h2, q _ _ (.refl e1.good) rfl⟩
theorem evv_isC {i : Nat} {a C dx : Addr} {fs : List (Str × V)} (g : F.G H) (hi : σ[i]? = some (some (.ref a))) (ha : H a = some (.ins C dx fs)) (na : ¬ F.sp a) : EvV F (tCB (fun xs H Q => ∃ a dx fs, xs = [.ref a, .ref C] ∧ H a = some (.ins C dx fs) ∧ Q (.bl true) H) (tCons (tVar i) (tCons (tC (.ref C)) tNil))) σ H (.bl true) := fun H1 e Q q =>
  ⟨_, hi, a, dx, fs, rfl, e.1 _ _ ha na, q _ _ (.refl e.good) rfl⟩
/-- x.f, the field of an instance -/
theorem evv_fld {i : Nat} {a C dx : Addr} {fs : List (Str × V)} {x : Str} {v : V} (g : F.G H) (hs : σ[i]? = some (some (.ref a))) (ha : H a = some (.ins C dx fs)) (na : ¬ F.sp a) (hc : Cls K C) (hn : NoAttr K C x) (hv : fs.lookup x = some v) : EvV F (tFld K (tVar i) x) σ H v := fun H1 e Q q =>
  ⟨.ref a, hs, a, C, dx, fs, v, rfl, e.1 _ _ ha na, hc, hn, hv, q _ _ (.refl e.good) rfl⟩
theorem strs_shaped {ss : List Str} (h : ∀ z ∈ ss, NameOk z) : SeqAt.shaped (.tuple (ss.map .str)) = true ∧ PyData.eqv (.tuple (ss.map .str)) (.tuple (ss.map .str)) = true := by
  have h : Lay 1 (.tuple (ss.map .str)) := lay_tup (n := 0) fun d hd => by
    obtain ⟨z, hz, rfl⟩ := List.mem_map.mp hd
    exact lay_name (h z hz)
  exact ⟨by unfold SeqAt.shaped; rw [h.1, decide_eq_true (show (PyData.tuple (ss.map .str)).depth ≤ 64 from Nat.le_trans h.2 (by decide))]; rfl, SeqAt.eqv_refl _ h.1⟩
theorem tda_of_strs : ∀ ss : List Str, TdA K H (ss.map V.str) (ss.map .str)
  | [] => .nil
  | s :: ss => .cons (.str s) (tda_of_strs ss)
theorem td_strs {a : Addr} {ss : List Str} (h : SqT K H a (ss.map V.str)) : Td K H (.ref a) (.tuple (ss.map .str)) := .tup h (tda_of_strs ss)
/-! ### == of routines, of plays -/
def RrEq (K : PySem.W.Frag) (CR : Addr) : Addr → Addr → Hp → Prop := fun a b H => ∃ ta tb bk, RoutAt K CR H a ta bk ∧ RoutAt K CR H b tb bk ∧ BOk bk
def RpEq (K : PySem.W.Frag) (CR CPl : Addr) : Addr → Addr → Hp → Prop := fun a b H => ∃ own over m, PlayAt K CR CPl H a own over m ∧ PlayAt K CR CPl H b own over m
theorem sc_Routine_eq : FnScope ["self", "other"] ["self", "other"] (fnScope s_Routine_eq) := ⟨rfl, rfl, rfl, by decide +kernel, rfl, by decide +kernel, by decide +kernel⟩
theorem t_req (T : Tx w K mg) (R : Rx w K mg CR) : Met P w K mg base 2 CR "__eq__" (spEq (RrEq K CR)) [] := by
  refine R.d_eq.met sc_Routine_eq (fun F => ⟨[], .nil, F.bindsN fun _ _ _ _ _ _ us hl => match us, hl with | [_, _], _ => rfl⟩) (by rintro vs H Q E ⟨a, b, rfl, _⟩; rfl) fun f cdv A outer s H vs Q E hr h => ?_
  obtain ⟨a, b, rfl, ⟨ta, tb, bk, r1, r2, ok⟩, hQ⟩ := h
  refine ⟨_, (pss_one (ps_ret (pe_and (pe_callB (call_isC R.ins) rfl T.z_isinstance (by decide +kernel) (pa_cons (pv 1) (pa_cons (pe_gc rfl (show ∃ u, mg "Routine" = some u ∧ L2.RelV (.ref CR) u from ⟨_, R.g_cls, rfl⟩)) pa_nil))) (pe_one (pe_cmpR (op_eqD (hu64 hr)) (pe_fld (pv 0) rfl) (pe_fld (pv 1) rfl) (nomark _)))))), ?_⟩
  obtain ⟨dx, v, nl, pl, kvs, q1, q2, _⟩ := r1.ex
  obtain ⟨dx', v', nl', pl', kvs', q1', q2', _⟩ := r2.ex
  obtain ⟨h1, h2⟩ := blk_shaped ok
  refine run_go (R := .eq (.bl true)) (run_ret ((evv_and (evv_isC trivial rfl q1' (fun z => z)) fun _ => evv_eqD (evd_fld trivial rfl q1 (fun z => z) R.ins.cl R.n_block rfl q2) (evd_fld trivial rfl q1' (fun z => z) R.ins.cl R.n_block rfl q2') h1 h1).sub fun v H1 _ e => ?_)) fun v H1 e p => by rw [show v = V.bl true from p]; exact hQ H1 e
  rw [show v = _ from e, h2]
  rfl
theorem rg_members {X : Cx} {n : Nat} (c : Met X.prog X.w X.K X.mg X.base n CR "__eq__" (spEq (RrEq X.K CR)) []) : RcG X (n + 1) (DTup X.K (DIns CR (RrEq X.K CR))) := by
  obtain ⟨f, fd, ps, ds, hc, hm, F, b, d⟩ := c.ex
  cases d
  exact rcG_tup (mon_ins fun a b H H' e ⟨ta, tb, bk, h1, h2, h3⟩ => ⟨ta, tb, bk, h1.same e, h2.same e, h3⟩) (eqG_ins (E := C8.E0) F hm.at_ hm.fn b C8.pass0)
theorem rg_play {X : Cx} {n : Nat} (c : Met X.prog X.w X.K X.mg X.base n CPl "__eq__" (spEq (RpEq X.K CR CPl)) []) : RcG X n (DIns CPl (RpEq X.K CR CPl)) := by
  obtain ⟨f, fd, ps, ds, hc, hm, F, b, d⟩ := c.ex
  cases d
  exact rcG_ins (E := C8.E0) F hm.at_ hm.fn b C8.pass0
theorem sc_Play_eq : FnScope ["self", "other"] ["self", "other"] (fnScope s_Play_eq) := ⟨rfl, rfl, rfl, by decide +kernel, rfl, by decide +kernel, by decide +kernel⟩
theorem t_peq (T : Tx w K mg) (R : Rx w K mg CR) (PX : Px w K mg CPl) : Met P w K mg base 8 CPl "__eq__" (spEq (RpEq K CR CPl)) [] := by
  have M_req := t_req (P := P) (base := base) T R
  refine PX.d_eq.met sc_Play_eq (fun F => ⟨[], .nil, F.bindsN fun _ _ _ _ _ _ us hl => match us, hl with | [_, _], _ => rfl⟩) (by rintro vs H Q E ⟨a, b, rfl, _⟩; rfl) fun f cdv A outer s H vs Q E hr h => ?_
  obtain ⟨a, b, rfl, ⟨own, over, m, p1, p2⟩, hQ⟩ := h
  refine ⟨_, (pss_cons (ps_if (pt_not (pt_val (pe_callB (call_isC PX.ins) rfl T.z_isinstance (by decide +kernel) (pa_cons (pv 1) (pa_cons (pe_gc rfl (show ∃ u, mg "Play" = some u ∧ L2.RelV (.ref CPl) u from ⟨_, PX.g_cls, rfl⟩)) pa_nil)))))
      (pss_one (ps_ret pe_bl))
      pss_nil)
    (pss_cons (ps_if (PW.pt (pw_or (pt_cmpR (op_neD (hu64 hr)) (pe_fld (pv 0) rfl) (pe_fld (pv 1) rfl) (nomark _)) (pw_or (pt_cmpR op_ne (pe_fld (pv 0) rfl) (pe_fld (pv 1) rfl) (nomark _)) (pw_or1 (pt_cmpR (op_neD (hu64 hr)) (pe_fld (pv 0) rfl) (pe_fld (pv 1) rfl) (nomark _))))))
      (pss_one (ps_ret pe_bl))
      pss_nil)
    (pss_one (ps_ret (pe_cmpR (op_eqG (rg_members M_req) (hr.mono (by omega))) (pe_fld (pv 0) rfl) (pe_fld (pv 1) rfl) (nomark _)))))), ?_⟩
  obtain ⟨dx, ov, l, t, i, rs, q1, q2, q3, q4, q5⟩ := p1.ex
  obtain ⟨dx', ov', l', t', i', rs', q1', q2', q3', q4', q5'⟩ := p2.ex
  refine skip_go (et_not (et_test (evv_isC trivial rfl q1' (fun z => z)))) fun H1 e1 => ?_
  have f0 : ∀ {a : Addr}, ¬ F0.sp a := fun z => z
  have hl := strs_shaped (ss := m.map (·.1)) fun z hz => by
    obtain ⟨p, hp, rfl⟩ := List.mem_map.mp hz
    exact p1.ok.nm p hp
  have ho := strs_shaped p1.over_ok.1
  refine skip_go (evb_is (et_or (et_test (evv_neD (evd_fld trivial rfl (e1 _ _ q1) f0 PX.ins.cl PX.n_line rfl (td_strs (.inl (Same.rd e1 q3)))) (evd_fld trivial rfl (e1 _ _ q1') f0 PX.ins.cl PX.n_line rfl (td_strs (.inl (Same.rd e1 q3')))) hl.1 hl.1)) fun _ =>
    et_or (et_test (evv_ne (evv_fld trivial rfl (e1 _ _ q1) f0 PX.ins.cl PX.n_own rfl) (evv_fld trivial rfl (e1 _ _ q1') f0 PX.ins.cl PX.n_own rfl) rfl)) fun _ =>
    et_test (evv_neD (evd_fld trivial rfl (e1 _ _ q1) f0 PX.ins.cl PX.n_over rfl (q2.same e1)) (evd_fld trivial rfl (e1 _ _ q1') f0 PX.ins.cl PX.n_over rfl (q2'.same e1)) ho.1 ho.1)) ?_) fun H2 e2 => ?_
  · rw [hl.2, ho.2]
    simp
  have e12 := e1.trans e2
  refine ⟨.ref a, rfl, a, CPl, dx, _, .ref t, rfl, e12 _ _ q1, PX.ins.cl, PX.n_members, rfl, .ref b, rfl, b, CPl, dx', _, .ref t', rfl, e12 _ _ q1', PX.ins.cl, PX.n_members, rfl, ⟨t, t', rs, rs', rfl, rfl, .of (e12 _ _ q4), .of (e12 _ _ q4'), ?_⟩, fun H3 e3 => hQ H3 (e12.trans e3)⟩
  refine ⟨(Paired.length q5).trans (Paired.length q5').symm, fun i x y hx hy => ?_⟩
  obtain ⟨p, hp, ra, tra, rfl, hra⟩ := paired_get q5 hx
  obtain ⟨p', hp', rb, trb, rfl, hrb⟩ := paired_get q5' hy
  rw [hp] at hp'
  cases hp'
  obtain ⟨_, _, _, _, _, z1, _⟩ := hra.ex
  obtain ⟨_, _, _, _, _, z2, _⟩ := hrb.ex
  exact ⟨ra, rb, _, _, _, _, rfl, rfl, e12 _ _ z1, e12 _ _ z2, tra, trb, p.2, hra.same e12, hrb.same e12, p1.ok.bk p (List.mem_of_getElem? hp)⟩
end
end Oh
set_option maxHeartbeats 4000000
namespace Oh
open PySem PySem.Spec PyProof.Rows L2
open C8 (Cal Met Mak pe_c pe_mk pe_mt pe_mt0 pe_gc InsC call_isC tCut pss_cut fnBody fnArgs fnScope)
/-! ### dicts with tuple keys: dict(d), d.clear(), d != e -/
def hT (w : World) (P : Program) (k : List L2.Key) : Int := (tupleKind (mixKind P w)).hash k
theorem mt_clearT {X : Cx} : MtR X "dict.clear" (fun x xs H Q => ∃ (a : Addr) (kvs : List (List L2.Key × V)), x = .ref a ∧ xs = [] ∧ H a = some (.dT kvs) ∧ Q .non (upd H a (.dT []))) := by
  intro pins s σ H x xs v us Q I rx rs h
  obtain ⟨a, kvs, rfl, rfl, ha, q⟩ := h
  cases rx
  cases rs
  obtain ⟨z, hd, xs, rel, dd⟩ := dt_of I.hok ha
  refine clear_keyed (kvs := pairsH xs) ⟨xs, dd, rfl⟩ (fun h' dd' hs => ?_) (by rw [pairsH_length, ← Paired.length rel]; exact z)
  obtain ⟨ys, ⟨o, es, ep, ho, h2, h3, h4, _, h5⟩, he⟩ := dd'
  have hy : ys = [] := by cases ys with
    | nil => rfl
    | cons y ys => cases he
  subst hy
  exact ⟨.non, _, d_write (t' := s.toks) I (by rw [ha]; exact True.intro) hs ⟨o, ho⟩ (show ObjOk X.prog X.w _ h' a (.dT []) from ⟨Nat.zero_le _, hd, [], .nil, o, es, ep, ho, h2, h3, h4, h5⟩), rfl, q⟩
theorem call_dictH {prog : Program} {w : World} {κ : Type} [DecidableEq κ] {knd : HeapKind prog w κ} {A : Around} {E : Value → Shared → Prop} {s : Shared} {o : Addr} {more : List (κ × Addr × Value)} {Q : Value → Shared → Prop} (st : knd.Stays) (hu : knd.room A.in1.in1) (hoS : (o == sysModules) = false) (ho : s.heap.DictOfH knd o more) (hsz : more.length ≤ sizeLine)
    (hty : ∀ x ∈ more, s.TypeIs (.ref x.2.1) "tuple") (hap : (more.map fun x => knd.hash x.1).Nodup)
    (h : ∀ h', h'.DictOfH knd s.heap.objs.size more → Heap.SameBut s.heap.objs.size (s.heap.push { cls := .type "dict", data := .dict #[] }) h' → Q (.ref s.heap.objs.size) { s with heap := h' }) :
    wpAny (model prog w) A (call (.type "dict") [.ref o]) Q E s := by
  refine callType_codes (Q₁ := fun obj s₁ => obj = .ref s.heap.objs.size ∧ s₁ = { s with heap := s.heap.push { cls := .type "dict", data := .dict #[] } }) F.kt_called_dict (F.kt_typeCall_dict_1 _) F.entry_dict_init (kt_code_dict_new _ ⟨rfl, rfl⟩) ?_
  rintro obj s₁ ⟨rfl, rfl⟩
  have hnew : (s.heap.push { cls := .type "dict", data := .dict #[] }).DictOfH knd s.heap.objs.size [] := Heap.DictOfH.new s.heap
  have hdo : s.heap.objs.size ≠ o := by
    obtain ⟨_, _, _, hg, _⟩ := ho
    exact fun e => absurd (Heap.lt_size hg) (by rw [e]; exact Nat.lt_irrefl _)
  have ho' : (s.heap.push { cls := .type "dict", data := .dict #[] }).DictOfH knd o more := by
    obtain ⟨od, es, ep, h1, h2, h3, h4, h5, h6⟩ := ho
    exact ⟨od, es, ep, Heap.get?_push_of_some _ h1, h2, h3, h4, fun x hx => st.stays (fun b o vs n e _ => Heap.get?_push_of_some _ e) (h5 x hx), h6⟩
  refine ⟨hnew.typeIs, F.args_dict_init_2 _ _, ?_⟩
  unfold Builtin.«dict.__init__»
  refine wpAny_bind ?_
  unfold Builtin.Dict.selfAndRest
  refine wpAny_bind (wpAny_notOrdered_dict hnew.typeIs ?_)
  show wpAny _ _ (pure (s.heap.objs.size, [Value.ref o])) _ _ _
  refine wpAny_pure ?_
  show wpAny _ _ (Builtin.Dict.updateFrom "dict.__init__" s.heap.objs.size (.ref o) [] .none) _ _ _
  unfold Builtin.Dict.updateFrom
  refine wpAny_bind (wpAny_typeOf ho'.typeIs ?_)
  rw [if_neg (by decide)]
  refine wpAny_bind ?_
  unfold Builtin.Dict.merge
  refine wpAny_bind ?_
  unfold Builtin.Dict.readDirectly
  refine wpAny_bind (wpAny_isInstance ho'.typeIs isSubtype_dict_dict ?_)
  simp only [Bool.not_true, Bool.false_eq_true, if_false]
  refine wpAny_bind (wpAny_specialOf ho'.typeIs F.slot_dict_iter.lookup (wpAny_pure ?_))
  simp only [beq_self_eq_true, if_true]
  refine wpAny_bind (wpAny_pure ?_)
  refine wpAny_mergeDict_heap (hsz := by simpa using hsz) hu hdo hoS hnew ho' (.inr ⟨fun x hx => ?_, hap⟩) fun h' hd' _ hs' => ?_
  · obtain ⟨o, ho, hc⟩ := hty x hx
    exact ⟨o, Heap.get?_push_of_some _ ho, hc⟩
  show wpAny _ _ (Builtin.Dict.addKeywords s.heap.objs.size [] >>= _) _ _ _
  rw [storedAllH_nil_of_nodup more ho.nodup] at hd'
  exact wpAny_bind (wpAny_pure (wpAny_pure ⟨rfl, h h' hd' hs'⟩))
theorem call_dictT {X : Cx} (hu : X.A.units + 2 < cLine) : CallR X (.type "dict") (fun xs H Q => ∃ (a : Addr) (kvs : List (List L2.Key × V)), xs = [.ref a] ∧ H a = some (.dT kvs) ∧ (kvs.map fun p => hT X.w X.prog p.1).Nodup ∧ ∀ p, H p = none → Q (.ref p) (upd H p (.dT kvs))) := by
  intro pins s σ H xs us Q I r q
  obtain ⟨a, kvs, rfl, ha, hap, q⟩ := q
  obtain ⟨u, rfl, rx⟩ := vals1 r
  cases rx
  obtain ⟨z, lo, ys, rel, dd⟩ := dt_of I.hok ha
  have hk : kvs.map (·.1) = ys.map (·.1) := by
    clear hap dd ha z q
    induction rel with
    | nil => rfl
    | cons r t ih => simp only [List.map_cons, ih, r.1]
  have hap' : (ys.map fun x => hT X.w X.prog x.1).Nodup := by
    have e : (ys.map fun x => hT X.w X.prog x.1) = (ys.map (·.1)).map (hT X.w X.prog) := by rw [List.map_map]; rfl
    rw [e, ← hk, List.map_map]
    exact hap
  refine call_dictH tupleKind_stays (tupleKind_room_in1 (A := X.A.in1) hu) lo dd (by rw [← Paired.length rel]; exact z) (fun x hx => keyed_apart tupleKind_stays dd x hx) hap' fun h' d' hs => ?_
  have hm : (s.heap.objs.size == sysModules) = false := beq_eq_false_iff_ne.mpr (Nat.ne_of_gt I.big)
  have fr : H s.heap.objs.size = none := I.hok.fresh (Nat.le_refl _)
  obtain ⟨o, es, ep, ho, h2, h3, h4, _, h5⟩ := d'
  refine ⟨.ref s.heap.objs.size, upd H s.heap.objs.size (.dT kvs), I.laid (t' := s.toks) (fun b u e => (hs.2 b (Nat.ne_of_lt (Heap.lt_size e))).trans (Heap.get?_push_of_some _ e)) (Nat.le_refl _)
    (show ObjOk X.prog X.w _ _ _ (.dT kvs) from ⟨z, hm, ys, Paired.mapP rel fun p y r => ⟨r.1, same_new fr _ _ r.2.1, r.2.2⟩, o, es, ep, ho, h2, h3, h4, h5⟩), rfl, q _ fr⟩
section
variable {prog : Program} {w : World} {κ : Type} [DecidableEq κ] {knd : HeapKind prog w κ} {A : Around} {E : Value → Shared → Prop} {s : Shared}
theorem samePairsH {nm : String} {a b : Addr} {xs ys : List (κ × Addr × Value)} {Q : Bool → Shared → Prop} (hu : knd.room A) (ha : (a == sysModules) = false) (hb : (b == sysModules) = false)
    (da : s.heap.DictOfH knd a xs) (db : s.heap.DictOfH knd b ys) (hlen : xs.length = ys.length) (hits : ∀ x ∈ xs, ∃ (j : Nat) (p : Addr × Value), ys[j]? = some (x.1, p) ∧ SeqAt.EqAt A s x.2.2 p.2 true) (h : Q true s) :
    wpAny (model prog w) A (Builtin.Dict.samePairs nm a b) Q E s := by
  obtain ⟨oa, es, ep, hoa, _, hda, hka, hpa, hna⟩ := da
  obtain ⟨ob, es', ep', hob, _, hdb, hkb, hpb, hnb⟩ := db
  have hla : es.size = xs.length := size_of_entries hka
  have hlb : es'.size = ys.length := size_of_entries hkb
  unfold Builtin.Dict.samePairs Builtin.Dict.showsAll
  rw [if_neg (show ¬ (a == sysModules) = true by rw [ha]; exact Bool.false_ne_true), if_neg (show ¬ (b == sysModules) = true by rw [hb]; exact Bool.false_ne_true)]
  refine wpAny_bind (wpAny_pure (wpAny_bind (wpAny_pure ?_)))
  refine wpAny_bind (wpAny_dictEntries hoa hda ?_)
  dsimp only
  refine wpAny_bind (wpAny_dictEntries hob hdb ?_)
  have hsz : es.size = es'.size := by rw [hla, hlb, hlen]
  rw [if_neg (by rw [hsz]; simp)]
  refine wpAny_bind (wpAny_dictEpoch hoa hda ?_)
  refine wpAny_bind ?_
  rw [Std.Legacy.Range.forIn_eq_forIn_range']
  simp only [Std.Legacy.Range.size, Nat.sub_zero, Nat.add_sub_cancel, Nat.div_one]
  refine wpAny_forIn_list _
    (fun rest q s' => s' = s ∧ q = (none, ()) ∧ ∃ i, rest = List.range' i (es.size - i) ∧ i ≤ es.size)
    _ ?_ ?_ _ _ ⟨rfl, rfl, 0, by simp, Nat.zero_le _⟩
  · rintro x rest q s' ⟨rfl, rfl, i, hr, hi⟩
    have hlt : i < es.size := by
      rcases Nat.lt_or_ge i es.size with h | h
      · exact h
      · rw [Nat.sub_eq_zero_of_le h] at hr; simp at hr
    obtain ⟨rfl, hrest⟩ : x = i ∧ rest = List.range' (i + 1) (es.size - (i + 1)) := by
      have e : es.size - i = (es.size - (i + 1)) + 1 := by omega
      rw [e, List.range'_succ] at hr
      injection hr with h1 h2
      exact ⟨h1, h2⟩
    refine wpAny_bind (wpAny_dictEntries hoa hda ?_)
    rw [Array.getElem?_eq_getElem hlt]
    have hlt' : x < xs.length := by rw [← hla]; exact hlt
    have he := entry_at hka x
    rw [Array.getElem?_eq_getElem hlt, List.getElem?_eq_getElem hlt'] at he
    have he := Option.some.inj he
    have hx : xs[x] ∈ xs := List.getElem_mem hlt'
    obtain ⟨j, p, hj, eq⟩ := hits _ hx
    show wpAny _ _ (holding [es[x].key, es[x].val] _ >>= _) _ _ _
    rw [he]
    refine wpAny_bind (wpAny_holding (wpAny_bind (wpAny_dictFind_heap hu (hpa _ hx) hob hdb hkb hpb hnb (fun hn => absurd hj (hn j p)) fun j' p' hj' => ?_)))
    have hjj : j' = j := by
      have h1 : (ys.map (·.1))[j']? = some xs[x].1 := by rw [List.getElem?_map, hj']; rfl
      have h2 : (ys.map (·.1))[j]? = some xs[x].1 := by rw [List.getElem?_map, hj]; rfl
      exact (List.getElem?_inj (List.getElem?_eq_some_iff.mp h1).1 hnb).mp (h1.trans h2.symm)
    subst hjj
    rw [hj] at hj'
    cases hj'
    refine wpAny_bind (wpAny_dictEntries hob hdb ?_)
    have he' := entry_at hkb j'
    rw [hj] at he'
    rw [he']
    refine wpAny_holding (eq prog w _ _ ?_)
    show wpAny _ _ (if (!true) = true then _ else _) _ _ _
    rw [if_neg (by decide)]
    refine wpAny_bind (wpAny_dictEpoch hoa hda ?_)
    rw [if_neg (by simp)]
    exact wpAny_pure ⟨rfl, rfl, x + 1, hrest, hlt⟩
  · rintro q s' ⟨rfl, rfl, i, hr, hi⟩
    exact wpAny_pure h
end
theorem paired_getR' {α β : Type} {R : α → β → Prop} {xs : List α} {ys : List β} (h : Paired R xs ys) : ∀ {i : Nat} {y : β}, ys[i]? = some y → ∃ x, xs[i]? = some x ∧ R x y := by
  induction h with
  | nil => intro i y e; simp at e
  | cons r t ih =>
    intro i y e
    cases i with
    | zero => exact ⟨_, rfl, by cases e; exact r⟩
    | succ i => exact ih (by simpa using e)
theorem paired_getL' {α β : Type} {R : α → β → Prop} {xs : List α} {ys : List β} (h : Paired R xs ys) : ∀ {i : Nat} {x : α}, xs[i]? = some x → ∃ y, ys[i]? = some y ∧ R x y := by
  induction h with
  | nil => intro i y e; simp at e
  | cons r t ih =>
    intro i y e
    cases i with
    | zero => exact ⟨_, rfl, by cases e; exact r⟩
    | succ i => exact ih (by simpa using e)
def rNeT : R2 := fun x y H Q => ∃ (a b : Addr) (kvs : List (List L2.Key × V)), x = .ref a ∧ y = .ref b ∧ H a = some (.dT kvs) ∧ H b = some (.dT kvs) ∧ (∀ p ∈ kvs, flatB p.2 = true) ∧ Q (.bl false) H
theorem op_neT {X : Cx} (hu : X.A.units + 1 < cLine) : OpR X (compareOp .NotEq) rNeT := by
  intro pins s σ H x y v u Q I rx ry h
  obtain ⟨a, b, kvs, rfl, rfl, ha, hb, hp, q⟩ := h
  obtain rfl : v = Value.ref a := rx
  obtain rfl : u = Value.ref b := ry
  obtain ⟨_, ya, xs, ra, da⟩ := dt_of I.hok ha
  obtain ⟨_, yb, ys, rb, db⟩ := dt_of I.hok hb
  have hits : ∀ z ∈ xs, ∃ (j : Nat) (p : Addr × Value), ys[j]? = some (z.1, p) ∧ SeqAt.EqAt X.A.in1 s z.2.2 p.2 true := fun z hz => by
    obtain ⟨j, hj⟩ := List.mem_iff_getElem?.mp hz
    obtain ⟨kv, hkv, r1⟩ := paired_getR' ra hj
    obtain ⟨z', hz', r2⟩ := paired_getL' rb hkv
    exact ⟨j, z'.2, by rw [hz', ← r1.1, r2.1], eqAt_same r1.2.2 r2.2.2 (hp kv (List.mem_of_getElem? hkv))⟩
  refine wpAny_richCompare_same_room (op := .NotEq) da.typeIs db.typeIs PySem.F.slot_dict_ne (wpAny_call_entry PySem.F.slot_dict_ne da.typeIs PySem.F.entry_dict_ne ?_ (PySem.F.args_dict_ne_2 _ _)) (by omega)
  show wpAny _ _ (Builtin.Dict.dictSlotArgs "__ne__" ⟨[.ref a, .ref b], []⟩ >>= _) _ _ s
  refine wpAny_bind ?_
  unfold Builtin.Dict.dictSlotArgs
  refine wpAny_bind (wpAny_notOrdered_dict da.typeIs ?_)
  show wpAny _ _ (pure (Value.ref a, Value.ref b)) _ _ s
  refine wpAny_pure ?_
  refine wpAny_bind (wpAny_isInstance (T := "dict") db.typeIs PySem.F.sub_dict_dict ?_)
  simp only [Bool.not_true, Bool.false_eq_true, if_false]
  refine wpAny_bind (wpAny_pure (wpAny_bind (wpAny_pure ?_)))
  refine wpAny_bind (samePairsH (tupleKind_room_in1 hu) ya yb da db ((Paired.length ra).symm.trans (Paired.length rb)) hits ?_)
  refine wpAny_pure ⟨_, rfl, ?_, ?_⟩
  · exact fun x => nomatch x
  · exact ⟨.bl false, H, I, rfl, q⟩
end Oh
set_option maxHeartbeats 4000000
namespace Oh
open PySem PySem.Spec PyProof.Rows L2
open C8 (Cal Met Mak pe_c pe_mk pe_mt pe_mt0 pe_gc InsC call_isC tCut pss_cut fnBody fnArgs fnScope)
/-! ### != of instances by object.__ne__ over an own __eq__ -/
section
variable {prog : Program} {w : World} {A : Around} {E : Value → Shared → Prop} {K : PySem.W.Frag} {s : Shared} {h₀ : Heap} {L x C f : Addr} {m : Str → Option Value} {ox : Obj} {od : Option Obj} {b tb : Value}
open PySem.W
theorem objNe_K {Q : Fin → Shared → Prop} (X : K.In s.heap) (I : InstAt s.heap x ox C od) (hs : findIn K (.ref C) "__eq__" = some (some (.ref f))) (hf : isFn K (.ref f) = true) (hu : A.units < cLine)
    (hcall : wpAny (model prog w) A (call (.ref f) [.ref x, b]) (fun v s' => ∃ c, v = .bool c ∧ Q (.done (.ret (.bool (!c)))) s') E s) :
    wpAny (model prog w) A (Builtin.«object.__ne__» ⟨[.ref x, b], []⟩) Q E s := by
  unfold Builtin.«object.__ne__»
  show wpAny _ _ (cRoomFor "comparison" [.ref x, b] >>= _) _ _ _
  refine wpAny_bind (wpAny_cRoomFor hu ?_)
  refine wpAny_bind (ifBound_K X I hs hf (wpAny_mono hcall (fun v s' hv => ?_) fun _ _ e => e))
  obtain ⟨c, rfl, hq⟩ := hv
  refine wpAny_bind (wpAny_truthy_bool ?_)
  exact wpAny_pure hq
theorem ifBoundNe_K {Q : Option Value → Shared → Prop} {args : List Value} (X : K.In s.heap) (I : InstAt s.heap x ox C od) (hn : findIn K (.ref C) "__ne__" = some (some (.builtin "object.__ne__")))
    (h : wpAny (model prog w) A (call (.builtin "object.__ne__") (.ref x :: args)) (fun v => Q (some v)) E s) : wpAny (model prog w) A (callSpecialIfBound? (.ref x) "__ne__" args) Q E s := by
  simp only [callSpecialIfBound?, bindSpecialIfBound?]
  refine wpAny_holding (wpAny_bind (wpAny_bind (wpAny_bind (I.type.here ((looks_findIn X hn).here ?_)))))
  have hb : bindSpecial (.builtin "object.__ne__") (.ref x) = pure (.builtin "object.__ne__", [.ref x]) := PySem.F.slot_object_ne.bind (.ref x)
  refine wpAny_bind (wpAny_askSetting (wpAny_ite ?_))
  have fin : wpAny (model prog w) A (call (.builtin "object.__ne__") ([.ref x] ++ args) >>= fun v => pure (some v)) Q E s := wpAny_bind (wpAny_mono h (fun v s' h' => wpAny_pure h') fun _ _ h' => h')
  simp only [hb]
  split
  · exact wpAny_bind (wpAny_pure (wpAny_pure fin))
  · exact wpAny_tryCatch (wpAny_bind (wpAny_pure (wpAny_pure fin)))
theorem checkNe_K {Q : Unit → Shared → Prop} (X : K.In s.heap) (I : InstAt s.heap x ox C od) (hob : mroIn K C (.type "object") = some true) (hq : Q () s) : wpAny (model prog w) A (checkBuiltinCall "object.__ne__" ⟨[.ref x, b], []⟩) Q E s := by
  have ha := PySem.F.cmpArgs_ne (.ref x) b
  simp only [checkBuiltinCall, PySem.F.cmpKind_ne, PySem.F.cmpSplit_ne]
  refine wpAny_bind ?_
  unfold isInstance
  refine wpAny_bind (I.type.here ((looks_mroIn X hob).here ?_))
  show wpAny _ _ _ _ _ _
  cases hsig : Manifest.signature? "object.__ne__" with
  | none => exact wpAny_pure hq
  | some sig =>
    simp only [argsOk, hsig] at ha
    have h2 : Bind.checkArgs "object.__ne__" sig ⟨[.ref x, b], []⟩ = pure () := ha
    show wpAny _ A (Bind.checkArgs "object.__ne__" sig ⟨[.ref x, b], []⟩) Q E _
    rw [h2]
    exact wpAny_pure hq
theorem ne_K {Q : Value → Shared → Prop} (hu : A.units + 1 < cLine) (F : Fr h₀ L s.heap m) (X₀ : K.In h₀) (I : InstAt s.heap x ox C od) (hb : Looks (model prog w) s.heap (typeOf b) tb) (hnf : notFirst K C tb = true)
    (hn : findIn K (.ref C) "__ne__" = some (some (.builtin "object.__ne__"))) (hob : mroIn K C (.type "object") = some true)
    (hs : findIn K (.ref C) "__eq__" = some (some (.ref f))) (hf : isFn K (.ref f) = true)
    (h : wpAny (model prog w) A.in1 (call (.ref f) [.ref x, b]) (fun v s' => ∃ c, v = .bool c ∧ Q (.bool (!c)) s') E s) : wpAny (model prog w) A (richCompare .NotEq (.ref x) b) Q E s := by
  have X := X₀.keeps F.keep
  have one : wpAny (model prog w) A (tryCompare (.ref x) "__ne__" b) (fun r s' => ∃ v, r = some v ∧ Q v s') E s := by
    unfold tryCompare
    refine wpAny_bind (ifBoundNe_K X I hn (wpAny_call (codeAny_call_builtin (by decide +kernel) PySem.F.cmpEntry_ne (checkNe_K X I hob ?_))))
    refine objNe_K X I hs hf hu (wpAny_mono h (fun v s' hv => ?_) fun _ _ e => e)
    obtain ⟨c, rfl, hq⟩ := hv
    exact ⟨c, rfl, wpAny_pure ⟨_, rfl, hq⟩⟩
  unfold richCompare
  simp only [oneThing_ref]
  refine wpAny_holding (wpAny_bind (wpAny_cRoomFor (Nat.lt_of_succ_lt hu) ?_))
  refine wpAny_bind (I.type.here (wpAny_bind (hb.here ?_)))
  split
  · rename_i q
    have e : subIn K tb (.ref C) = some false := by
      rcases Bool.or_eq_true_iff.mp hnf with e | e
      · rw [beq_iff_eq.mp e] at q; simp at q
      · exact beq_iff_eq.mp e
    refine wpAny_bind ((looks_subIn X e).here ?_)
    simp only [Bool.false_eq_true, if_false]
    refine wpAny_bind (wpAny_mono one (fun r s' z => ?_) fun _ _ e => e)
    obtain ⟨v, rfl, hq⟩ := z
    exact wpAny_pure hq
  · refine wpAny_bind (wpAny_pure ?_)
    simp only [Bool.false_eq_true, if_false]
    refine wpAny_bind (wpAny_mono one (fun r s' z => ?_) fun _ _ e => e)
    obtain ⟨v, rfl, hq⟩ := z
    exact wpAny_pure hq
end
/-- the facts for != -/
structure NeC (K : PySem.W.Frag) (C : Addr) : Prop where
  ne : PySem.W.findIn K (.ref C) "__ne__" = some (some (.builtin "object.__ne__"))
  ob : PySem.W.mroIn K C (.type "object") = some true
def rNeG (C : Addr) (R : Addr → Addr → Hp → Prop) : R2 := fun x y H Q => DIns C R x y H ∧ ∀ H', Ext H H' → Q (.bl false) H'
theorem op_neG {X : Cx} {n : Nat} {C : Addr} {R : Addr → Addr → Hp → Prop} (c : Met X.prog X.w X.K X.mg X.base n C "__eq__" (spEq R) []) (N : NeC X.K C) {j : Nat} (hr : Room j X.A) (hn : n + 1 ≤ j) : OpR X (compareOp .NotEq) (rNeG C R) := by
  obtain ⟨f, fd, ps, ds, hc, hm, F, hb, hd⟩ := c.ex
  cases hd
  intro pins s σ H x y v u Q I rx ry h
  obtain ⟨⟨a, b, dx, dy, fs, gs, rfl, rfl, ha, hb', hR⟩, q⟩ := h
  cases rx
  cases ry
  obtain ⟨mA, J, _⟩ := ins_get I.hok ha
  obtain ⟨mB, J', _⟩ := ins_get I.hok hb'
  obtain ⟨od, J, _⟩ := J.look
  obtain ⟨od', J', _⟩ := J'.look
  obtain ⟨m, hF⟩ := I.fr
  have hu := hr.units
  show wpAny (model X.prog X.w) X.A (richCompare .NotEq (.ref a) (.ref b)) (EP X pins σ Q) X.xe s
  refine ne_K (tb := .ref C) (by omega) hF I.ok.mod.kin J J'.type (by simp [PySem.W.notFirst]) N.ne N.ob hm.at_ hm.fn ?_
  have hsp : spEq R [.ref a, .ref b] H (fun v H' => v = .bl true ∧ Ext H H') C8.E0 := ⟨a, b, rfl, hR, fun H' e => ⟨rfl, e⟩⟩
  have hl := F.len _ _ _ _ hsp
  have r2 : Vals [V.ref a, V.ref b] [Value.ref a, Value.ref b] := .cons rfl (.cons rfl .nil)
  refine wpAny_call (codeAny_mono (F.run X.A.in1 X.stack s H ⟨[.ref a, .ref b], []⟩ [.ref a, .ref b] [.ref a, .ref b] _ C8.E0 (hr.mono hn).in1 I.env0.in1 (by
    have := hb s [.ref a, .ref b] I.kIn (by simpa using hl)
    simpa using this) r2 hsp) fun r s' hq => ?_)
  cases r with
  | error e => exact (show False from hq).elim
  | ok fl =>
    cases fl with
    | ret w =>
      obtain ⟨z, H', I', rz, ez, ex⟩ := I.after hq
      subst ez
      cases rz
      exact ⟨true, rfl, .bl false, H', I', rfl, q H' ex⟩
    | next => exact False.elim hq
    | brk => exact False.elim hq
    | cont => exact False.elim hq
end Oh
set_option maxHeartbeats 4000000
namespace Oh
open PySem PySem.Spec PyProof.Rows L2
open C8 (Cal Met Mak pe_c pe_mk pe_mt pe_mt0 pe_gc InsC call_isC tCut pss_cut fnBody fnArgs fnScope)
/-! ### the paths of the open lines: hashes that differ -/
inductive BT | leaf | node (l : BT) (k : Nat) (r : BT)
def BT.find : BT → Nat → Bool
  | .leaf, _ => false
  | .node l k r, x => match Nat.blt x k with
    | true => l.find x
    | false => match Nat.blt k x with
      | true => r.find x
      | false => true
def BT.ins : BT → Nat → Option BT
  | .leaf, x => some (.node .leaf x .leaf)
  | .node l k r, x => match Nat.blt x k with
    | true => match l.ins x with
      | some l' => some (.node l' k r)
      | none => none
    | false => match Nat.blt k x with
      | true => match r.ins x with
        | some r' => some (.node l k r')
        | none => none
      | false => none
def BT.all : BT → List Nat → Bool
  | _, [] => true
  | t, x :: xs => match t.ins x with
    | some t' => t'.all xs
    | none => false
theorem blt_self (x : Nat) : Nat.blt x x = false := by
  cases h : Nat.blt x x with
  | false => rfl
  | true => exact absurd (Nat.blt_eq.mp h) (Nat.lt_irrefl _)
theorem BT.ins_ok : ∀ {t t' : BT} {x : Nat}, t.ins x = some t' → t.find x = false ∧ t'.find x = true ∧ ∀ y, t.find y = true → t'.find y = true
  | .leaf, t', x, h => by
    cases h
    refine ⟨rfl, ?_, fun y h => by cases h⟩
    show (match Nat.blt x x with | true => _ | false => _) = true
    rw [blt_self]
  | .node l k r, t', x, h => by
    unfold BT.ins at h
    cases h1 : Nat.blt x k with
    | true =>
      simp only [h1] at h
      cases h2 : l.ins x with
      | none => simp only [h2] at h; cases h
      | some l' =>
        simp only [h2] at h
        cases h
        obtain ⟨a, b, c⟩ := BT.ins_ok h2
        refine ⟨by simp only [BT.find, h1]; exact a, by simp only [BT.find, h1]; exact b, fun y hy => ?_⟩
        simp only [BT.find] at hy ⊢
        cases h3 : Nat.blt y k with
        | true => simp only [h3] at hy ⊢; exact c y hy
        | false => simp only [h3] at hy ⊢; exact hy
    | false =>
      simp only [h1] at h
      cases h4 : Nat.blt k x with
      | false => simp only [h4] at h; cases h
      | true =>
        simp only [h4] at h
        cases h2 : r.ins x with
        | none => simp only [h2] at h; cases h
        | some r' =>
          simp only [h2] at h
          cases h
          obtain ⟨a, b, c⟩ := BT.ins_ok h2
          refine ⟨by simp only [BT.find, h1, h4]; exact a, by simp only [BT.find, h1, h4]; exact b, fun y hy => ?_⟩
          simp only [BT.find] at hy ⊢
          cases h3 : Nat.blt y k with
          | true => simp only [h3] at hy ⊢; exact hy
          | false =>
            simp only [h3] at hy ⊢
            cases h5 : Nat.blt k y with
            | true => simp only [h5] at hy ⊢; exact c y hy
            | false => rfl
theorem BT.all_ok : ∀ {xs : List Nat} {t : BT}, t.all xs = true → xs.Nodup ∧ ∀ x ∈ xs, t.find x = false
  | [], _, _ => ⟨List.nodup_nil, fun x hx => by cases hx⟩
  | x :: xs, t, h => by
    unfold BT.all at h
    cases h2 : t.ins x with
    | none => simp only [h2] at h; cases h
    | some t' =>
      simp only [h2] at h
      obtain ⟨a, b, c⟩ := BT.ins_ok h2
      obtain ⟨nd, hf⟩ := BT.all_ok h
      refine ⟨List.nodup_cons.mpr ⟨fun hm => ?_, nd⟩, fun y hy => ?_⟩
      · have := hf x hm
        rw [b] at this
        cases this
      · rcases List.mem_cons.mp hy with rfl | hy
        · exact a
        · cases q : t.find y with
          | false => rfl
          | true => have := hf y hy; rw [c y q] at this; cases this
def hP (p : List Int) : Int := reduceHash (Builtin.Tuple.tupleHashOf (p.map hashInt))
theorem hT_pK {w : World} {P : Program} (p : List Int) : hT w P (pK p) = hP p := by
  show reduceHash (Builtin.Tuple.tupleHashOf ((p.map Sum.inl).map (keyH w))) = _
  rw [List.map_map]
  rfl
def nints (n : Nat) : List Int := (List.range n).map fun (i : Nat) => (i : Int)
def path1 : List (List Int) := (nints 8).map fun i => [i]
def path3 : List (List Int) := path1.flatMap fun p => (nints 4).flatMap fun k => (nints 4).map fun j => p ++ [k] ++ [j]
def path5 : List (List Int) := path3.flatMap fun p => (nints 4).flatMap fun k => (nints 4).map fun j => p ++ [k] ++ [j]
def pathSet : List (List Int) := path1 ++ (path3 ++ path5)
theorem hash_check : BT.leaf.all (pathSet.map fun p => (hP p % 18446744073709551616).toNat) = true := by kernel_rfl
theorem hash_inj {p q : List Int} (hp : p ∈ pathSet) (hq : q ∈ pathSet) (h : hP p = hP q) : p = q := by
  obtain ⟨nd, _⟩ := BT.all_ok hash_check
  obtain ⟨i, hi⟩ := List.mem_iff_getElem?.mp hp
  obtain ⟨j, hj⟩ := List.mem_iff_getElem?.mp hq
  have e1 : (pathSet.map fun p => (hP p % 18446744073709551616).toNat)[i]? = some (hP p % 18446744073709551616).toNat := by rw [List.getElem?_map, hi]; rfl
  have e2 : (pathSet.map fun p => (hP p % 18446744073709551616).toNat)[j]? = some (hP p % 18446744073709551616).toNat := by rw [List.getElem?_map, hj, h]; rfl
  have hij := (List.getElem?_inj (List.getElem?_eq_some_iff.mp e1).1 nd).mp (e1.trans e2.symm)
  subst hij
  rw [hi] at hj
  exact Option.some.inj hj
/-- the hashes of different such paths differ -/
theorem hash_nodup {w : World} {P : Program} {ps : List (List Int)} (nd : ps.Nodup) (h : ∀ p ∈ ps, p ∈ pathSet) : (ps.map fun p => hT w P (pK p)).Nodup := by
  have e : (ps.map fun p => hT w P (pK p)) = ps.map hP := List.map_congr_left fun p _ => hT_pK p
  rw [e]
  induction ps with
  | nil => exact List.nodup_nil
  | cons p ps ih =>
    obtain ⟨n1, n2⟩ := List.nodup_cons.mp nd
    refine List.nodup_cons.mpr ⟨fun hm => ?_, ih n2 (fun q hq => h q (List.mem_cons_of_mem _ hq)) (List.map_congr_left fun p _ => hT_pK p)⟩
    obtain ⟨q, hq, he⟩ := List.mem_map.mp hm
    have := hash_inj (h q (List.mem_cons_of_mem _ hq)) (h p (List.mem_cons_self ..)) he
    exact n1 (this ▸ hq)
end Oh
set_option maxHeartbeats 4000000
namespace Oh
open PySem PySem.Spec PyProof.Rows L2
open C8 (Cal Met Mak pe_c pe_mk pe_mt pe_mt0 pe_gc InsC call_isC tCut pss_cut fnBody fnArgs fnScope)
open LamX NdefX
/-! ### the law's pot -/
structure PotOk (H : Hp) (P L : Addr) : Prop where
  ex : ∃ (ns : List Int) (i : Nat) (v left sm tn : Int), H P = some (.lst [.ref L, .int (i : Nat), .int v, .int left, .int sm, .int tn]) ∧ H L = some (.lst (ns.map V.int)) ∧ P ≠ L
def Fp (P L Pt : Addr) : Fm where
  sp := fun a => a = P ∨ a = L ∨ a = Pt
  G := fun H => PotOk H P L ∧ Tabs [(Pt, lamQ)] H
  alloc := fun H a ⟨⟨ns, i, v, l, sm, tn, h1, h2, h3⟩, t⟩ s => by
    obtain ⟨ps, h4, _⟩ := t _ (List.mem_singleton.mpr rfl)
    rcases s with rfl | rfl | rfl
    · rw [h1]; simp
    · rw [h2]; simp
    · rw [show H a = _ from h4]; simp
  ext := fun H H' ⟨⟨ns, i, v, l, sm, tn, h1, h2, h3⟩, t⟩ e => ⟨⟨ns, i, v, l, sm, tn, e _ _ h1, e _ _ h2, h3⟩, t.ext e⟩
  notup := fun H a ⟨⟨ns, i, v, l, sm, tn, h1, h2, h3⟩, t⟩ s => by
    obtain ⟨ps, h4, _⟩ := t _ (List.mem_singleton.mpr rfl)
    rcases s with rfl | rfl | rfl
    · rw [h1]; exact fun _ => ⟨(fun z => by cases z), fun _ z => by cases z⟩
    · rw [h2]; exact fun _ => ⟨(fun z => by cases z), fun _ z => by cases z⟩
    · rw [show H a = _ from h4]; exact fun _ => ⟨(fun z => by cases z), fun _ z => by cases z⟩
  chg := fun H l o o' ⟨⟨ns, i, v, lf, sm, tn, h1, h2, h3⟩, t⟩ ns' hl po => by
    have nP : P ≠ l := fun z => ns' (.inl z.symm)
    have nL : L ≠ l := fun z => ns' (.inr (.inl z.symm))
    have nT : Pt ≠ l := fun z => ns' (.inr (.inr z.symm))
    refine ⟨⟨ns, i, v, lf, sm, tn, by rw [upd_ne nP]; exact h1, by rw [upd_ne nL]; exact h2, h3⟩, fun p hp => ?_⟩
    obtain rfl := List.mem_singleton.mp hp
    obtain ⟨ps, h4, h5, h6⟩ := t _ (List.mem_singleton.mpr rfl)
    refine ⟨ps, by rw [upd_ne nT]; exact h4, h5, fun pos cv hc => ?_⟩
    obtain ⟨c, e1, e2⟩ := h6 pos cv hc
    refine ⟨c, e1, ?_⟩
    have nc : c ≠ l := fun z => by
      rw [z, hl] at e2
      have e2 := Option.some.inj e2
      rcases po with ⟨_, q⟩ | ⟨_, q⟩ | ⟨_, q⟩ | ⟨_, _, _, q⟩ | ⟨_, q⟩ <;> rw [q] at e2 <;> cases e2
    rw [upd_ne nc]
    exact e2
section
variable {P : Program} {w : World} {K : PySem.W.Frag} {mg : Str → Option Value} {base : Heap} {te tb ta tc : TE} {σ : L2.St} {H H' : Hp} {E : XK} {ds es : List PyData} {CR CPl A L Pt : Addr}
/-- the pot written anew -/
theorem pot_L {x y : V} {H1 : Hp} {i : Nat} {v l sm tn : Int} (g : (Fp A L Pt).G H) (h : H1 = upd H A (.lst [.ref L, .int (i : Nat), .int v, .int l, .int sm, .int tn])) : (Fp A L Pt).L H H1 := by
  subst h
  obtain ⟨⟨ns, i', v', l', sm', tn', h1, h2, h3⟩, t⟩ := g
  have keep : ∀ a o, H a = some o → a ≠ A → upd H A (.lst [.ref L, .int (i : Nat), .int v, .int l, .int sm, .int tn]) a = some o := fun a o h n => by rw [upd_ne n]; exact h
  refine ⟨fun a o h n => keep a o h fun z => n (.inl z), ⟨ns, i, v, l, sm, tn, upd_same, keep _ _ h2 h3.symm, h3⟩, fun p hp => ?_⟩
  obtain rfl := List.mem_singleton.mp hp
  obtain ⟨ps, h4, h5, h6⟩ := t _ (List.mem_singleton.mpr rfl)
  refine ⟨ps, keep _ _ h4 fun z => (by rw [show Pt = A from z] at h4; rw [h1] at h4; cases h4), h5, fun pos cv hc => ?_⟩
  obtain ⟨c, e1, e2⟩ := h6 pos cv hc
  exact ⟨c, e1, keep _ _ e2 fun z => by rw [z, h1] at e2; cases e2⟩
theorem evv_rI {F : Fm} {C : Int → Int → Prop} {f : Int → Int → V} {m n : Int} (ha : EvV F ta σ H (.int m)) (hb : EvV F tb σ H (.int n)) (hc : C m n) : EvV F (tOp (rI C f) ta tb) σ H (f m n) :=
  ev_op ha hb fun x y H1 e1 p1 p2 Q q => ⟨m, n, p1, p2, hc, q _ _ (.refl e1.good) rfl⟩
theorem evv_int1 {F : Fm} {m : Int} (ha : EvV F ta σ H (.int m)) : EvV F (tCB (fun xs H Q => (∃ i, xs = [.int i] ∧ Q (.int i) H) ∨ ∃ k, xs = [.bl k] ∧ Q (.int (if k then 1 else 0)) H) (tCons ta tNil)) σ H (.int m) :=
  ev_cb (ea_cons ha ea_nil) fun vs H1 e1 p Q q => by
    match vs, p with
    | [x], ⟨p0, _⟩ =>
      obtain rfl : x = V.int m := p0
      exact .inl ⟨m, rfl, q _ _ (.refl e1.good) rfl⟩
def spMixed : Sp := fun vs H Q _ => ∃ a b : Int, vs = [.int a, .int b] ∧ ∀ (r : Int) H', Same H H' → Q (.int r) H'
theorem sc_law_mixed : FnScope ["_law_number", "_law_turn", "_law_one"] ["_law_number", "_law_turn"] (fnScope s_law_mixed) := ⟨rfl, rfl, rfl, by decide +kernel, rfl, by decide +kernel, by decide +kernel⟩
theorem c_law_mixed (T : Tx w K mg) : Cal P w K mg base 1 "_law_mixed" spMixed [] := by
  refine T.d_law_mixed.cal sc_law_mixed (fun F => ⟨[], .nil, F.bindsN fun _ _ _ _ _ _ us hl => match us, hl with | [_, _], _ => rfl⟩) (by rintro vs H Q E ⟨a, b, rfl, _⟩; rfl) fun f cdv A outer s H vs Q E hr h => ?_
  obtain ⟨a, b, rfl, hQ⟩ := h
  refine ⟨_, (pss_cons (ps_set (i := 2) sc_law_mixed.nd rfl (Or.inl rfl) (pe_op op_mod (pe_op op_add (pe_op op_add (pe_op op_mul (pe_callTy call_int1 rfl T.z_int (by decide +kernel) (pa_cons (pv 0) pa_nil)) pe_int) (pe_op op_mul (pv 1) pe_int)) pe_int) pe_int))
    (pss_cons (ps_set (i := 2) sc_law_mixed.nd rfl (Or.inl rfl) (pe_op op_mod (pe_op op_mul (pv 2) (pe_op op_add (pe_op op_add (pe_op op_fdiv (pv 2) pe_int) pe_int) (pv 1))) pe_int))
    (pss_cons (ps_set (i := 2) sc_law_mixed.nd rfl (Or.inl rfl) (pe_op op_mod (pe_op op_mul (pv 2) (pe_op op_add (pe_op op_fdiv (pv 2) pe_int) pe_int)) pe_int))
    (pss_one (ps_ret (pe_op op_fdiv (pv 2) pe_int)))))), ?_⟩
  refine run_go (R := .int fun _ => True) ?_ fun v H1 e p => by
    obtain ⟨r, rfl, _⟩ := p
    exact hQ r H1 e
  have sm : ∀ {z m : Int}, 0 < m → m < 2 ^ 64 → -(2 ^ 64) < z % m ∧ z % m < 2 ^ 64 := fun {z m} h1 h2 => ⟨by have := Int.emod_nonneg z (show m ≠ 0 by omega); omega, by have := Int.emod_lt_of_pos z h1; omega⟩
  refine run_asgV (evv_rI (evv_I0 (evv_I0 (evv_rI (evv_int1 (evv_var trivial rfl)) (evv_c trivial) (.inr (by decide))) (evv_rI (evv_var trivial rfl) (evv_c trivial) (.inr (by decide)))) (evv_c trivial)) (evv_c trivial) (by decide)) ?_
  refine run_asgV (evv_rI (evv_rI (evv_var trivial rfl) (evv_I0 (evv_I0 (evv_rI (evv_var trivial rfl) (evv_c trivial) ⟨by decide, by decide⟩) (evv_c trivial)) (evv_var trivial rfl)) (.inl (sm (by decide) (by decide)))) (evv_c trivial) (by decide)) ?_
  refine run_asgV (evv_rI (evv_rI (evv_var trivial rfl) (evv_I0 (evv_rI (evv_var trivial rfl) (evv_c trivial) ⟨by decide, by decide⟩) (evv_c trivial)) (.inl (sm (by decide) (by decide)))) (evv_c trivial) (by decide)) ?_
  exact run_retV (evv_rI (evv_var trivial rfl) (evv_c trivial) ⟨by decide, by decide⟩) fun H1 _ => ⟨_, rfl, trivial⟩
abbrev potV (L : Addr) (i : Nat) (v l sm tn : Int) : List V := [.ref L, .int (i : Nat), .int v, .int l, .int sm, .int tn]
def spDraw (Pt : Addr) : Sp := fun vs H Q _ => ∃ (A L : Addr) (n : Int), vs = [.ref A, .int n] ∧ (Fp A L Pt).G H ∧ (1 ≤ n ∧ n < 1073741824) ∧ ∀ (r : Int) H', (Fp A L Pt).L H H' → 0 ≤ r ∧ r < n → Q (.int r) H'
theorem ix_go {H : Hp} {xs : List V} {k : Int} {v : V} {Q : VK} (h0 : σ[0]? = some (some (.ref A))) (h : H A = some (.lst xs)) (hk : atI xs k = some v) (q : Q v H) : tOp (rIxL K) (tVar 0) (tC (.int k)) σ H Q := ⟨.ref A, h0, A, xs, k, v, rfl, rfl, .of h, hk, q⟩
theorem st_go {H : Hp} {xs : List V} {k : Int} {j : Nat} {v : V} {Q : L2.St → Hp → Prop} (h0 : σ[0]? = some (some (.ref A))) (h : H A = some (.lst xs)) (hj : ixN xs.length k = some j) (q : Q σ (upd H A (.lst (xs.set j v)))) : gSub (tVar 0) (tC (.int k)) rSetL v σ H Q := ⟨.ref A, h0, A, xs, k, j, rfl, rfl, h, hj, q⟩
theorem sc_law_draw : FnScope ["_law_pot_here", "_law_many", "_law_cell", "_law_told"] ["_law_pot_here", "_law_many"] (fnScope s_law_draw) := ⟨rfl, rfl, rfl, by decide +kernel, rfl, by decide +kernel, by decide +kernel⟩
theorem c_law_draw (T : Tx w K mg) : Cal P w K mg base 3 "_law_draw" (spDraw Pt) [] := by
  have c_law_mixed := c_law_mixed (P := P) (base := base) T
  refine T.d_law_draw.cal sc_law_draw (fun F => ⟨[], .nil, F.bindsN fun _ _ _ _ _ _ us hl => match us, hl with | [_, _], _ => rfl⟩) (by rintro vs H Q E ⟨A, L, n, rfl, _⟩; rfl) fun f cdv Ar outer s H vs Q E hr h => ?_
  obtain ⟨A, L, n, rfl, g, ⟨hn1, hn2⟩, hQ⟩ := h
  refine ⟨_, (pss_cons (ps_asg (pe_op op_add (pe_ix (r := rIxL K) ix_list (pv 0) pe_int (fun _ _ => rfl)) pe_int) (pg_sub (pv 0) pe_int set_list))
    (pss_cons (ps_if (PW.pt (pw_and (pt_cmpR op_eq (pe_ix (r := rIxL K) ix_list (pv 0) pe_int (fun _ _ => rfl)) pe_int (nomark _)) (pw_and1 (pt_cmpR op_lt (pe_ix (r := rIxL K) ix_list (pv 0) pe_int (fun _ _ => rfl)) (pe_callB (r := rLenQ K) call_len_seq rfl T.z_len PySem.boot_len (pa_cons (pe_ix (r := rIxL K) ix_list (pv 0) pe_int (fun _ _ => rfl)) pa_nil)) (nomark _)))))
      (pss_cons (ps_set (i := 2) sc_law_draw.nd rfl (Or.inl rfl) (pe_callTy call_int1 rfl T.z_int (by decide +kernel) (pa_cons (pe_ix (r := rIxL K) ix_list (pe_ix (r := rIxL K) ix_list (pv 0) pe_int (fun _ _ => rfl)) (pe_ix (r := rIxL K) ix_list (pv 0) pe_int (fun _ _ => rfl)) (fun _ _ => rfl)) pa_nil)))
      (pss_cons (ps_asg (pe_op op_add (pe_ix (r := rIxL K) ix_list (pv 0) pe_int (fun _ _ => rfl)) pe_int) (pg_sub (pv 0) pe_int set_list))
      (pss_cons (ps_asg (pe_op op_mod (pe_callTy call_int1 rfl T.z_int (by decide +kernel) (pa_cons (pe_callB (call_max2 rfl) rfl T.z_max (by decide +kernel) (pa_cons (pv 2) (pa_cons (pe_op op_mul (pe_un un_neg pe_int) (pv 2)) pa_nil))) pa_nil)) (pe_op op_pow pe_int pe_int)) (pg_sub (pv 0) pe_int set_list))
      (pss_cons (ps_asg pe_int (pg_sub (pv 0) pe_int set_list))
      (pss_one (ps_if (pt_cmpR op_ge (pe_ix (r := rIxL K) ix_list (pv 0) pe_int (fun _ _ => rfl)) (pe_op op_pow pe_int pe_int) (nomark _))
        (pss_one (ps_asg (pe_un un_neg pe_int) (pg_sub (pv 0) pe_int set_list)))
        pss_nil))))))
      pss_nil)
    (pss_cons (ps_if (pt_cmpR op_lt (pe_ix (r := rIxL K) ix_list (pv 0) pe_int (fun _ _ => rfl)) pe_int (nomark _))
      (pss_cons (ps_set (i := 3) sc_law_draw.nd rfl (Or.inl rfl) (pe_op op_mod (pe_ix (r := rIxL K) ix_list (pv 0) pe_int (fun _ _ => rfl)) (pv 1)))
      (pss_cons (ps_asg (pe_op op_fdiv (pe_ix (r := rIxL K) ix_list (pv 0) pe_int (fun _ _ => rfl)) (pv 1)) (pg_sub (pv 0) pe_int set_list))
      (pss_cons (ps_if (pt_cmpR op_eq (pe_ix (r := rIxL K) ix_list (pv 0) pe_int (fun _ _ => rfl)) pe_int (nomark _))
        (pss_one (ps_asg pe_int (pg_sub (pv 0) pe_int set_list)))
        pss_nil)
      (pss_one (ps_ret (pv 3))))))
      pss_nil)
    (pss_cons (ps_if (pt_cmpR op_gt (pe_ix (r := rIxL K) ix_list (pv 0) pe_int (fun _ _ => rfl)) pe_int (nomark _))
      (pss_cons (ps_asg (pe_op op_sub (pe_ix (r := rIxL K) ix_list (pv 0) pe_int (fun _ _ => rfl)) pe_int) (pg_sub (pv 0) pe_int set_list))
      (pss_one (ps_ret (pe_op op_mod (pe_c c_law_mixed hr (by omega) rfl (pa_cons (pe_ix (r := rIxL K) ix_list (pv 0) pe_int (fun _ _ => rfl)) (pa_cons (pe_ix (r := rIxL K) ix_list (pv 0) pe_int (fun _ _ => rfl)) pa_nil))) (pv 1)))))
      pss_nil)
    (pss_one (ps_ret (pe_op op_mod (pe_c c_law_mixed hr (by omega) rfl (pa_cons (pe_ix (r := rIxL K) ix_list (pv 0) pe_int (fun _ _ => rfl)) (pa_cons (pe_ix (r := rIxL K) ix_list (pv 0) pe_int (fun _ _ => rfl)) pa_nil))) (pv 1)))))))), ?_⟩
  have md : ∀ z : Int, 0 ≤ z % n ∧ z % n < n := fun z => ⟨Int.emod_nonneg z (by omega), Int.emod_lt_of_pos z (by omega)⟩
  have nw : ∀ {H1 : Hp} (i : Nat) (v l sm tn : Int), (Fp A L Pt).G H1 → (Fp A L Pt).L H1 (upd H1 A (.lst (potV L i v l sm tn))) := fun i v l sm tn g => pot_L (x := .non) (y := .non) g rfl
  have up : ∀ {H1 : Hp} {xs ys : List V}, upd (upd H1 A (.lst xs)) A (.lst ys) = upd H1 A (.lst ys) := fun {H1 xs ys} => upd_upd
  let P0 : L2.St → Prop := fun σ => σ.length = 4 ∧ σ[0]? = some (some (.ref A)) ∧ σ[1]? = some (some (.int n))
  refine (runP_seqS (F := Fp A L Pt) (R := .int fun r => 0 ≤ r ∧ r < n) (P := P0) (fun H1 e1 D q => ?_) fun σ1 p1 => runP_seqS (P := P0) (fun H1 e1 D q => ?_) fun σ2 p2 => fun H1 e1 D q => ?_) H (.refl g) _ fun v H1 e ⟨r, hr, p⟩ => by rw [hr]; exact hQ r H1 e p
  · obtain ⟨⟨ns, i, v, l, sm, tn, h1, h2, h3⟩, _⟩ := e1.good
    exact ix_go rfl h1 rfl ⟨tn, 1, rfl, rfl, st_go (j := 5) rfl h1 rfl (q _ _ (nw i v l sm (tn + 1) e1.good) ⟨rfl, rfl, rfl⟩)⟩
  · obtain ⟨⟨ns, i, v, l, sm, tn, h1, h2, h3⟩, _⟩ := e1.good
    obtain ⟨s4, s0, s1⟩ := p1
    have hsk : ∀ {H2 : Hp}, (Fp A L Pt).L H1 H2 → D.nx σ1 H2 := fun e => q _ _ e ⟨s4, s0, s1⟩
    refine ix_go s0 h1 rfl ⟨rfl, _, rfl, ?_⟩
    dsimp only
    split
    · refine ix_go s0 h1 rfl (ix_go s0 h1 rfl ⟨L, ns.map V.int, rfl, .inl (.of h2), (i : Nat), ((ns.map V.int).length : Nat), rfl, rfl, _, rfl, ?_⟩)
      dsimp only
      split
      · rename_i hlt
        have hi : i < ns.length := by
          have := of_decide_eq_true hlt
          rw [List.length_map] at this
          omega
        have hc : atI (ns.map V.int) (i : Nat) = some (V.int ns[i]) := atI_nat (by rw [List.getElem?_map, List.getElem?_eq_getElem hi]; rfl)
        refine ix_go s0 h1 rfl (ix_go s0 h1 rfl ⟨L, ns.map V.int, (i : Nat), V.int ns[i], rfl, rfl, .of h2, hc, .inl ⟨ns[i], rfl, ?_⟩⟩)
        have s0' : (σ1.set 2 (some (.int ns[i])))[0]? = some (some (.ref A)) := by rw [List.getElem?_set_ne (by decide)]; exact s0
        have s1' : (σ1.set 2 (some (.int ns[i])))[1]? = some (some (.int n)) := by rw [List.getElem?_set_ne (by decide)]; exact s1
        have s2' : (σ1.set 2 (some (.int ns[i])))[2]? = some (some (.int ns[i])) := List.getElem?_set_self (by omega)
        have s4' : (σ1.set 2 (some (.int ns[i]))).length = 4 := by rw [List.length_set]; exact s4
        refine ix_go s0' h1 rfl ⟨(i : Nat), 1, rfl, rfl, st_go (j := 1) s0' h1 rfl ?_⟩
        have u1 : upd H1 A (.lst ((potV L i v l sm tn).set 1 (.int ((i : Int) + 1)))) = upd H1 A (.lst (potV L (i + 1) v l sm tn)) := rfl
        refine u1.symm ▸ ?_
        refine ⟨_, s2', 3, rfl, _, s2', -3, ns[i], rfl, rfl, .inl (by decide), ns[i], -3 * ns[i], rfl, .inl ⟨_, rfl, 10, 60, rfl, rfl, ⟨by decide, by decide, by decide⟩, _, _, rfl, rfl, (show (0 : Int) < 10 ^ Int.toNat 60 by decide), st_go (j := 2) (xs := potV L (i + 1) v l sm tn) s0' upd_same rfl ?_⟩⟩
        rw [up]
        dsimp only
        generalize ((if -3 * ns[i] > ns[i] then -3 * ns[i] else ns[i]) % 10 ^ Int.toNat 60) = z
        refine st_go (j := 3) (xs := potV L (i + 1) z l sm tn) s0' upd_same rfl ?_
        rw [up]
        refine ix_go (xs := potV L (i + 1) z 6 sm tn) s0' upd_same rfl ⟨10, 18, rfl, rfl, ⟨by decide, by decide, by decide⟩, z, 10 ^ Int.toNat 18, rfl, rfl, _, rfl, ?_⟩
        dsimp only
        split
        · refine ⟨1, rfl, st_go (j := 3) (xs := potV L (i + 1) z 6 sm tn) s0' upd_same rfl ?_⟩
          rw [up]
          exact q _ _ (nw (i + 1) z (-1) sm tn e1.good) ⟨s4', s0', s1'⟩
        · exact q _ _ (nw (i + 1) z 6 sm tn e1.good) ⟨s4', s0', s1'⟩
      · exact hsk (.refl e1.good)
    · exact hsk (.refl e1.good)
  · obtain ⟨⟨ns, i, v, l, sm, tn, h1, h2, h3⟩, _⟩ := e1.good
    obtain ⟨s4, s0, s1⟩ := p2
    refine ix_go s0 h1 rfl ⟨l, 0, rfl, rfl, _, rfl, ?_⟩
    dsimp only
    split
    · -- left < 0
      refine ix_go s0 h1 rfl ⟨_, s1, v, n, rfl, rfl, by omega, ?_⟩
      have s0' : (σ2.set 3 (some (.int (v % n))))[0]? = some (some (.ref A)) := by rw [List.getElem?_set_ne (by decide)]; exact s0
      have s1' : (σ2.set 3 (some (.int (v % n))))[1]? = some (some (.int n)) := by rw [List.getElem?_set_ne (by decide)]; exact s1
      have s3' : (σ2.set 3 (some (.int (v % n))))[3]? = some (some (.int (v % n))) := List.getElem?_set_self (by omega)
      refine ix_go s0' h1 rfl ⟨_, s1', v, n, rfl, rfl, ⟨by omega, hn2⟩, st_go (j := 2) s0' h1 rfl ?_⟩
      refine ix_go (xs := potV L i (v / n) l sm tn) s0' upd_same rfl ⟨rfl, _, rfl, ?_⟩
      dsimp only
      split
      · refine st_go (j := 3) (xs := potV L i (v / n) l sm tn) s0' upd_same rfl ?_
        rw [up]
        exact ⟨_, s3', q _ _ (nw i (v / n) 0 sm tn e1.good) ⟨_, rfl, md v⟩⟩
      · exact ⟨_, s3', q _ _ (nw i (v / n) l sm tn e1.good) ⟨_, rfl, md v⟩⟩
    · refine ix_go s0 h1 rfl ⟨l, 0, rfl, rfl, _, rfl, ?_⟩
      dsimp only
      split
      · refine ix_go s0 h1 rfl ⟨l, 1, rfl, rfl, st_go (j := 3) s0 h1 rfl ?_⟩
        have e2 := nw i v (l - 1) sm tn e1.good
        refine ix_go (xs := potV L i v (l - 1) sm tn) s0 upd_same rfl (ix_go (xs := potV L i v (l - 1) sm tn) s0 upd_same rfl ⟨v, tn, rfl, fun r H' e => ⟨_, s1, r, n, rfl, rfl, by omega, q _ _ (e2.trans (.of e2.good e)) ⟨_, rfl, md r⟩⟩⟩)
      · exact ix_go s0 h1 rfl (ix_go s0 h1 rfl ⟨sm, tn, rfl, fun r H' e => ⟨_, s1, r, n, rfl, rfl, by omega, q _ _ (.of e1.good e) ⟨_, rfl, md r⟩⟩⟩)
end
end Oh
set_option maxHeartbeats 4000000
namespace Oh
open PySem PySem.Spec PyProof.Rows L2
open C8 (Cal Met Mak pe_c pe_mk pe_mt pe_mt0 pe_gc InsC call_isC tCut pss_cut fnBody fnArgs fnScope)
open LamX NdefX
section
variable {P : Program} {w : World} {K : PySem.W.Frag} {mg : Str → Option Value} {base : Heap} {te tb ta tc : TE} {σ : L2.St} {H H' : Hp} {E : XK} {ds es : List PyData} {CR CPl A L Pt : Addr}
theorem cut_ints (ns : List Int) (lo hi : Option Int) : ∃ ms : List Int, cutV (ns.map V.int) lo hi = ms.map V.int := by
  unfold cutV
  simp only [List.length_map, ← List.map_drop, ← List.map_take]
  exact ⟨_, rfl⟩
def spPot (K : PySem.W.Frag) : Sp := fun vs H Q _ => ∃ a, ∃ ns : List Int, vs = [.ref a] ∧ SqL K H a (ns.map V.int) ∧ ns.length ≤ 63 ∧ ∀ p L H', Same H H' → H p = none → PotOk H' p L → Q (.ref p) H'
theorem sc_law_pot : FnScope ["_law_script", "_law_cells", "_law_cell"] ["_law_script"] (fnScope s_law_pot) := ⟨rfl, rfl, rfl, by decide +kernel, rfl, by decide +kernel, by decide +kernel⟩
theorem c_law_pot (T : Tx w K mg) : Cal P w K mg base 1 "_law_pot" (spPot K) [] := by
  refine T.d_law_pot.cal sc_law_pot (fun F => ⟨[], .nil, F.bindsN fun _ _ _ _ _ _ us hl => match us, hl with | [_], _ => rfl⟩) (by rintro vs H Q E ⟨a, ns, rfl, _⟩; rfl) fun f cdv Ar outer s H vs Q E hr h => ?_
  obtain ⟨a, ns, rfl, hs, hl, hQ⟩ := h
  refine ⟨_, (pss_cons (ps_setLc (i := 1) (own := [("_law_cell", 2)]) (g := (gName 2)) (tt := tYes) rfl sc_law_pot.nd rfl rfl (sw_true rfl rfl rfl (by decide +kernel)) (pi_list (pe_slice sl_list (pv 0) po_none (po_some pe_int))) (blkOk_by (own := [("_law_cell", 2)]) (N := ["_law_script", "_law_cells", "_law_cell"]) (sc := fnScope s_law_pot) (by decide +kernel)) (fun _ _ _ _ _ => (pg_name (i := 2) sc_law_pot.nd rfl (Or.inl rfl))) (fun _ _ _ _ _ => pts_nil) (fun _ _ _ _ _ => (pe_callTy call_int1 rfl T.z_int (by decide +kernel) (pa_cons (pv 2) pa_nil))))
    (pss_one (ps_ret (pe_lst (pa_cons (pv 1) (pa_cons pe_int (pa_cons pe_int (pa_cons pe_int (pa_cons (pe_callB (cr_sum rfl) rfl T.z_sum (by decide +kernel) (pa_cons (pv 1) pa_nil)) (pa_cons pe_int pa_nil)))))))))), ?_⟩
  obtain ⟨ms, hms⟩ := cut_ints ns none (some 63)
  refine ⟨.ref a, rfl, 63, rfl, a, ns.map V.int, rfl, hs, fun c hc => ⟨c, rfl, ⟨_, .of upd_same⟩, fun D hD => ?_⟩⟩
  rw [hms] at hD ⊢
  have ec : Same H (upd H c (.lst (ms.map V.int))) := same_new hc
  have cd : c ≠ D := fun z => by rw [← z, upd_same] at hD; cases hD
  have hml : ms.length ≤ 63 := by
    have := cutV_length (ns.map V.int) none (some 63)
    rw [hms, List.length_map, List.length_map] at this
    omega
  have hc1 : (upd H c (.lst (ms.map V.int))) c = some (.lst (ms.map V.int)) := upd_same
  have fD : H D = none := fresh_back ec hD
  generalize upd H c (.lst (ms.map V.int)) = H1 at ec hD hc1 ⊢
  refine lc_it walk_list (fun i H3 => H3 = upd H1 D (.lst ((ms.take i).map V.int))) rfl (fun i H3 _ z => .of (by rw [z, upd_ne cd]; exact hc1)) ?_ ?_
  · rintro i x H3 H4 hi rfl ⟨rfl, hx⟩
    rw [List.getElem?_map] at hx
    cases hm : ms[i]? with
    | none => rw [hm] at hx; cases hx
    | some m =>
      rw [hm] at hx
      obtain rfl : V.int m = x := Option.some.inj hx
      refine ⟨rfl, ?_⟩
      unfold tYes
      dsimp only
      rw [if_pos rfl]
      refine ⟨_, rfl, .inl ⟨m, rfl, (ms.take i).map V.int, upd_same, ?_, ?_⟩⟩
      · rw [List.length_map, List.length_take, sizeLine_eq]; omega
      · rw [upd_upd, take_snoc hm, List.map_append]; rfl
  · rintro H3 rfl
    rw [List.length_map, List.take_length]
    refine ⟨.ref D, rfl, .ref D, rfl, D, ms, rfl, .of upd_same, (show 6 ≤ sizeLine by decide), fun p hp => ?_⟩
    have e2 : Same H (upd (upd H1 D (.lst (ms.map V.int))) p (.lst [.ref D, .int 0, .int 0, .int 0, .int ms.sum, .int 0])) := (ec.trans (same_new hD)).trans (same_new hp)
    have nDp : D ≠ p := fun z => by rw [← z, upd_same] at hp; cases hp
    exact hQ p D _ e2 (fresh_back (ec.trans (same_new hD)) hp) ⟨ms, 0, 0, 0, ms.sum, 0, upd_same, by rw [upd_ne nDp, upd_same], nDp.symm⟩
end
end Oh
set_option maxHeartbeats 4000000
namespace Oh
open PySem PySem.Spec PyProof.Rows L2
open C8 (Cal Met Mak pe_c pe_mk pe_mt pe_mt0 pe_gc InsC call_isC tCut pss_cut fnBody fnArgs fnScope)
open LamX NdefX
section
variable {P : Program} {w : World} {K : PySem.W.Frag} {mg : Str → Option Value} {base : Heap} {te tb ta tc tp : TE} {σ : L2.St} {H H' : Hp} {E : XK} {ds es : List PyData} {CR CPl A L Pt : Addr}
theorem ev_draw {n : Int} (hp : EvV (Fp A L Pt) tp σ H (.ref A)) (h : EvV (Fp A L Pt) te σ H (.int n)) (h1 : 1 ≤ n ∧ n < 1073741824) : Ev (Fp A L Pt) (tCall (spDraw Pt) [] E (tCons tp (tCons te tNil))) σ H (.int fun r => 0 ≤ r ∧ r < n) :=
  ev_call (ea_cons hp (ea_cons h ea_nil)) fun vs H1 e1 p Q q => by
    match vs, p with
    | [x, y], ⟨p0, p1, _⟩ =>
      obtain rfl : x = V.ref A := p0
      obtain rfl : y = V.int n := p1
      exact ⟨A, L, n, rfl, e1.good, h1, fun r H' e hr => q _ _ e ⟨r, rfl, hr⟩⟩
/-- a promise over the pot's frame -/
theorem runF_go {F : Fm} {nx : L2.St → Hp → Prop} {Q : VK} {ts : TS} {R : VP F} (g : F.G H) (h : RunS F ts σ H R) (q : ∀ v H2, F.L H H2 → R.p v H2 → Q v H2) : ts { nx := nx, rt := Q } σ H := h H (.refl g) _ q
def spDig (Pt : Addr) : Sp := fun vs H Q _ => ∃ A L : Addr, vs = [.ref A] ∧ (Fp A L Pt).G H ∧ ∀ (r : Int) H', (Fp A L Pt).L H H' → 0 ≤ r ∧ r ≤ 9 → Q (.int r) H'
theorem sc_law_digit : FnScope ["_law_pot_here"] ["_law_pot_here"] (fnScope s_law_digit) := ⟨rfl, rfl, rfl, by decide +kernel, rfl, by decide +kernel, by decide +kernel⟩
theorem c_law_digit (T : Tx w K mg) : Cal P w K mg base 4 "_law_digit" (spDig Pt) [] := by
  have c_law_draw := c_law_draw (P := P) (base := base) (Pt := Pt) T
  refine T.d_law_digit.cal sc_law_digit (fun F => ⟨[], .nil, F.bindsN fun _ _ _ _ _ _ us hl => match us, hl with | [_], _ => rfl⟩) (by rintro vs H Q E ⟨A, L, rfl, _⟩; rfl) fun f cdv Ar outer s H vs Q E hr h => ?_
  obtain ⟨A, L, rfl, g, hQ⟩ := h
  refine ⟨_, (pss_cons (ps_if (pt_cmpR op_eq (pe_c c_law_draw hr (by omega) rfl (pa_cons (pv 0) (pa_cons pe_int pa_nil))) pe_int (nomark _))
      (pss_one (ps_ret (pe_c c_law_draw hr (by omega) rfl (pa_cons (pv 0) (pa_cons pe_int pa_nil)))))
      pss_nil)
    (pss_one (ps_ret (pe_c c_law_draw hr (by omega) rfl (pa_cons (pv 0) (pa_cons pe_int pa_nil)))))), ?_⟩
  refine runF_go (R := .int fun r => 0 ≤ r ∧ r ≤ 9) g ?_ fun v H1 e ⟨r, hr, p⟩ => by rw [hr]; exact hQ r H1 e p
  have v0 : ∀ {H1 : Hp}, (Fp A L Pt).G H1 → EvV (Fp A L Pt) (tVar 0) (L2.start ["_law_pot_here"] [.ref A]) H1 (.ref A) := fun g => evv_var g rfl
  have hd : ∀ {H1 : Hp} {n : Int}, (Fp A L Pt).G H1 → 1 ≤ n ∧ n < 1073741824 → Ev (Fp A L Pt) (tCall (spDraw Pt) [] C8.E0 (tCons (tVar 0) (tCons (tC (.int n)) tNil))) (L2.start ["_law_pot_here"] [.ref A]) H1 (.int fun r => 0 ≤ r ∧ r < n) := fun g h => ev_draw (v0 g) (evv_c g) h
  intro H1 e1 D q
  refine hd e1.good ⟨by decide, by decide⟩ H1 (.refl e1.good) _ fun v H2 e2 ⟨r, hr', p⟩ => ?_
  subst hr'
  refine ⟨rfl, _, rfl, ?_⟩
  dsimp only
  split
  · exact hd e2.good ⟨by decide, by decide⟩ H2 (.refl e2.good) _ fun v H3 e3 ⟨r, hr', p⟩ => q _ _ (e2.trans e3) ⟨r, hr', by omega⟩
  · exact hd e2.good ⟨by decide, by decide⟩ H2 (.refl e2.good) _ fun v H3 e3 ⟨r, hr', p⟩ => q _ _ (e2.trans e3) ⟨r, hr', by omega⟩
end
end Oh
set_option maxHeartbeats 4000000
namespace Oh
open PySem PySem.Spec PyProof.Rows L2
open C8 (Cal Met Mak pe_c pe_mk pe_mt pe_mt0 pe_gc InsC call_isC tCut pss_cut fnBody fnArgs fnScope)
/-! ### where the open lines are -/
inductive NoOp : T → Prop
  | mk {h : Hd} {ks : List (List T)} : h.isOpn = false → (∀ b ∈ ks, ∀ t ∈ b, NoOp t) → NoOp (.mk h ks)
def OpD : Nat → T → Prop
  | 0, .mk _ ks => ks.length ≤ 4 ∧ ∀ b ∈ ks, ∀ t ∈ b, NoOp t
  | n + 1, .mk _ ks => ks.length ≤ 4 ∧ ∀ b ∈ ks, (∀ t ∈ b, NoOp t) ∨ (b.length ≤ 4 ∧ ∀ t ∈ b, OpD n t)
theorem OpD.up : ∀ {n : Nat} {t : T}, OpD n t → OpD (n + 1) t
  | 0, .mk _ ks, ⟨h1, h2⟩ => ⟨h1, fun b hb => .inl (h2 b hb)⟩
  | n + 1, .mk _ ks, ⟨h1, h2⟩ => ⟨h1, fun b hb => (h2 b hb).imp id fun z => ⟨z.1, fun t ht => (z.2 t ht).up⟩⟩
theorem OpD.le {m n : Nat} {t : T} (h : OpD m t) (e : m ≤ n) : OpD n t := by
  induction n with
  | zero => obtain rfl : m = 0 := by omega
            exact h
  | succ n ih =>
    rcases Nat.lt_or_ge m (n + 1) with z | z
    · exact (ih (by omega)).up
    · obtain rfl : m = n + 1 := by omega
      exact h
theorem bLst_at {r : List Int × T} : ∀ {above : List Int} {ts : List T} {i : Nat}, r ∈ bLst above i ts → ∃ (j : Nat) (t : T), ts[j]? = some t ∧ r ∈ t.lst (above ++ [((i + j : Nat) : Int)])
  | _, [], _, h => by simp [bLst] at h
  | above, t :: ts, i, h => by
    rw [bLst] at h
    rcases List.mem_append.mp h with h | h
    · exact ⟨0, t, rfl, h⟩
    · obtain ⟨j, u, h1, h2⟩ := bLst_at h
      exact ⟨j + 1, u, by simpa using h1, by rw [show i + (j + 1) = i + 1 + j by omega]; exact h2⟩
theorem bbLst_at' {r : List Int × T} : ∀ {path : List Int} {ks : List (List T)} {i : Nat}, r ∈ bbLst path i ks → ∃ (k : Nat) (b : List T), ks[k]? = some b ∧ r ∈ bLst (path ++ [((i + k : Nat) : Int)]) 0 b
  | _, [], _, h => by simp [bbLst] at h
  | path, b :: bs, i, h => by
    rw [bbLst] at h
    rcases List.mem_append.mp h with h | h
    · exact ⟨0, b, rfl, h⟩
    · obtain ⟨j, u, h1, h2⟩ := bbLst_at' h
      exact ⟨j + 1, u, by simpa using h1, by rw [show i + (j + 1) = i + 1 + j by omega]; exact h2⟩
theorem bbLst_at {r : List Int × T} {path : List Int} {ks : List (List T)} (h : r ∈ bbLst path 0 ks) : ∃ (k : Nat) (b : List T) (j : Nat) (t : T), ks[k]? = some b ∧ b[j]? = some t ∧ r ∈ t.lst (path ++ [(k : Int)] ++ [(j : Int)]) := by
  obtain ⟨k, b, h1, h2⟩ := bbLst_at' h
  obtain ⟨j, t, h3, h4⟩ := bLst_at h2
  exact ⟨k, b, j, t, h1, h3, by simpa using h4⟩
def RelP : Nat → List Int → Prop
  | 0, q => q = []
  | n + 1, q => q = [] ∨ ∃ (k j : Nat) (q' : List Int), q = (k : Int) :: (j : Int) :: q' ∧ k < 4 ∧ j < 4 ∧ RelP n q'
theorem noOp_lst (t : T) : NoOp t → ∀ p, ∀ r ∈ t.lst p, r.2.isOpn = false := by
  refine T.ind (P := fun t => NoOp t → ∀ p, ∀ r ∈ t.lst p, r.2.isOpn = false) (fun h ks ih hn p r hr => ?_) t
  cases hn with
  | mk h1 h2 =>
    rw [T.lst] at hr
    rcases List.mem_cons.mp hr with rfl | hr
    · exact h1
    · obtain ⟨k, b, j, t, hk, hj, hr⟩ := bbLst_at hr
      exact ih b (List.mem_of_getElem? hk) t (List.mem_of_getElem? hj) (h2 b (List.mem_of_getElem? hk) t (List.mem_of_getElem? hj)) _ r hr
theorem opD_paths : ∀ (n : Nat) {t : T}, OpD n t → ∀ p, ∀ r ∈ t.lst p, r.2.isOpn = true → ∃ q, r.1 = p ++ q ∧ RelP n q
  | n, .mk h ks, o, p, r, hr, hi => by
    rw [T.lst] at hr
    rcases List.mem_cons.mp hr with rfl | hr
    · exact ⟨[], (List.append_nil p).symm, by cases n <;> simp [RelP]⟩
    · obtain ⟨k, b, j, t, hk, hj, hr⟩ := bbLst_at hr
      have hb := List.mem_of_getElem? hk
      have ht := List.mem_of_getElem? hj
      cases n with
      | zero => have := noOp_lst t (o.2 b hb t ht) _ r hr; rw [hi] at this; cases this
      | succ n =>
        rcases o.2 b hb with z | z
        · have := noOp_lst t (z t ht) _ r hr; rw [hi] at this; cases this
        · obtain ⟨q, h1, h2⟩ := opD_paths n (z.2 t ht) _ r hr hi
          have k4 : k < ks.length := (List.getElem?_eq_some_iff.mp hk).1
          have j4 : j < b.length := (List.getElem?_eq_some_iff.mp hj).1
          have := o.1
          exact ⟨(k : Int) :: (j : Int) :: q, by rw [h1]; simp, .inr ⟨k, j, q, rfl, by omega, by omega, h2⟩⟩
theorem ints_mem {n k : Nat} (h : k < n) : (k : Int) ∈ nints n := List.mem_map.mpr ⟨k, List.mem_range.mpr h, rfl⟩
theorem path1_mem {i : Nat} (h : i < 8) : [(i : Int)] ∈ path1 := List.mem_map.mpr ⟨_, ints_mem h, rfl⟩
theorem path_ext {ps : List (List Int)} {p : List Int} {k j : Nat} (h : p ∈ ps) (hk : k < 4) (hj : j < 4) : p ++ [(k : Int)] ++ [(j : Int)] ∈ ps.flatMap fun p => (nints 4).flatMap fun k => (nints 4).map fun j => p ++ [k] ++ [j] :=
  List.mem_flatMap.mpr ⟨p, h, List.mem_flatMap.mpr ⟨_, ints_mem hk, List.mem_map.mpr ⟨_, ints_mem hj, rfl⟩⟩⟩
/-- the open lines of a block that is so deep and so wide have paths of the set -/
theorem block_paths {b : List T} (hl : b.length ≤ 8) (h : ∀ t ∈ b, OpD 2 t) : ∀ r ∈ bLst [] 0 b, r.2.isOpn = true → r.1 ∈ pathSet := fun r hr hi => by
  obtain ⟨i, t, h1, h2⟩ := bLst_at hr
  have hi8 : i < 8 := by have := (List.getElem?_eq_some_iff.mp h1).1; omega
  obtain ⟨q, e, rq⟩ := opD_paths 2 (h t (List.mem_of_getElem? h1)) _ r h2 hi
  rw [Nat.zero_add, List.nil_append] at e
  have p1 := path1_mem hi8
  unfold pathSet
  rcases rq with rfl | ⟨k, j, q', rfl, hk, hj, rq⟩
  · rw [e]
    exact List.mem_append_left _ p1
  · have p3 := path_ext p1 hk hj
    rcases rq with rfl | ⟨k', j', q'', rfl, hk', hj', rq⟩
    · rw [e]
      exact List.mem_append_right _ (List.mem_append_left _ p3)
    · obtain rfl : q'' = [] := rq
      rw [e]
      exact List.mem_append_right _ (List.mem_append_right _ (path_ext p3 hk' hj'))
end Oh
set_option maxHeartbeats 4000000
namespace Oh
open PySem PySem.Spec PyProof.Rows L2
open C8 (Cal Met Mak pe_c pe_mk pe_mt pe_mt0 pe_gc InsC call_isC tCut pss_cut fnBody fnArgs fnScope)
/-! ### types of what is drawn -/
def tyW : DT := fun d => ∃ x, d = .str x ∧ NameOk x
def tyE (h : Nat) : DT := fun d => ∃ e : Ex, d = e.d ∧ e.ok ∧ e.ht ≤ h
def OpK : Nat → T → Prop
  | 0, t => NoOp t
  | n + 1, t => OpD n t
theorem okH_len {h : Hd} {ks : List (List T)} (o : okH h ks) : ks.length ≤ 4 := by
  cases h with
  | set x e => rw [o.2]; exact Nat.zero_le _
  | tell x e => rw [o.2]; exact Nat.zero_le _
  | hear x e => rw [o.2]; exact Nat.zero_le _
  | leave => rw [show ks = [] from o]; exact Nat.zero_le _
  | home => rw [show ks = [] from o]; exact Nat.zero_le _
  | fail => rw [show ks = [] from o]; exact Nat.zero_le _
  | wait r => exact o.2.1.2
  | opn => exact o.2
  | iff e => rw [o.2]; decide
  | rep => rw [show ks.length = 1 from o]; decide
theorem opK_up {lp : Bool} {k : Nat} {t : T} (o : T.Ok lp t) (h : OpK k t) : OpK (k + 1) t := by
  cases k with
  | zero =>
    cases o with
    | mk o1 _ _ _ _ =>
      cases h with
      | mk h1 h2 => exact ⟨okH_len o1, h2⟩
  | succ k => exact OpD.up h
theorem opK_le {lp : Bool} {j k : Nat} {t : T} (o : T.Ok lp t) (h : OpK j t) (e : j ≤ k) : OpK k t := by
  induction k with
  | zero => obtain rfl : j = 0 := by omega
            exact h
  | succ k ih =>
    rcases Nat.lt_or_ge j (k + 1) with z | z
    · exact opK_up o (ih (by omega))
    · obtain rfl : j = k + 1 := by omega
      exact h
structure SOk (lp : Bool) (h c k : Nat) (th : Bool) (t : T) : Prop where
  ok : T.Ok lp t
  ht : t.ht ≤ h
  cnt : t.cnt ≤ c
  op : OpK k t
  thr : th = true → t.thr = false
structure BkOk (lp : Bool) (n h c k : Nat) (th : Bool) (b : List T) : Prop where
  len : b.length ≤ n
  ok : ∀ t ∈ b, T.Ok lp t
  ht : bHt b ≤ h
  cnt : bCnt b ≤ c
  op : ∀ t ∈ b, OpK k t
  thr : th = true → bThr b = false
def tyS (lp : Bool) (h c k : Nat) (th : Bool) : DT := fun d => ∃ t, d = t.d ∧ SOk lp h c k th t
def tyB (lp : Bool) (n h c k : Nat) (th : Bool) : DT := fun d => ∃ b, d = blkD b ∧ BkOk lp n h c k th b
theorem ok_leaf {lp : Bool} {h : Hd} (o : okH h []) (l : h = .leave → lp = true) (r : h ≠ .rep) : T.Ok lp (.mk h []) := .mk o (fun b hb => by cases hb) (fun b hb => by cases hb) l fun e => absurd e r
theorem noOp_leaf {h : Hd} (o : h.isOpn = false) : NoOp (.mk h []) := .mk o fun b hb => by cases hb
theorem w_tell {lp : Bool} {x : Str} {e : Ex} (hx : NameOk x) (he : e.ok) (hh : e.ht ≤ 5) : SOk lp 0 1 0 true (.mk (.tell x e) []) := ⟨ok_leaf ⟨⟨hx, he, hh⟩, rfl⟩ (fun z => by cases z) (fun z => by cases z), Nat.le_refl _, Nat.le_refl _, noOp_leaf rfl, fun _ => rfl⟩
theorem w_hear {lp : Bool} {x y : Str} (hx : NameOk x) (hy : NameOk y) : SOk lp 0 1 0 true (.mk (.hear x y) []) := ⟨ok_leaf ⟨⟨hx, hy⟩, rfl⟩ (fun z => by cases z) (fun z => by cases z), Nat.le_refl _, Nat.le_refl _, noOp_leaf rfl, fun _ => rfl⟩
theorem w_set {lp : Bool} {x : Str} {e : Ex} (hx : NameOk x) (he : e.ok) (hh : e.ht ≤ 5) : SOk lp 0 1 0 false (.mk (.set x e) []) := ⟨ok_leaf ⟨⟨hx, he, hh⟩, rfl⟩ (fun z => by cases z) (fun z => by cases z), Nat.le_refl _, Nat.le_refl _, noOp_leaf rfl, fun z => by cases z⟩
theorem w_home {lp : Bool} : SOk lp 0 1 0 true (.mk .home []) := ⟨ok_leaf rfl (fun z => by cases z) (fun z => by cases z), Nat.le_refl _, Nat.le_refl _, noOp_leaf rfl, fun _ => rfl⟩
theorem w_fail {lp : Bool} : SOk lp 0 1 0 true (.mk .fail []) := ⟨ok_leaf rfl (fun z => by cases z) (fun z => by cases z), Nat.le_refl _, Nat.le_refl _, noOp_leaf rfl, fun _ => rfl⟩
theorem w_leave : SOk true 0 1 0 true (.mk .leave []) := ⟨ok_leaf rfl (fun _ => rfl) (fun z => by cases z), Nat.le_refl _, Nat.le_refl _, noOp_leaf rfl, fun _ => rfl⟩
theorem SOk.mono {lp : Bool} {h c k h' c' k' : Nat} {th : Bool} {t : T} (s : SOk lp h c k th t) (e1 : h ≤ h') (e2 : c ≤ c') (e3 : k ≤ k') : SOk lp h' c' k' th t := ⟨s.ok, Nat.le_trans s.ht e1, Nat.le_trans s.cnt e2, opK_le s.ok s.op e3, s.thr⟩
theorem SOk.any {lp : Bool} {h c k : Nat} {th : Bool} {t : T} (s : SOk lp h c k th t) : SOk lp h c k false t := ⟨s.ok, s.ht, s.cnt, s.op, fun z => by cases z⟩
theorem BkOk.mono {lp : Bool} {n h c k n' h' c' k' : Nat} {th : Bool} {b : List T} (s : BkOk lp n h c k th b) (e0 : n ≤ n') (e1 : h ≤ h') (e2 : c ≤ c') (e3 : k ≤ k') : BkOk lp n' h' c' k' th b := ⟨Nat.le_trans s.len e0, s.ok, Nat.le_trans s.ht e1, Nat.le_trans s.cnt e2, fun t ht => opK_le (s.ok t ht) (s.op t ht) e3, s.thr⟩
theorem BkOk.any {lp : Bool} {n h c k : Nat} {th : Bool} {b : List T} (s : BkOk lp n h c k th b) : BkOk lp n h c k false b := ⟨s.len, s.ok, s.ht, s.cnt, s.op, fun z => by cases z⟩
theorem ok_up (t : T) : T.Ok false t → T.Ok true t := by
  refine T.ind (P := fun t => T.Ok false t → T.Ok true t) (fun hd ks ih h => ?_) t
  cases h with
  | mk h1 h2 h3 h4 h5 =>
    refine .mk h1 h2 (fun b hb u hu => ?_) (fun _ => rfl) h5
    have := h3 b hb u hu
    cases hr : hd.isRep with
    | true => rw [hr] at this; exact this
    | false => rw [hr] at this; exact ih b hb u hu this
theorem ok_lp {lp : Bool} {t : T} (h : T.Ok false t) : T.Ok lp t := by
  cases lp with
  | false => exact h
  | true => exact ok_up t h
theorem SOk.lp {lp : Bool} {h c k : Nat} {th : Bool} {t : T} (s : SOk false h c k th t) : SOk lp h c k th t := ⟨ok_lp s.ok, s.ht, s.cnt, s.op, s.thr⟩
theorem BkOk.lp {lp : Bool} {n h c k : Nat} {th : Bool} {b : List T} (s : BkOk false n h c k th b) : BkOk lp n h c k th b := ⟨s.len, fun t ht => ok_lp (s.ok t ht), s.ht, s.cnt, s.op, s.thr⟩
theorem b_nil {lp : Bool} : BkOk lp 0 0 0 0 false [] := ⟨Nat.le_refl _, (fun t ht => by cases ht), Nat.le_refl _, Nat.le_refl _, (fun t ht => by cases ht), fun z => by cases z⟩
theorem b_cons {lp : Bool} {n h c k h' c' k' : Nat} {th th' : Bool} {t : T} {b : List T} (s : SOk lp h c k th t) (r : BkOk lp n h' c' k' th' b) : BkOk lp (n + 1) (max h h') (c + c') (max k k') (th || th') (t :: b) := by
  refine ⟨by simpa using r.len, fun u hu => (List.mem_cons.mp hu).elim (fun e => e ▸ s.ok) (r.ok u), ?_, ?_, fun u hu => (List.mem_cons.mp hu).elim (fun e => e ▸ opK_le s.ok s.op (Nat.le_max_left _ _)) fun z => opK_le (r.ok u z) (r.op u z) (Nat.le_max_right _ _), fun z => ?_⟩
  · show max t.ht (bHt b) ≤ _
    have := s.ht
    have := r.ht
    omega
  · show t.cnt + bCnt b ≤ _
    have := s.cnt
    have := r.cnt
    omega
  · show (t.thr && bThr b) = false
    cases th with
    | true => rw [s.thr rfl]; rfl
    | false => rw [r.thr (by simpa using z)]; simp
theorem b_app {lp : Bool} {n h c k n' h' c' k' : Nat} {th th' : Bool} {a b : List T} (s : BkOk lp n h c k th a) (r : BkOk lp n' h' c' k' th' b) : BkOk lp (n + n') (max h h') (c + c') (max k k') (th || th') (a ++ b) := by
  have hh : ∀ (a b : List T), bHt (a ++ b) = max (bHt a) (bHt b) := fun a b => by
    induction a with
    | nil => simp [bHt]
    | cons t a ih => simp only [List.cons_append, bHt, ih]; omega
  have hc : ∀ (a b : List T), bCnt (a ++ b) = bCnt a + bCnt b := fun a b => by
    induction a with
    | nil => simp [bCnt]
    | cons t a ih => simp only [List.cons_append, bCnt, ih]; omega
  have ht : ∀ (a b : List T), bThr (a ++ b) = (bThr a && bThr b) := fun a b => by
    induction a with
    | nil => simp [bThr]
    | cons t a ih => simp only [List.cons_append, bThr, ih, Bool.and_assoc]
  refine ⟨by rw [List.length_append]; exact Nat.add_le_add s.len r.len, fun u hu => (List.mem_append.mp hu).elim (s.ok u) (r.ok u), ?_, ?_, fun u hu => (List.mem_append.mp hu).elim (fun z => opK_le (s.ok u z) (s.op u z) (Nat.le_max_left _ _)) fun z => opK_le (r.ok u z) (r.op u z) (Nat.le_max_right _ _), fun z => ?_⟩
  · rw [hh]
    have := s.ht
    have := r.ht
    omega
  · rw [hc]
    exact Nat.add_le_add s.cnt r.cnt
  · rw [ht]
    cases th with
    | true => rw [s.thr rfl]; rfl
    | false => rw [r.thr (by simpa using z)]; simp
theorem bbCnt_le {c : Nat} : ∀ {ks : List (List T)}, (∀ b ∈ ks, bCnt b ≤ c) → bbCnt ks ≤ ks.length * c
  | [], _ => Nat.zero_le _
  | b :: bs, h => by
    have h1 := h b (List.mem_cons_self ..)
    have h2 := bbCnt_le (ks := bs) fun u hu => h u (List.mem_cons_of_mem _ hu)
    simp only [bbCnt, List.length_cons, Nat.succ_mul]
    omega
theorem w_node {lp : Bool} {hd : Hd} {ks : List (List T)} {n h c k m : Nat} {th th' : Bool} (o : okH hd ks) (hk : ∀ b ∈ ks, BkOk (lp || hd.isRep) n h c k th' b) (hn : n ≤ 4) (hm : ks.length ≤ m) (l : hd ≠ .leave) (r : hd = .rep → ∀ b ∈ ks, bThr b = false) (ht : th = true → T.thr (.mk hd ks) = false) : SOk lp (h + 1) (m * c + 1) (k + 1) th (.mk hd ks) := by
  refine ⟨.mk o (fun b hb => Nat.le_trans (hk b hb).len (by omega)) (fun b hb => (hk b hb).ok) (fun e => absurd e l) r, bbHt_le fun b hb => Nat.succ_le_succ (hk b hb).ht, ?_, ?_, ht⟩
  · show bbCnt ks + 1 ≤ _
    have := bbCnt_le fun b hb => (hk b hb).cnt
    have := Nat.mul_le_mul_right c hm
    omega
  · cases k with
    | zero => exact ⟨okH_len o, fun b hb => (hk b hb).op⟩
    | succ k => exact ⟨okH_len o, fun b hb => .inr ⟨Nat.le_trans (hk b hb).len hn, (hk b hb).op⟩⟩
def kU : Nat → Nat
  | 0 => 0
  | k + 1 => k + 2
theorem w_nodeU {lp : Bool} {hd : Hd} {ks : List (List T)} {n h c k m : Nat} {th th' : Bool} (o : okH hd ks) (hk : ∀ b ∈ ks, BkOk (lp || hd.isRep) n h c k th' b) (hn : n ≤ 4) (hm : ks.length ≤ m) (l : hd ≠ .leave) (r : hd = .rep → ∀ b ∈ ks, bThr b = false) (no : hd.isOpn = false) (ht : th = true → T.thr (.mk hd ks) = false) : SOk lp (h + 1) (m * c + 1) (kU k) th (.mk hd ks) := by
  have b := w_node (th := th) o hk hn hm l r ht
  cases k with
  | zero => exact ⟨b.ok, b.ht, b.cnt, .mk no fun x hx => (hk x hx).op, b.thr⟩
  | succ k => exact b
theorem w_if {lp : Bool} {e : Ex} {a b : List T} {n h c k n' h' c' k' : Nat} {th th' : Bool} (he : e.ok) (hh : e.ht ≤ 5) (ha : BkOk lp n h c k th a) (hb : BkOk lp n' h' c' k' th' b) (hn : max n n' ≤ 4) : SOk lp (max h h' + 1) (2 * max c c' + 1) (kU (max k k')) false (.mk (.iff e) [a, b]) := by
  refine w_nodeU (th' := false) ⟨⟨he, hh⟩, rfl⟩ (fun x hx => ?_) hn (Nat.le_refl _) (fun z => by cases z) (fun z => by cases z) rfl (fun z => by cases z)
  have e : (lp || Hd.isRep (.iff e)) = lp := by cases lp <;> rfl
  rw [e]
  rcases List.mem_cons.mp hx with rfl | hx
  · exact ha.any.mono (Nat.le_max_left _ _) (Nat.le_max_left _ _) (Nat.le_max_left _ _) (Nat.le_max_left _ _)
  · obtain rfl := List.mem_singleton.mp hx
    exact hb.any.mono (Nat.le_max_right _ _) (Nat.le_max_right _ _) (Nat.le_max_right _ _) (Nat.le_max_right _ _)
theorem w_rep {lp : Bool} {b : List T} {n h c k : Nat} (hb : BkOk true n h c k true b) (hn : n ≤ 4) : SOk lp (h + 1) (1 * c + 1) (kU k) false (.mk .rep [b]) := by
  refine w_nodeU (th' := true) rfl (fun x hx => ?_) hn (Nat.le_refl _) (fun z => by cases z) (fun _ x hx => ?_) rfl (fun z => by cases z)
  · obtain rfl := List.mem_singleton.mp hx
    have e : (lp || Hd.isRep .rep) = true := by cases lp <;> rfl
    rw [e]
    exact hb
  · obtain rfl := List.mem_singleton.mp hx
    exact hb.thr rfl
theorem w_open {lp : Bool} {ks : List (List T)} {n h c k m : Nat} (hk : ∀ b ∈ ks, BkOk lp n h c k false b) (hn : n ≤ 4) (h1 : 1 ≤ ks.length) (hm : ks.length ≤ m) (h4 : m ≤ 4) : SOk lp (h + 1) (m * c + 1) (k + 1) false (.mk .opn ks) := by
  refine w_node (th' := false) ⟨h1, by omega⟩ (fun x hx => ?_) hn hm (fun z => by cases z) (fun z => by cases z) (fun z => by cases z)
  have e : (lp || Hd.isRep .opn) = lp := by cases lp <;> rfl
  rw [e]
  exact hk x hx
theorem w_wait {lp : Bool} {rows : List (Str × Str)} {ks : List (List T)} {n h c k m : Nat} (hl : rows.length = ks.length) (hk : ∀ b ∈ ks, BkOk lp n h c k false b) (hn : n ≤ 4) (h1 : 1 ≤ ks.length) (hm : ks.length ≤ m) (h4 : m ≤ 4) (hr : ∀ r ∈ rows, NameOk r.1 ∧ NameOk r.2) (nd : (rows.map (·.1)).Nodup) : SOk lp (h + 1) (m * c + 1) (kU k) true (.mk (.wait rows) ks) := by
  refine w_nodeU (th' := false) ⟨hl, ⟨h1, by omega⟩, hr, nd⟩ (fun x hx => ?_) hn hm (fun z => by cases z) (fun z => by cases z) rfl (fun _ => rfl)
  have e : (lp || Hd.isRep (.wait rows)) = lp := by cases lp <;> rfl
  rw [e]
  exact hk x hx
end Oh
set_option maxHeartbeats 4000000
namespace Oh
open PySem PySem.Spec PyProof.Rows L2
open C8 (Cal Met Mak pe_c pe_mk pe_mt pe_mt0 pe_gc InsC call_isC tCut pss_cut fnBody fnArgs fnScope)
open LamX NdefX
/-! ### readings by types of the slots -/
abbrev Gam (F : Fm) := List (Option (VP F))
def Env {F : Fm} : Gam F → L2.St → Hp → Prop
  | [], [], _ => True
  | none :: Γ, _ :: σ, H => Env Γ σ H
  | some T :: Γ, o :: σ, H => (∃ v, o = some v ∧ T.p v H) ∧ Env Γ σ H
  | _, _, _ => False
section
variable {F : Fm} {K : PySem.W.Frag} {H0 H H' : Hp} {T T1 T2 R : VP F} {i j : Nat} {v : V} {te ta tb tc : TE} {t tr : TA} {tt tu : TT} {ts tw : TS} {Γ Γ' Γ'' : Gam F}
theorem Env.get : ∀ {Γ : Gam F} {σ : L2.St} {i : Nat}, Env Γ σ H → Γ[i]? = some (some T) → ∃ v, σ[i]? = some (some v) ∧ T.p v H
  | [], _, _, _, h => by simp at h
  | none :: _, _ :: _, 0, _, h => by simp at h
  | some _ :: _, _ :: _, 0, ⟨⟨v, e, p⟩, _⟩, h => by simp at h; subst h; exact ⟨v, by rw [e]; rfl, p⟩
  | none :: Γ, _ :: σ, i + 1, h1, h => by
    obtain ⟨v, e, p⟩ := Env.get (Γ := Γ) (i := i) h1 (by simpa using h)
    exact ⟨v, by simpa using e, p⟩
  | some _ :: Γ, _ :: σ, i + 1, h1, h => by
    obtain ⟨v, e, p⟩ := Env.get (Γ := Γ) (i := i) h1.2 (by simpa using h)
    exact ⟨v, by simpa using e, p⟩
  | none :: _, [], _, h1, _ => h1.elim
  | some _ :: _, [], _, h1, _ => h1.elim
theorem Env.len : ∀ {Γ : Gam F} {σ : L2.St}, Env Γ σ H → σ.length = Γ.length
  | [], [], _ => rfl
  | [], _ :: _, h => h.elim
  | none :: Γ, _ :: σ, h => by simp [Env.len (Γ := Γ) (σ := σ) h]
  | some _ :: Γ, _ :: σ, h => by simp [Env.len (Γ := Γ) (σ := σ) h.2]
  | none :: _, [], h => h.elim
  | some _ :: _, [], h => h.elim
theorem Env.map : ∀ {Γ : Gam F} {σ : L2.St}, (∀ T v, some T ∈ Γ → T.p v H → T.p v H') → Env Γ σ H → Env Γ σ H'
  | [], [], _, _ => trivial
  | none :: Γ, _ :: σ, k, h => Env.map (Γ := Γ) (σ := σ) (fun T v m => k T v (List.mem_cons_of_mem _ m)) h
  | some T :: Γ, o :: σ, k, h => ⟨let ⟨v, e, p⟩ := h.1; ⟨v, e, k T v (List.mem_cons_self ..) p⟩, Env.map (fun T v m => k T v (List.mem_cons_of_mem _ m)) h.2⟩
  | [], _ :: _, _, h => h.elim
  | none :: _, [], _, h => h.elim
  | some _ :: _, [], _, h => h.elim
theorem Env.st {σ : L2.St} (h : Env Γ σ H) (g : F.G H) (e : F.L H H') : Env Γ σ H' := h.map fun T v _ p => T.st _ _ _ g e p
theorem Env.set : ∀ {Γ : Gam F} {σ : L2.St} (i : Nat), Env Γ σ H → T.p v H → Env (Γ.set i (some T)) (σ.set i (some v)) H
  | [], [], _, _, _ => trivial
  | none :: _, _ :: _, 0, h, p => ⟨⟨v, rfl, p⟩, h⟩
  | some _ :: _, _ :: _, 0, h, p => ⟨⟨v, rfl, p⟩, h.2⟩
  | none :: Γ, _ :: σ, i + 1, h, p => Env.set (Γ := Γ) (σ := σ) i h p
  | some _ :: Γ, _ :: σ, i + 1, h, p => ⟨h.1, Env.set (Γ := Γ) (σ := σ) i h.2 p⟩
  | [], _ :: _, _, h, _ => h.elim
  | none :: _, [], _, h, _ => h.elim
  | some _ :: _, [], _, h, _ => h.elim
theorem Env.none : ∀ {Γ : Gam F} {σ : L2.St} (i : Nat) {o : Option V}, Γ[i]? = some Option.none → Env Γ σ H → Env Γ (σ.set i o) H
  | Option.none :: _, _ :: _, 0, _, _, h => h
  | Option.none :: Γ, _ :: σ, i + 1, _, e, h => Env.none (Γ := Γ) (σ := σ) i (by simpa using e) h
  | some _ :: Γ, _ :: σ, i + 1, _, e, h => ⟨h.1, Env.none (Γ := Γ) (σ := σ) i (by simpa using e) h.2⟩
  | some _ :: _, _ :: _, 0, _, e, _ => by simp at e
  | [], _, _, _, e, _ => by simp at e
  | Option.none :: _, [], _, _, _, h => h.elim
  | some _ :: _, [], _, _, _, h => h.elim
/-- weaker types -/
inductive Sub : Gam F → Gam F → Prop
  | nil : Sub [] []
  | no {o : Option (VP F)} {Γ Γ' : Gam F} : Sub Γ Γ' → Sub (o :: Γ) (none :: Γ')
  | so {T T' : VP F} {Γ Γ' : Gam F} : (∀ v H, T.p v H → T'.p v H) → Sub Γ Γ' → Sub (some T :: Γ) (some T' :: Γ')
theorem Sub.refl : ∀ Γ : Gam F, Sub Γ Γ
  | [] => .nil
  | none :: Γ => .no (Sub.refl Γ)
  | some _ :: Γ => .so (fun _ _ h => h) (Sub.refl Γ)
theorem Sub.env {Γ Γ' : Gam F} (s : Sub Γ Γ') : ∀ {σ : L2.St}, Env Γ σ H → Env Γ' σ H := by
  induction s with
  | nil => intro σ h; exact h
  | @no o Γ Γ' s ih =>
    intro σ h
    match o, σ, h with
    | none, _ :: _, h => exact ih h
    | some _, _ :: _, h => exact ih h.2
  | so h _ ih =>
    intro σ e
    match σ, e with
    | _ :: _, e => exact ⟨let ⟨v, q, p⟩ := e.1; ⟨v, q, h _ _ p⟩, ih e.2⟩
variable (F K H0)
def TyE (Γ : Gam F) (te : TE) (T : VP F) : Prop := ∀ σ H, F.L H0 H → Env Γ σ H → Ev F te σ H T
def TyT (Γ : Gam F) (tt : TT) (φ : Bool → Prop) : Prop := ∀ σ H, F.L H0 H → Env Γ σ H → EvT F tt σ H φ
def TyA (Γ : Gam F) (t : TA) (Ts : List (VP F)) : Prop := ∀ σ H, F.L H0 H → Env Γ σ H → EvA F t σ H Ts
def TyD (Γ : Gam F) (t : TA) (Φ : List PyData → Prop) : Prop := ∀ σ H, F.L H0 H → Env Γ σ H → ∀ H1, F.L H H1 → ∀ Q : List V → Hp → Prop, (∀ vs H2 ds, F.L H1 H2 → Φ ds → TdA K H2 vs ds → Q vs H2) → t σ H1 Q
/-- goes on, with these types -/
def TyN (Γ : Gam F) (ts : TS) (Γ' : Gam F) : Prop := ∀ σ H, F.L H0 H → Env Γ σ H → ∀ D : Ends, (∀ σ' H', F.L H0 H' → Env Γ' σ' H' → D.nx σ' H') → ts D σ H
/-- returns -/
def TyR (Γ : Gam F) (ts : TS) (R : VP F) : Prop := ∀ σ H, F.L H0 H → Env Γ σ H → ∀ D : Ends, (∀ v H', F.L H0 H' → R.p v H' → D.rt v H') → ts D σ H
variable {F K H0}
/-! readings -/
theorem ty_sub (h : TyE F H0 Γ te T) (w : ∀ v H, T.p v H → T1.p v H) : TyE F H0 Γ te T1 := fun σ H e env => (h σ H e env).sub fun v H1 _ p => w v H1 p
theorem ty_var (h : Γ[i]? = some (some T)) : TyE F H0 Γ (tVar i) T := fun σ H e env => let ⟨v, h1, h2⟩ := env.get h; ev_var e.good h1 h2
theorem ty_str {x : Str} : TyE F H0 Γ (tC (.str x)) (.dt K (· = .str x)) := fun σ H e env => evd_str e.good
theorem ty_int {n : Int} : TyE F H0 Γ (tC (.int n)) (.int (· = n)) := fun σ H e env => ev_c e.good ⟨n, rfl, rfl⟩
theorem ty_intD {n : Int} : TyE F H0 Γ (tC (.int n)) (.dt K (· = .int n)) := fun σ H e env => evd_int e.good
theorem ty_dt {τ τ' : DT} (h : TyE F H0 Γ te (.dt K τ)) (w : ∀ d, τ d → τ' d) : TyE F H0 Γ te (.dt K τ') := ty_sub h fun v H ⟨d, a, b⟩ => ⟨d, w d a, b⟩
theorem ty_iD {φ : Int → Prop} {τ : DT} (h : TyE F H0 Γ te (.int φ)) (w : ∀ i, φ i → τ (.int i)) : TyE F H0 Γ te (.dt K τ) := ty_sub h fun v H ⟨i, e, p⟩ => ⟨.int i, w i p, e ▸ .int i⟩
theorem ty_i {φ ψ : Int → Prop} (h : TyE F H0 Γ te (.int φ)) (w : ∀ i, φ i → ψ i) : TyE F H0 Γ te (.int ψ) := ty_sub h fun v H ⟨i, e, p⟩ => ⟨i, e, w i p⟩
theorem ty_op0 {f : Int → Int → Int} {φ ψ χ : Int → Prop} (ha : TyE F H0 Γ ta (.int φ)) (hb : TyE F H0 Γ tb (.int ψ)) (w : ∀ i j, φ i → ψ j → χ (f i j)) : TyE F H0 Γ (tOp (rI0 fun i j => .int (f i j)) ta tb) (.int χ) := fun σ H e env =>
  ev_op (ha σ H e env) (hb σ H e env) fun x y H1 e1 ⟨i, ei, pi⟩ ⟨j, ej, pj⟩ Q q => ⟨i, j, ei, ej, q _ _ (.refl e1.good) ⟨_, rfl, w i j pi pj⟩⟩
theorem ty_opC {C : Int → Int → Prop} {f : Int → Int → Int} {φ ψ χ : Int → Prop} (ha : TyE F H0 Γ ta (.int φ)) (hb : TyE F H0 Γ tb (.int ψ)) (w : ∀ i j, φ i → ψ j → C i j ∧ χ (f i j)) : TyE F H0 Γ (tOp (rI C fun i j => .int (f i j)) ta tb) (.int χ) := fun σ H e env =>
  ev_op (ha σ H e env) (hb σ H e env) fun x y H1 e1 ⟨i, ei, pi⟩ ⟨j, ej, pj⟩ Q q => ⟨i, j, ei, ej, (w i j pi pj).1, q _ _ (.refl e1.good) ⟨_, rfl, (w i j pi pj).2⟩⟩
/-! tests -/
theorem tt_any {φ : Bool → Prop} (h : TyT F H0 Γ tt φ) : TyT F H0 Γ tt fun _ => True := fun σ H e env => (h σ H e env).sub fun _ _ => trivial
theorem tt_cmp {p : Int → Int → Bool} {φ ψ : Int → Prop} (ha : TyE F H0 Γ ta (.int φ)) (hb : TyE F H0 Γ tb (.int ψ)) : TyT F H0 Γ (tTest (tOp (rI0 fun i j => .bl (p i j)) ta tb)) fun c => ∃ i j, φ i ∧ ψ j ∧ c = p i j := fun σ H e env H1 e1 Q q =>
  ha σ H e env H1 e1 _ fun x H2 e2 ⟨i, ei, pi⟩ => hb σ H e env H2 (e1.trans e2) _ fun y H3 e3 ⟨j, ej, pj⟩ => ⟨i, j, ei, ej, p i j, rfl, q _ _ (e2.trans e3) ⟨i, j, pi, pj, rfl⟩⟩
theorem tt_eq {φ ψ : Int → Prop} (ha : TyE F H0 Γ ta (.int φ)) (hb : TyE F H0 Γ tb (.int ψ)) : TyT F H0 Γ (tTest (tOp rEq ta tb)) fun c => ∃ i j, φ i ∧ ψ j ∧ c = decide (i = j) := fun σ H e env H1 e1 Q q =>
  ha σ H e env H1 e1 _ fun x H2 e2 ⟨i, ei, pi⟩ => hb σ H e env H2 (e1.trans e2) _ fun y H3 e3 ⟨j, ej, pj⟩ => by
    subst ei
    subst ej
    exact ⟨rfl, _, rfl, q _ _ (e2.trans e3) ⟨i, j, pi, pj, by rw [dec_int]; exact (Bool.eq_iff_iff.mpr (by simp))⟩⟩
theorem tt_or (h : TyT F H0 Γ tt fun _ => True) (h2 : TyT F H0 Γ tu fun _ => True) : TyT F H0 Γ (tOr tt tu) fun _ => True := fun σ H e env H1 e1 Q q => h σ H e env H1 e1 _ fun b H2 e2 _ => by
  split
  · exact q _ _ e2 trivial
  · exact h2 σ H e env H2 (e1.trans e2) _ fun c H3 e3 _ => q _ _ (e2.trans e3) trivial
/-! arguments -/
theorem ta_nil : TyA F H0 Γ tNil [] := fun σ H e env => ea_nil
theorem ta_cons {Ts : List (VP F)} (h : TyE F H0 Γ te T) (hr : TyA F H0 Γ tr Ts) : TyA F H0 Γ (tCons te tr) (T :: Ts) := fun σ H e env => ea_cons (h σ H e env) (hr σ H e env)
theorem td_nil {Φ : List PyData → Prop} (h : Φ []) : TyD F K H0 Γ tNil Φ := fun σ H e env H1 e1 Q q => q [] H1 [] (.refl e1.good) h .nil
theorem td_cons {τ : DT} {Ψ Φ : List PyData → Prop} (h : TyE F H0 Γ te (.dt K τ)) (hr : TyD F K H0 Γ tr Ψ) (c : ∀ d ds, τ d → Ψ ds → Φ (d :: ds)) : TyD F K H0 Γ (tCons te tr) Φ := fun σ H e env H1 e1 Q q =>
  h σ H e env H1 e1 _ fun v H2 e2 ⟨d, hd, td⟩ => hr σ H e env H2 (e1.trans e2) _ fun vs H3 ds e3 hds tds => q (v :: vs) H3 (d :: ds) (e2.trans e3) (c d ds hd hds) (.cons (td.tl (e3.tl e2.good)) tds)
theorem td_sub {Ψ Φ : List PyData → Prop} (h : TyD F K H0 Γ t Ψ) (c : ∀ ds, Ψ ds → Φ ds) : TyD F K H0 Γ t Φ := fun σ H e env H1 e1 Q q => h σ H e env H1 e1 Q fun vs H2 ds e2 p td => q vs H2 ds e2 (c ds p) td
theorem tl_nil : TyD F K H0 Γ tNil (AllD []) := td_nil trivial
theorem tl_cons {τ : DT} {τs : List DT} (h : TyE F H0 Γ te (.dt K τ)) (hr : TyD F K H0 Γ tr (AllD τs)) : TyD F K H0 Γ (tCons te tr) (AllD (τ :: τs)) := td_cons h hr fun d ds a b => ⟨a, b⟩
theorem ty_tup {Φ : List PyData → Prop} {τ : DT} (h : TyD F K H0 Γ t Φ) (c : ∀ ds, Φ ds → ds.length ≤ 1000 ∧ τ (.tuple ds)) : TyE F H0 Γ (tTup t) (.dt K τ) := fun σ H e env H1 e1 Q q =>
  h σ H e env H1 e1 _ fun vs H2 ds e2 hd td => by
    refine ⟨by rw [td.len]; exact Nat.le_trans (c ds hd).1 (by decide), fun p hp => ?_⟩
    have en : F.L H2 (upd H2 p (.tup vs)) := .new e2.good hp
    exact q _ _ (e2.trans en) ⟨.tuple ds, (c ds hd).2, .tup (.of upd_same) (td.tl (en.tl e2.good))⟩
theorem ty_lst {Φ : List PyData → Prop} (h : TyD F K H0 Γ t Φ) (c : ∀ ds, Φ ds → ds.length ≤ 1000) : TyE F H0 Γ (tLst t) (.nls K H0 Φ) := fun σ H e env H1 e1 Q q =>
  h σ H e env H1 e1 _ fun vs H2 ds e2 hd td => by
    refine ⟨by rw [td.len]; exact Nat.le_trans (c ds hd) (by decide), fun p hp => ?_⟩
    have en : F.L H2 (upd H2 p (.lst vs)) := .new e2.good hp
    exact q _ _ (e2.trans en) ⟨p, vs, ds, rfl, L_back ((e.trans e1).trans e2) hp, Fm.nosp e2.good hp, upd_same, td.tl (en.tl e2.good), hd⟩
/-- a list that stays: at any place, of the past -/
def VP.ol (K : PySem.W.Frag) (H0 : Hp) (τ : List PyData → Prop) : VP F := ⟨fun v H' => ∃ a xs ds, v = .ref a ∧ H0 a ≠ none ∧ ¬ F.sp a ∧ H' a = some (.lst xs) ∧ TdA K H' xs ds ∧ τ ds,
  fun _ _ _ g e ⟨p, xs, ds, h1, h2, h3, h4, h5, h6⟩ => ⟨p, xs, ds, h1, h2, h3, e.1 _ _ h4 h3, h5.tl (e.tl g), h6⟩⟩
def VP.at (K : PySem.W.Frag) (a : Addr) (τ : List PyData → Prop) : VP F := ⟨fun v H' => ∃ xs ds, v = .ref a ∧ ¬ F.sp a ∧ H' a = some (.lst xs) ∧ TdA K H' xs ds ∧ τ ds,
  fun _ _ _ g e ⟨xs, ds, h1, h3, h4, h5, h6⟩ => ⟨xs, ds, h1, h3, e.1 _ _ h4 h3, h5.tl (e.tl g), h6⟩⟩
theorem ls_nls {τ τ' : List PyData → Prop} (h : TyE F H0 Γ te (.nls K H0 τ)) (w : ∀ ds, τ ds → τ' ds) : TyE F H0 Γ te (.ls K τ') := ty_sub h fun v H ⟨a, xs, ds, h1, _, h3, h4, h5, h6⟩ => ⟨a, xs, ds, h1, h3, h4, h5, w ds h6⟩
theorem ls_ol {τ τ' : List PyData → Prop} (h : TyE F H0 Γ te (.ol K H0 τ)) (w : ∀ ds, τ ds → τ' ds) : TyE F H0 Γ te (.ls K τ') := ty_sub h fun v H ⟨a, xs, ds, h1, _, h3, h4, h5, h6⟩ => ⟨a, xs, ds, h1, h3, h4, h5, w ds h6⟩
theorem ls_at {a : Addr} {τ τ' : List PyData → Prop} (h : TyE F H0 Γ te (.at K a τ)) (w : ∀ ds, τ ds → τ' ds) : TyE F H0 Γ te (.ls K τ') := ty_sub h fun v H ⟨xs, ds, h1, h3, h4, h5, h6⟩ => ⟨a, xs, ds, h1, h3, h4, h5, w ds h6⟩
theorem ls_sub {τ τ' : List PyData → Prop} (h : TyE F H0 Γ te (.ls K τ)) (w : ∀ ds, τ ds → τ' ds) : TyE F H0 Γ te (.ls K τ') := ty_sub h fun v H ⟨a, xs, ds, h1, h3, h4, h5, h6⟩ => ⟨a, xs, ds, h1, h3, h4, h5, w ds h6⟩
theorem nls_sub {τ τ' : List PyData → Prop} (h : TyE F H0 Γ te (.nls K H0 τ)) (w : ∀ ds, τ ds → τ' ds) : TyE F H0 Γ te (.nls K H0 τ') := ty_sub h fun v H ⟨a, xs, ds, h1, h2, h3, h4, h5, h6⟩ => ⟨a, xs, ds, h1, h2, h3, h4, h5, w ds h6⟩
/-- an item of a list of data -/
theorem ty_ixL {τ : List PyData → Prop} {φ : Int → Prop} {ρ : DT} (h : TyE F H0 Γ ta (.ls K τ)) (hb : TyE F H0 Γ tb (.int φ)) (w : ∀ ds i, τ ds → φ i → ∃ d, atI ds i = some d ∧ ρ d) : TyE F H0 Γ (tOp (rIxL K) ta tb) (.dt K ρ) := fun σ H e env =>
  ev_op (h σ H e env) (hb σ H e env) fun x y H1 e1 ⟨a, xs, ds, h1, h3, h4, h5, h6⟩ ⟨i, ei, pi⟩ Q q => by
    obtain ⟨d, hd, pd⟩ := w ds i h6 pi
    obtain ⟨v, hv, td⟩ := tda_atI h5 hd
    exact ⟨a, xs, i, v, h1, ei, .of h4, hv, q _ _ (.refl e1.good) ⟨d, pd, td⟩⟩
theorem ty_ixT {τ ρ : DT} {φ : Int → Prop} (h : TyE F H0 Γ ta (.dt K τ)) (hb : TyE F H0 Γ tb (.int φ)) (w : ∀ d i, τ d → φ i → ∃ ds e, d = .tuple ds ∧ atI ds i = some e ∧ ρ e) : TyE F H0 Γ (tOp (rIxT K) ta tb) (.dt K ρ) := fun σ H e env =>
  ev_op (h σ H e env) (hb σ H e env) fun x y H1 e1 ⟨d, hd, td⟩ ⟨i, ei, pi⟩ Q q => by
    obtain ⟨ds, u, rfl, hu, pu⟩ := w d i hd pi
    obtain ⟨a, xs, rfl, hs, hx⟩ := td.tupE
    obtain ⟨v, hv, tv⟩ := tda_atI hx hu
    exact ⟨a, xs, i, v, rfl, ei, hs, hv, q _ _ (.refl e1.good) ⟨u, pu, tv⟩⟩
theorem ty_lenL {τ : List PyData → Prop} {φ : Int → Prop} (h : TyE F H0 Γ ta (.ls K τ)) (w : ∀ ds, τ ds → φ (ds.length : Nat)) : TyE F H0 Γ (tCB (rLenQ K) (tCons ta tNil)) (.int φ) := fun σ H e env =>
  ev_cb (ea_cons (h σ H e env) ea_nil) fun vs H1 e1 p Q q => by
    match vs, p with
    | [x], ⟨⟨a, xs, ds, h1, h3, h4, h5, h6⟩, _⟩ =>
      refine ⟨a, xs, by rw [h1], .inl (.of h4), q _ _ (.refl e1.good) ⟨_, rfl, ?_⟩⟩
      rw [h5.len]
      exact w ds h6
abbrev rTupQ (K : PySem.W.Frag) : List V → Hp → VK → Prop := fun xs H Q => ∃ p ys, xs = [.ref p] ∧ ((SqL K H p ys ∧ ∀ l, H l = none → Q (.ref l) (upd H l (.tup ys))) ∨ (SqT K H p ys ∧ Q (.ref p) H))
/-- tuple(list) -/
theorem ty_tupL {τ : List PyData → Prop} {ρ : DT} (h : TyE F H0 Γ ta (.ls K τ)) (w : ∀ ds, τ ds → ρ (.tuple ds)) : TyE F H0 Γ (tCB (rTupQ K) (tCons ta tNil)) (.dt K ρ) := fun σ H e env =>
  ev_cb (ea_cons (h σ H e env) ea_nil) fun vs H1 e1 p Q q => by
    match vs, p with
    | [x], ⟨⟨a, xs, ds, h1, h3, h4, h5, h6⟩, _⟩ =>
      refine ⟨a, xs, by rw [h1], .inl ⟨.of h4, fun l hl => ?_⟩⟩
      have en : F.L H1 (upd H1 l (.tup xs)) := .new e1.good hl
      exact q _ _ en ⟨.tuple ds, w ds h6, .tup (.of upd_same) (h5.tl (en.tl e1.good))⟩
/-- a + b, tuples of data -/
theorem ty_cat {τ τ' ρ : DT} (ha : TyE F H0 Γ ta (.dt K τ)) (hb : TyE F H0 Γ tb (.dt K τ')) (w : ∀ d e, τ d → τ' e → ∃ ds es, d = .tuple ds ∧ e = .tuple es ∧ ds.length + es.length ≤ 1000 ∧ ρ (.tuple (ds ++ es))) : TyE F H0 Γ (tOp (rCatA K) ta tb) (.dt K ρ) := fun σ H e env =>
  ev_op (ha σ H e env) (hb σ H e env) fun x y H1 e1 ⟨d, hd, td⟩ ⟨d', hd', td'⟩ Q q => by
    obtain ⟨ds, es, rfl, rfl, hl, hr⟩ := w d d' hd hd'
    obtain ⟨a, xs, rfl, hs, hx⟩ := td.tupE
    obtain ⟨b, ys, rfl, hs', hx'⟩ := td'.tupE
    refine ⟨a, b, xs, ys, rfl, rfl, hs, hs', by rw [hx.len, hx'.len]; exact Nat.le_trans hl (by decide), fun e0 => ?_, fun _ e0 => ?_, fun _ _ p hp => ?_⟩
    · subst e0
      cases hx
      exact q _ _ (.refl e1.good) ⟨_, hr, .tup hs' hx'⟩
    · subst e0
      cases hx'
      exact q _ _ (.refl e1.good) ⟨_, hr, by rw [List.append_nil]; exact .tup hs hx⟩
    · have en : F.L H1 (upd H1 p (.tup (xs ++ ys))) := .new e1.good hp
      exact q _ _ en ⟨_, hr, .tup (.of upd_same) ((hx.tl (en.tl e1.good)).append (hx'.tl (en.tl e1.good)))⟩
/-- t[lo:hi] -/
theorem sIx_le {n d : Nat} {o : Option Int} (h : d ≤ n) : HT.sIx n d o ≤ n := by
  unfold HT.sIx
  cases o with
  | none => exact h
  | some i => dsimp only; split <;> (try split) <;> omega
def TyO (Γ : Gam F) (to : TO) (φ : Option Int → Prop) : Prop := ∀ σ H, F.L H0 H → Env Γ σ H → EvO F to σ H φ
theorem to_none : TyO (H0 := H0) Γ tNoPart fun o => o = none := fun σ H e env H1 e1 Q q => q _ _ (.refl e1.good) rfl
theorem to_some {φ : Int → Prop} (h : TyE F H0 Γ te (.int φ)) : TyO (H0 := H0) Γ (tPart te) fun o => ∃ i, o = some i ∧ φ i := fun σ H e env H1 e1 Q q => h σ H e env H1 e1 _ fun v H2 e2 ⟨i, ei, pi⟩ => ⟨i, ei, q _ _ e2 ⟨i, rfl, pi⟩⟩
theorem ty_slice {τ ρ : DT} {tl th : TO} {φ ψ : Option Int → Prop} (h : TyE F H0 Γ te (.dt K τ)) (hl : TyO (H0 := H0) Γ tl φ) (hh : TyO (H0 := H0) Γ th ψ)
    (w : ∀ d lo hi, τ d → φ lo → ψ hi → ∃ ds, d = .tuple ds ∧ ρ (.tuple ((ds.drop (HT.sIx ds.length 0 lo)).take (HT.sIx ds.length ds.length hi - HT.sIx ds.length 0 lo)))) : TyE F H0 Γ (tSl (rSlA K) te tl th) (.dt K ρ) := fun σ H e env H1 e1 Q q =>
  h σ H e env H1 e1 _ fun v H2 e2 ⟨d, hd, td⟩ => hl σ H e env H2 (e1.trans e2) _ fun lo H3 e3 plo => hh σ H e env H3 ((e1.trans e2).trans e3) _ fun hi H4 e4 phi => by
    obtain ⟨ds, rfl, hr⟩ := w d lo hi hd plo phi
    obtain ⟨a, xs, rfl, hs, hx⟩ := td.tupE
    have e24 := e3.trans e4
    have hs4 := sqt_tl (e24.tl e2.good) hs
    have hx4 := hx.tl (e24.tl e2.good)
    have e14 := e2.trans e24
    rw [← hx.len] at hr
    refine ⟨a, xs, rfl, hs4, fun ⟨z1, z2⟩ => ?_, fun _ p hp => ?_⟩
    · rw [z1, z2] at hr
      refine q _ _ e14 ⟨_, hr, ?_⟩
      rw [List.drop_zero, Nat.sub_zero, hx.len, List.take_length]
      exact .tup hs4 hx4
    · have en : F.L H4 (upd H4 p (.tup (cutV xs lo hi))) := .new e4.good hp
      exact q _ _ (e14.trans en) ⟨_, hr, .tup (.of upd_same) (tda_take (tda_drop (hx4.tl (en.tl e4.good)) _) _)⟩
/-! calls: what is asked of the arguments, what is given -/
theorem ty_if {c : TT} (h : TyT F H0 Γ c fun _ => True) (ha : TyE F H0 Γ ta T) (hb : TyE F H0 Γ tb T) : TyE F H0 Γ (tIf c ta tb) T := fun σ H e env H1 e1 Q q => h σ H e env H1 e1 _ fun b H2 e2 _ => by
  split
  · exact ha σ H e env H2 (e1.trans e2) _ fun v H3 e3 p => q v H3 (e2.trans e3) p
  · exact hb σ H e env H2 (e1.trans e2) _ fun v H3 e3 p => q v H3 (e2.trans e3) p
/-! statements -/
theorem tn_set (h : TyE F H0 Γ te T) : TyN F H0 Γ (tAsg te (gName i)) (Γ.set i (some T)) := fun σ H e env D q => h σ H e env H (.refl e.good) _ fun v H1 e1 p => q _ _ (e.trans e1) ((env.st e.good e1).set i p)
theorem tn_sub (h : TyN F H0 Γ ts Γ') (s : Sub Γ' Γ'') : TyN F H0 Γ ts Γ'' := fun σ H e env D q => h σ H e env D fun σ' H' e' env' => q σ' H' e' (s.env env')
theorem tn_seq (h : TyN F H0 Γ ts Γ') (k : TyN F H0 Γ' tw Γ'') : TyN F H0 Γ (tSeq ts tw) Γ'' := fun σ H e env D q => h σ H e env { D with nx := tw D } fun σ' H' e' env' => k σ' H' e' env' D q
theorem tn_next (s : Sub Γ Γ') : TyN F H0 Γ tNext Γ' := fun σ H e env D q => q σ H e (s.env env)
theorem tn_if {φ : Bool → Prop} (h : TyT F H0 Γ tt φ) (h1 : φ true → TyN F H0 Γ ts Γ') (h2 : φ false → TyN F H0 Γ tw Γ') : TyN F H0 Γ (tIfS tt ts tw) Γ' := fun σ H e env D q => h σ H e env H (.refl e.good) _ fun b H1 e1 p => by
  split
  · rename_i hb
    rw [hb] at p
    exact h1 p σ H1 (e.trans e1) (env.st e.good e1) D q
  · rename_i hb
    rw [Bool.not_eq_true] at hb
    rw [hb] at p
    exact h2 p σ H1 (e.trans e1) (env.st e.good e1) D q
theorem tr_seq (h : TyN F H0 Γ ts Γ') (k : TyR F H0 Γ' tw R) : TyR F H0 Γ (tSeq ts tw) R := fun σ H e env D q => h σ H e env { D with nx := tw D } fun σ' H' e' env' => k σ' H' e' env' D q
theorem tr_if {φ : Bool → Prop} (h : TyT F H0 Γ tt φ) (h1 : φ true → TyR F H0 Γ ts R) (h2 : φ false → TyR F H0 Γ tw R) : TyR F H0 Γ (tIfS tt ts tw) R := fun σ H e env D q => h σ H e env H (.refl e.good) _ fun b H1 e1 p => by
  split
  · rename_i hb
    rw [hb] at p
    exact h1 p σ H1 (e.trans e1) (env.st e.good e1) D q
  · rename_i hb
    rw [Bool.not_eq_true] at hb
    rw [hb] at p
    exact h2 p σ H1 (e.trans e1) (env.st e.good e1) D q
/-- if ..: return ..; more -/
theorem tr_when {φ : Bool → Prop} (h : TyT F H0 Γ tt φ) (h1 : φ true → TyR F H0 Γ ts R) (h2 : φ false → TyR F H0 Γ tw R) : TyR F H0 Γ (tSeq (tIfS tt ts tNext) tw) R := fun σ H e env D q => h σ H e env H (.refl e.good) _ fun b H1 e1 p => by
  split
  · rename_i hb
    rw [hb] at p
    exact h1 p σ H1 (e.trans e1) (env.st e.good e1) { D with nx := tw D } q
  · rename_i hb
    rw [Bool.not_eq_true] at hb
    rw [hb] at p
    exact h2 p σ H1 (e.trans e1) (env.st e.good e1) D q
theorem tr_ret (h : TyE F H0 Γ te R) : TyR F H0 Γ (tRet te) R := fun σ H e env D q => h σ H e env H (.refl e.good) _ fun v H1 e1 p => q v H1 (e.trans e1) p
/-- a new list gets a name -/
theorem tr_new {τ : List PyData → Prop} (h : TyE F H0 Γ te (.nls K H0 τ)) (k : ∀ a, H0 a = none → TyR F H0 (Γ.set i (some (.at K a τ))) tw R) : TyR F H0 Γ (tSeq (tAsg te (gName i)) tw) R := fun σ H e env D q => h σ H e env H (.refl e.good) _ fun v H1 e1 ⟨a, xs, ds, h1, h2, h3, h4, h5, h6⟩ =>
  k a h2 _ H1 (e.trans e1) ((env.st e.good e1).set i ⟨xs, ds, h1, h3, h4, h5, h6⟩) D q
/-- a list display: a new list, unlike those that have a name -/
theorem tr_lst {Φ : List PyData → Prop} (h : TyD F K H0 Γ t Φ) (c : ∀ ds, Φ ds → ds.length ≤ 1000) (k : ∀ a, H0 a = none → (∀ (j : Nat) (b : Addr) (τ : List PyData → Prop), Γ[j]? = some (some (.at K b τ)) → b ≠ a) → TyR F H0 (Γ.set i (some (.at K a Φ))) tw R) : TyR F H0 Γ (tSeq (tAsg (tLst t) (gName i)) tw) R := fun σ H e env D q => h σ H e env H (.refl e.good) _ fun vs H1 ds e1 hd td => by
  refine ⟨by rw [td.len]; exact Nat.le_trans (c ds hd) (by decide), fun p hp => ?_⟩
  have en : F.L H1 (upd H1 p (.lst vs)) := .new e1.good hp
  have env1 := env.st e.good e1
  refine k p (L_back (e.trans e1) hp) (fun j b τ hj => ?_) _ _ ((e.trans e1).trans en) ((env1.st e1.good en).set i ⟨vs, ds, rfl, Fm.nosp e1.good hp, upd_same, td.tl (en.tl e1.good), hd⟩) D q
  obtain ⟨v, _, xs, ds', _, _, hb, _⟩ := env1.get hj
  exact fun z => by rw [z, hp] at hb; cases hb
/-! append -/
def Stb (a : Addr) (T : VP F) : Prop := ∀ v H xs ys, H a = some (.lst xs) → T.p v H → T.p v (upd H a (.lst ys))
theorem stb_dt {a : Addr} {τ : DT} : Stb a (VP.dt (F := F) K τ) := fun v H xs ys h ⟨d, p, td⟩ => ⟨d, p, td.tl (tl_upd h)⟩
theorem stb_int {a : Addr} {φ : Int → Prop} : Stb a (VP.int (F := F) φ) := fun _ _ _ _ _ h => h
theorem stb_eq {a : Addr} {v : V} : Stb a (VP.eq (F := F) v) := fun _ _ _ _ _ h => h
theorem stb_at {a b : Addr} {τ : List PyData → Prop} (n : b ≠ a) : Stb a (VP.at (F := F) K b τ) := fun v H xs ys h ⟨xs', ds, h1, h3, h4, h5, h6⟩ => ⟨xs', ds, h1, h3, by rw [upd_ne n]; exact h4, h5.tl (tl_upd h), h6⟩
theorem stb_ol {a : Addr} {τ : List PyData → Prop} (n : H0 a = none) : Stb a (VP.ol (F := F) K H0 τ) := fun v H xs ys h ⟨b, xs', ds, h1, h2, h3, h4, h5, h6⟩ => ⟨b, xs', ds, h1, h2, h3, by rw [upd_ne (show b ≠ a from fun z => h2 (by rw [z]; exact n))]; exact h4, h5.tl (tl_upd h), h6⟩
/-- all but slot i stay -/
def StbA (a : Addr) : Nat → Gam F → Prop
  | _, [] => True
  | 0, _ :: Γ => StbA a 1000 Γ
  | i + 1, none :: Γ => StbA a i Γ
  | i + 1, some T :: Γ => Stb a T ∧ StbA a i Γ
theorem StbA.env {a : Addr} {xs ys : List V} (h : H a = some (.lst xs)) : ∀ {Γ : Gam F} {σ : L2.St} {i : Nat}, Γ.length ≤ 900 → StbA a i Γ → Env Γ σ H → ∀ {T : VP F} {v : V}, T.p v (upd H a (.lst ys)) → σ[i]? = some (some v) ∨ Γ.length ≤ i → Env (Γ.set i (some T)) σ (upd H a (.lst ys))
  | [], [], _, _, _, _, _, _, _, _ => trivial
  | [], _ :: _, _, _, _, e, _, _, _, _ => e.elim
  | none :: _, [], _, _, _, e, _, _, _, _ => e.elim
  | some _ :: _, [], _, _, _, e, _, _, _, _ => e.elim
  | o :: Γ, x :: σ, 0, hl, s, e, T, v, p, hv => by
    have hx : x = some v := by
      rcases hv with z | z
      · simpa using z
      · simp at z
    have e' : Env Γ σ H := by
      cases o with
      | none => exact e
      | some U => exact e.2
    refine ⟨⟨v, hx, p⟩, ?_⟩
    have hn : Γ.length ≤ 900 := by simp at hl; omega
    have := StbA.env h (i := 1000) hn s e' p (.inr (by omega))
    rwa [List.set_eq_of_length_le (by omega)] at this
  | none :: Γ, x :: σ, i + 1, hl, s, e, T, v, p, hv => StbA.env h (Γ := Γ) (σ := σ) (i := i) (by simp at hl; omega) s e p (by simpa using hv)
  | some U :: Γ, x :: σ, i + 1, hl, s, e, T, v, p, hv => ⟨let ⟨u, q, pu⟩ := e.1; ⟨u, q, s.1 u H xs ys h pu⟩, StbA.env h (Γ := Γ) (σ := σ) (i := i) (by simp at hl; omega) s.2 e.2 p (by simpa using hv)⟩
theorem tn_app {a : Addr} {τ τ' : List PyData → Prop} {ρ : DT} (hn : H0 a = none) (hi : Γ[i]? = some (some (.at K a τ))) (hl : Γ.length ≤ 900) (h : TyE F H0 Γ te (.dt K ρ)) (s : StbA a i Γ) (w : ∀ ds d, τ ds → ρ d → ds.length ≤ 1000 ∧ τ' (ds ++ [d])) :
    TyN F H0 Γ (tDrop (tBM K "list" rAppend (tVar i) (tCons te tNil))) (Γ.set i (some (.at K a τ'))) := fun σ H e env D q => by
  obtain ⟨v, hv, xs0, ds0, rfl, hsp, ha0, htd0, hτ0⟩ := env.get hi
  refine ⟨.ref a, hv, (.inl ⟨rfl, xs0, .of ha0⟩), ?_⟩
  refine h σ H e env H (.refl e.good) _ fun y H1 e1 ⟨d, hd, td⟩ => ?_
  have ha1 : H1 a = some (.lst xs0) := e1.1 _ _ ha0 hsp
  have htd1 := htd0.tl (e1.tl e.good)
  obtain ⟨hl0, hw⟩ := w ds0 d hτ0 hd
  refine ⟨a, xs0, y, rfl, rfl, ha1, by rw [htd1.len]; exact Nat.lt_of_le_of_lt hl0 (by decide), ?_⟩
  have tu : TL H1 (upd H1 a (.lst (xs0 ++ [y]))) := tl_upd ha1
  have e01 := e.trans e1
  have eN : F.L H0 (upd H1 a (.lst (xs0 ++ [y]))) := ⟨fun b u hb n => by rw [upd_ne (ne_of_none hb hn)]; exact e01.1 b u hb n, F.chg _ _ _ _ e01.2 hsp ha1 (.inl ⟨_, rfl⟩)⟩
  exact q _ _ eN (s.env ha1 hl (env.st e.good e1) ⟨_, _, rfl, hsp, upd_same, (htd1.append (.cons td .nil)).tl tu, hw⟩ (.inl hv))
/-! loops, comprehensions -/
theorem tn_forR {tb : TS} {φ : Int → Prop} {m : Nat} (h : TyE F H0 Γ te (.int φ)) (hb : ∀ n, φ n → 0 ≤ n ∧ n ≤ m) (hm : m ≤ 1000) (Γi : Nat → Gam F) (h0 : Sub Γ (Γi 0))
    (hs : ∀ i, i < m → TyN F H0 ((Γi i).set j (some (.int (· = (i : Nat))))) tb (Γi (i + 1))) (hd : ∀ n : Nat, φ (n : Nat) → Sub (Γi n) Γ') : TyN F H0 Γ (tFor (iRng1 (tCons te tNil)) (gName j) tb) Γ' := fun σ H e env D q =>
  h σ H e env H (.refl e.good) _ fun v H1 e1 ⟨n, ev, pn⟩ => by
    obtain ⟨h1, h2⟩ := hb n pn
    refine ⟨n, by rw [ev], by omega, by omega, for_it walk_range (fun i σ' H3 => F.L H0 H3 ∧ Env (Γi i) σ' H3) ⟨e.trans e1, h0.env (env.st e.good e1)⟩ (fun i σ' H3 _ z => trivial) ?_ ?_⟩
    · rintro i x σ' H3 H4 hi ⟨e3, env3⟩ ⟨rfl, hx⟩
      refine hs i (by omega) _ H4 e3 (env3.set j ?_) _ fun σ4 H5 e5 env5 => ⟨e5, env5⟩
      exact ⟨(i : Nat), by rw [hx]; simp, rfl⟩
    · rintro σ' H3 ⟨e3, env3⟩
      exact q _ _ e3 ((hd n.toNat (by rw [Int.toNat_of_nonneg h1]; exact pn)).env env3)
theorem ty_lcR {φ : Int → Prop} {m : Nat} (hj : Γ[j]? = some none) (h : TyE F H0 Γ ta (.int φ)) (hb : ∀ n, φ n → 0 ≤ n ∧ n ≤ m) (hm : m ≤ 1000) (PT : Nat → PyData → Prop) (turn : ∀ i, i < m → TyE F H0 (Γ.set j (some (.int (· = (i : Nat))))) te (.dt K (PT i))) :
    TyE F H0 Γ (tLc (iRng1 (tCons ta tNil)) (gName j) tYes te [j]) (.nls K H0 fun es => ∃ n : Nat, φ (n : Nat) ∧ es.length = n ∧ ∀ i d, es[i]? = some d → PT i d) := fun σ H e env H1 e1 Q q =>
  h σ H e env H1 e1 _ fun v H2 e2 ⟨n, ev, pn⟩ => by
    obtain ⟨h1, h2⟩ := hb n pn
    refine ⟨n, by rw [ev], by omega, by omega, fun D hD => ?_⟩
    have e02 := (e.trans e1).trans e2
    refine lc_any (F := F) (K := K) (n := n.toNat) e2.good (walk_range.mono (fun _ _ => trivial) fun _ _ _ _ _ _ y => y) hD (by omega) PT ?_ ?_
    · rintro i x H3 H4 hi e3 ⟨rfl, hx⟩
      refine ⟨.refl e3.good, fun R hR => hR _ (wipe_one σ j x) ?_⟩
      have env3 := env.st e.good ((e1.trans e2).trans e3)
      refine turn i (by omega) _ H4 (e02.trans e3) ((Env.none (Γ := Γ) (σ := σ) j hj env3).set j ?_)
      exact ⟨(i : Nat), by rw [hx]; simp, rfl⟩
    · intro H3 ys es e3 hl htd hlen hp
      exact q _ _ (e2.trans e3) ⟨D, ys, es, rfl, L_back e02 hD, Fm.nosp e2.good hD, hl, htd, n.toNat, by rw [Int.toNat_of_nonneg h1]; exact pn, hlen, hp⟩
theorem ty_lcLs {τ : List PyData → Prop} {ρ π : DT} (hj : Γ[j]? = some none) (h : TyE F H0 Γ ta (.ls K τ)) (w : ∀ ds, τ ds → ds.length ≤ 1000 ∧ ∀ d ∈ ds, ρ d) (turn : TyE F H0 (Γ.set j (some (.dt K ρ))) te (.dt K π)) :
    TyE F H0 Γ (tLc (iList K ta) (gName j) tYes te [j]) (.nls K H0 fun es => ∃ ds, τ ds ∧ es.length = ds.length ∧ ∀ d ∈ es, π d) := fun σ H e env H1 e1 Q q =>
  h σ H e env H1 e1 _ fun v H2 e2 ⟨a, xs, ds, ev, hsp, hl, hx, hτ⟩ => by
    subst ev
    obtain ⟨w1, w2⟩ := w ds hτ
    have e02 := (e.trans e1).trans e2
    refine ⟨a, rfl, ⟨xs, .of hl⟩, fun D hD => ?_⟩
    refine lc_any (F := F) (K := K) (n := xs.length) e2.good (walk_list.mono (fun H' e => SqL.of (e.1 _ _ hl hsp)) fun _ _ _ _ _ _ y => y) hD (by rw [hx.len]; omega) (fun _ => π) ?_ ?_
    · rintro i x H3 H4 hi e3 ⟨rfl, hxi⟩
      obtain ⟨d, hd, td⟩ := hx.getV hxi
      refine ⟨.refl e3.good, fun R hR => hR _ (wipe_one σ j x) ?_⟩
      have env3 := env.st e.good ((e1.trans e2).trans e3)
      exact turn _ H4 (e02.trans e3) ((Env.none (Γ := Γ) (σ := σ) j hj env3).set j ⟨d, w2 d (List.mem_of_getElem? hd), td.tl (e3.tl e2.good)⟩)
    · intro H3 ys es e3 hl3 htd hlen hp
      rw [hx.len] at hlen
      refine q _ _ (e2.trans e3) ⟨D, ys, es, rfl, L_back e02 hD, Fm.nosp e2.good hD, hl3, htd, ds, hτ, hlen, fun d hd => ?_⟩
      obtain ⟨i, hi⟩ := List.getElem?_of_mem hd
      exact hp i d hi
/-! promises by types -/
def spG {α : Type} (F : α → Fm) (Ts : (x : α) → List (VP (F x))) (post : (x : α) → Hp → VP (F x)) : Sp := fun vs H Q _ => ∃ x : α, (F x).G H ∧ All2 (Ts x) vs H ∧ ∀ v H', (F x).L H H' → (post x H).p v H' → Q v H'
theorem ty_call {α : Type} {Fx : α → Fm} {Ts : (x : α) → List (VP (Fx x))} {post : (x : α) → Hp → VP (Fx x)} {E : XK} {H0 : Hp} (x : α) {Γ : Gam (Fx x)} {T : VP (Fx x)} (h : TyA (Fx x) H0 Γ t (Ts x)) (w : ∀ v H H', (Fx x).L H0 H → (post x H).p v H' → T.p v H') : TyE (Fx x) H0 Γ (tCall (spG Fx Ts post) [] E t) T := fun σ H e env =>
  ev_call (h σ H e env) fun vs H1 e1 p Q q => ⟨x, e1.good, by rw [List.append_nil]; exact p, fun v H' e2 pv => q _ _ e2 (w v H1 H' (e.trans e1) pv)⟩
theorem nls_back {τ : List PyData → Prop} {v : V} (e : F.L H0 H) (h : (VP.nls (F := F) K H τ).p v H') : (VP.nls (F := F) K H0 τ).p v H' := let ⟨p, xs, ds, h1, h2, h3⟩ := h; ⟨p, xs, ds, h1, L_back e h2, h3⟩
theorem ol_of {τ : List PyData → Prop} (h : (VP.ls (F := F) K τ).p v H) : (VP.ol (F := F) K H τ).p v H := let ⟨p, xs, ds, h1, h2, h3, h4⟩ := h; ⟨p, xs, ds, h1, by rw [h3]; exact fun z => (by cases z), h2, h3, h4⟩
theorem all2_len : ∀ {Ts : List (VP F)} {vs : List V}, All2 Ts vs H → vs.length = Ts.length
  | [], [], _ => rfl
  | _ :: _, _ :: _, h => by simp [all2_len h.2]
  | [], _ :: _, h => h.elim
  | _ :: _, [], h => h.elim
theorem ty_go {Q : VK} {nx : L2.St → Hp → Prop} {σ : L2.St} (g : F.G H) (env : Env Γ σ H) (h : TyR F H Γ ts R) (q : ∀ v H', F.L H H' → R.p v H' → Q v H') : ts { nx := nx, rt := Q } σ H := h σ H (.refl g) env _ q
/-! the pot -/
theorem ty_draw {A L Pt : Addr} {H0 : Hp} {Γ : Gam (Fp A L Pt)} {E : XK} {φ : Int → Prop} {χ : Int → Prop} (hp : TyE (Fp A L Pt) H0 Γ ta (.eq (.ref A))) (h : TyE (Fp A L Pt) H0 Γ te (.int φ)) (w : ∀ n, φ n → (1 ≤ n ∧ n < 1073741824) ∧ ∀ r, 0 ≤ r ∧ r < n → χ r) : TyE (Fp A L Pt) H0 Γ (tCall (spDraw Pt) [] E (tCons ta (tCons te tNil))) (.int χ) := fun σ H e env =>
  ev_call (ea_cons (hp σ H e env) (ea_cons (h σ H e env) ea_nil)) fun vs H1 e1 p Q q => by
    match vs, p with
    | [x, y], ⟨p0, ⟨n, ey, pn⟩, _⟩ =>
      obtain rfl : x = V.ref A := p0
      subst ey
      exact ⟨A, L, n, rfl, e1.good, (w n pn).1, fun r H' e hr => q _ _ e ⟨r, rfl, (w n pn).2 r hr⟩⟩
end
end Oh
set_option maxHeartbeats 4000000
namespace Oh
open PySem PySem.Spec PyProof.Rows L2
open C8 (Cal Met Mak pe_c pe_mk pe_mt pe_mt0 pe_gc InsC call_isC tCut pss_cut fnBody fnArgs fnScope)
open LamX NdefX
/-! ### tuples of the law's games, by types -/
structure WOk (ws : List Str) : Prop where
  len : ws.length = 11
  nm : ∀ x ∈ ws, NameOk x
  nd : (ws.take 7).Nodup
abbrev wn (ws : List Str) (i : Nat) : Str := ws.getD i ""
theorem WOk.at {ws : List Str} (h : WOk ws) {i : Nat} (hi : i < 11) : ws[i]? = some (wn ws i) ∧ NameOk (wn ws i) := by
  have hl : i < ws.length := by rw [h.len]; exact hi
  have e : ws[i]? = some ws[i] := List.getElem?_eq_getElem hl
  have e2 : wn ws i = ws[i] := by unfold wn; rw [List.getD_eq_getElem?_getD, e]; rfl
  exact ⟨by rw [e2]; exact e, by rw [e2]; exact h.nm _ (List.getElem_mem hl)⟩
theorem WOk.ne {ws : List Str} (h : WOk ws) {i j : Nat} (hi : i < 7) (hj : j < 7) (n : i ≠ j) : wn ws i ≠ wn ws j := fun e => by
  have e1 := (h.at (show i < 11 by omega)).1
  have e2 := (h.at (show j < 11 by omega)).1
  have l7 : (ws.take 7).length = 7 := by rw [List.length_take, h.len]; rfl
  have f1 : (ws.take 7)[i]? = some (wn ws i) := by rw [List.getElem?_take_of_lt hi]; exact e1
  have f2 : (ws.take 7)[j]? = some (wn ws j) := by rw [List.getElem?_take_of_lt hj]; exact e2
  rw [e] at f1
  exact n ((List.getElem?_inj (l := ws.take 7) (i := i) (j := j) (by rw [l7]; exact hi) h.nd).mp (f1.trans f2.symm))
def dL : List PyData → Prop := fun ds => (2 ≤ ds.length ∧ ds.length ≤ 3) ∧ ∀ d ∈ ds, tyE 1 d
def wL (ws : List Str) : List PyData → Prop := fun ds => ds = ws.map .str
def lB (lp : Bool) (n h c k : Nat) (th : Bool) : List PyData → Prop := fun ds => ∃ b, ds = bd b ∧ BkOk lp n h c k th b
def lK (lp : Bool) (m M n h c k : Nat) : List PyData → Prop := fun ds => ∃ ks, ds = bbd ks ∧ (m ≤ ks.length ∧ ks.length ≤ M) ∧ ∀ b ∈ ks, BkOk lp n h c k false b
def tyK (lp : Bool) (m M n h c k : Nat) : DT := fun d => ∃ ds, d = .tuple ds ∧ lK lp m M n h c k ds
def tyO (lp : Bool) (m M n h c k : Nat) : DT := fun d => ∃ ds, d = .tuple [.str "open", .tuple ds] ∧ lK lp m M n h c k ds
def lR (lp : Bool) (ps : List Str) (n h c k : Nat) : List PyData → Prop := fun ds => ∃ (rs : List (Str × Str)) (ks : List (List T)), ds = rowsD rs (bbd ks) ∧ rs.length = ks.length ∧ rs.map (·.1) = ps ∧ (∀ r ∈ rs, NameOk r.1 ∧ NameOk r.2) ∧ ∀ b ∈ ks, BkOk lp n h c k false b
def tyR (lp : Bool) (ps : List Str) (n h c k : Nat) : DT := fun d => ∃ ds, d = .tuple ds ∧ lR lp ps n h c k ds
def tyRow (lp : Bool) (p : Str) (n h c k : Nat) : DT := fun d => ∃ x b, d = .tuple [.str p, .str x, blkD b] ∧ NameOk p ∧ NameOk x ∧ BkOk lp n h c k false b
def rg (a b : Int) : Int → Prop := fun i => a ≤ i ∧ i < b
section
variable {F : Fm} {K : PySem.W.Frag} {H0 H H' : Hp} {T0 T1 T2 R : VP F} {i j : Nat} {v : V} {te ta tb tc tp : TE} {t tr : TA} {tt tu : TT} {ts tw : TS} {Γ Γ' Γ'' : Gam F} {ws : List Str} {lp th th' : Bool} {n hg c k n' hg' c' k' m M m' M' : Nat} {p : Str} {ps : List Str}
/-! names, digits -/
theorem atI_lt {α : Type} {xs : List α} {i : Int} (h : 0 ≤ i ∧ i < xs.length) : ∃ x, atI xs i = some x ∧ x ∈ xs := by
  obtain ⟨j, rfl⟩ := Int.eq_ofNat_of_zero_le h.1
  have hj : j < xs.length := by omega
  exact ⟨xs[j], atI_nat (List.getElem?_eq_getElem hj), List.getElem_mem hj⟩
theorem ty_wx (hw : WOk ws) (h : TyE F H0 Γ ta (.ls K (wL ws))) (i : Nat) (hi : i < 11) : TyE F H0 Γ (tOp (rIxL K) ta (tC (.int (i : Nat)))) (.dt K (· = .str (wn ws i))) := ty_ixL h ty_int fun ds j hd hj => by
  subst hj
  rw [show ds = _ from hd]
  exact ⟨_, atI_nat (by rw [List.getElem?_map, (hw.at hi).1]; rfl), rfl⟩
theorem ty_x (h : TyE F H0 Γ te (.dt K (· = .str p))) (hp : NameOk p) : TyE F H0 Γ te (.dt K tyW) := ty_dt h fun d e => ⟨p, e, hp⟩
theorem ty_w (hw : WOk ws) (h : TyE F H0 Γ ta (.ls K (wL ws))) (i : Nat) (hi : i < 11) : TyE F H0 Γ (tOp (rIxL K) ta (tC (.int (i : Nat)))) (.dt K tyW) := ty_x (ty_wx hw h i hi) (hw.at hi).2
theorem ty_wi (hw : WOk ws) (h : TyE F H0 Γ ta (.ls K (wL ws))) {φ : Int → Prop} (hi : TyE F H0 Γ tb (.int φ)) (hr : ∀ i, φ i → 0 ≤ i ∧ i < 11) : TyE F H0 Γ (tOp (rIxL K) ta tb) (.dt K tyW) := ty_ixL h hi fun ds j hd hj => by
  rw [show ds = _ from hd]
  have := hr j hj
  obtain ⟨x, h1, h2⟩ := atI_lt (xs := ws.map PyData.str) (i := j) (by rw [List.length_map, hw.len]; exact this)
  obtain ⟨z, hz, rfl⟩ := List.mem_map.mp h2
  exact ⟨_, h1, z, rfl, hw.nm z hz⟩
theorem ty_dg (h : TyE F H0 Γ ta (.ls K dL)) {φ : Int → Prop} (hi : TyE F H0 Γ tb (.int φ)) (hr : ∀ i, φ i → 0 ≤ i ∧ i < 2) : TyE F H0 Γ (tOp (rIxL K) ta tb) (.dt K (tyE 1)) := ty_ixL h hi fun ds j hd hj => by
  have := hr j hj
  have hl := hd.1.1
  obtain ⟨x, h1, h2⟩ := atI_lt (xs := ds) (i := j) (by omega)
  exact ⟨x, h1, hd.2 x h2⟩
/-! expressions -/
theorem ty_iE {φ : Int → Prop} (h : TyE F H0 Γ te (.int φ)) (w : ∀ i, φ i → 0 ≤ i ∧ i ≤ 9) : TyE F H0 Γ te (.dt K (tyE 1)) := ty_iD h fun i p => ⟨.dig i, rfl, w i p, Nat.le_refl _⟩
theorem ty_lit {n : Int} (h : 0 ≤ n ∧ n ≤ 9 := by decide) : TyE F H0 Γ (tC (.int n)) (.dt K (tyE 1)) := ty_dt ty_intD fun d e => ⟨.dig n, e, h, Nat.le_refl _⟩
theorem ty_eh (h : TyE F H0 Γ te (.dt K (tyE n))) (e : n ≤ m := by decide) : TyE F H0 Γ te (.dt K (tyE m)) := ty_dt h fun d ⟨x, a, b, c⟩ => ⟨x, a, b, Nat.le_trans c e⟩
theorem ty_name (h : TyE F H0 Γ te (.dt K tyW)) : TyE F H0 Γ (tTup (tCons (tC (.str "name")) (tCons te tNil))) (.dt K (tyE 1)) := ty_tup (tl_cons ty_str (tl_cons h tl_nil)) fun ds h => by
  match ds, h with
  | [_, _], ⟨rfl, ⟨x, rfl, hx⟩, _⟩ => exact ⟨by simp, .nm x, rfl, hx, Nat.le_refl _⟩
theorem ty_not (h : TyE F H0 Γ te (.dt K (tyE n))) : TyE F H0 Γ (tTup (tCons (tC (.str "not")) (tCons te tNil))) (.dt K (tyE (n + 1))) := ty_tup (tl_cons ty_str (tl_cons h tl_nil)) fun ds h => by
  match ds, h with
  | [_, _], ⟨rfl, ⟨x, rfl, hx, hh⟩, _⟩ => exact ⟨by simp, .no x, rfl, hx, Nat.succ_le_succ hh⟩
theorem bin_ex {o : Bo} {x y : Ex} (hx : x.ok) (hxh : x.ht ≤ n) (hy : y.ok) (hyh : y.ht ≤ m) : (Ex.bin o x y).ok ∧ (Ex.bin o x y).ht ≤ max n m + 1 := ⟨⟨hx, hy⟩, by show max x.ht y.ht + 1 ≤ _; omega⟩
theorem ty_bin (o : Bo) (ha : TyE F H0 Γ ta (.dt K (tyE n))) (hb : TyE F H0 Γ tb (.dt K (tyE m))) : TyE F H0 Γ (tTup (tCons (tC (.str o.s)) (tCons ta (tCons tb tNil)))) (.dt K (tyE (max n m + 1))) := ty_tup (tl_cons ty_str (tl_cons ha (tl_cons hb tl_nil))) fun ds h => by
  match ds, h with
  | [_, _, _], ⟨rfl, ⟨x, rfl, hx, hh⟩, ⟨y, rfl, hy, hyh⟩, _⟩ => exact ⟨by simp, .bin o x y, rfl, bin_ex hx hh hy hyh⟩
/-! statements -/
theorem ty_tell (hp : TyE F H0 Γ tp (.dt K tyW)) (he : TyE F H0 Γ te (.dt K (tyE n))) (hh : n ≤ 5 := by decide) : TyE F H0 Γ (tTup (tCons (tC (.str "tell")) (tCons tp (tCons te tNil)))) (.dt K (tyS lp 0 1 0 true)) := ty_tup (tl_cons ty_str (tl_cons hp (tl_cons he tl_nil))) fun ds h => by
  match ds, h with
  | [_, _, _], ⟨rfl, ⟨x, rfl, hx⟩, ⟨y, rfl, hy, hyh⟩, _⟩ => exact ⟨by simp, .mk (.tell x y) [], rfl, w_tell hx hy (Nat.le_trans hyh hh)⟩
theorem ty_set (hp : TyE F H0 Γ tp (.dt K tyW)) (he : TyE F H0 Γ te (.dt K (tyE n))) (hh : n ≤ 5 := by decide) : TyE F H0 Γ (tTup (tCons (tC (.str "set")) (tCons tp (tCons te tNil)))) (.dt K (tyS lp 0 1 0 false)) := ty_tup (tl_cons ty_str (tl_cons hp (tl_cons he tl_nil))) fun ds h => by
  match ds, h with
  | [_, _, _], ⟨rfl, ⟨x, rfl, hx⟩, ⟨y, rfl, hy, hyh⟩, _⟩ => exact ⟨by simp, .mk (.set x y) [], rfl, w_set hx hy (Nat.le_trans hyh hh)⟩
theorem ty_hear (hp : TyE F H0 Γ tp (.dt K tyW)) (he : TyE F H0 Γ te (.dt K tyW)) : TyE F H0 Γ (tTup (tCons (tC (.str "hear")) (tCons tp (tCons te tNil)))) (.dt K (tyS lp 0 1 0 true)) := ty_tup (tl_cons ty_str (tl_cons hp (tl_cons he tl_nil))) fun ds h => by
  match ds, h with
  | [_, _, _], ⟨rfl, ⟨x, rfl, hx⟩, ⟨y, rfl, hy⟩, _⟩ => exact ⟨by simp, .mk (.hear x y) [], rfl, w_hear hx hy⟩
theorem ty_home : TyE F H0 Γ (tTup (tCons (tC (.str "home")) tNil)) (.dt K (tyS lp 0 1 0 true)) := ty_tup (tl_cons ty_str tl_nil) fun ds h => by
  match ds, h with
  | [_], ⟨rfl, _⟩ => exact ⟨by simp, .mk .home [], rfl, w_home⟩
theorem ty_fail : TyE F H0 Γ (tTup (tCons (tC (.str "fail")) tNil)) (.dt K (tyS lp 0 1 0 true)) := ty_tup (tl_cons ty_str tl_nil) fun ds h => by
  match ds, h with
  | [_], ⟨rfl, _⟩ => exact ⟨by simp, .mk .fail [], rfl, w_fail⟩
theorem ty_leave : TyE F H0 Γ (tTup (tCons (tC (.str "leave")) tNil)) (.dt K (tyS true 0 1 0 true)) := ty_tup (tl_cons ty_str tl_nil) fun ds h => by
  match ds, h with
  | [_], ⟨rfl, _⟩ => exact ⟨by simp, .mk .leave [], rfl, w_leave⟩
theorem bbd2 {a b : List T} : [blkD a, blkD b] = bbd [a, b] := rfl
theorem ty_iff (he : TyE F H0 Γ te (.dt K (tyE m))) (ha : TyE F H0 Γ ta (.dt K (tyB lp n hg c k th))) (hb : TyE F H0 Γ tb (.dt K (tyB lp n' hg' c' k' th'))) (hm : m ≤ 5 := by decide) (hn : max n n' ≤ 4 := by decide) :
    TyE F H0 Γ (tTup (tCons (tC (.str "if")) (tCons te (tCons ta (tCons tb tNil))))) (.dt K (tyS lp (max hg hg' + 1) (2 * max c c' + 1) (kU (max k k')) false)) := ty_tup (tl_cons ty_str (tl_cons he (tl_cons ha (tl_cons hb tl_nil)))) fun ds h => by
  match ds, h with
  | [_, _, _, _], ⟨rfl, ⟨x, rfl, hx, hh⟩, ⟨a, rfl, ha⟩, ⟨b, rfl, hb⟩, _⟩ => exact ⟨by simp, .mk (.iff x) [a, b], rfl, w_if hx (Nat.le_trans hh hm) ha hb hn⟩
theorem ty_rep (ha : TyE F H0 Γ ta (.dt K (tyB true n hg c k th))) (hn : n ≤ 4 := by decide) (ht : th = true := by rfl) : TyE F H0 Γ (tTup (tCons (tC (.str "repeat")) (tCons ta tNil))) (.dt K (tyS lp (hg + 1) (1 * c + 1) (kU k) false)) := ty_tup (tl_cons ty_str (tl_cons ha tl_nil)) fun ds h => by
  match ds, h with
  | [_, _], ⟨rfl, ⟨a, rfl, ha⟩, _⟩ => exact ⟨by simp, .mk .rep [a], rfl, w_rep (ht ▸ ha) hn⟩
theorem ty_opn (ha : TyE F H0 Γ ta (.dt K (tyK lp m M n hg c k))) : TyE F H0 Γ (tTup (tCons (tC (.str "open")) (tCons ta tNil))) (.dt K (tyO lp m M n hg c k)) := ty_tup (tl_cons ty_str (tl_cons ha tl_nil)) fun ds h => by
  match ds, h with
  | [_, _], ⟨rfl, ⟨a, rfl, ha⟩, _⟩ => exact ⟨by simp, a, rfl, ha⟩
theorem o_S (hm : 1 ≤ m) (hM : M ≤ 4) (hn : n ≤ 4) : ∀ d, tyO lp m M n hg c k d → tyS lp (hg + 1) (M * c + 1) (k + 1) false d := fun d ⟨ds, e, ks, e2, hl, hk⟩ => ⟨.mk .opn ks, by rw [e, e2]; rfl, w_open hk hn (by omega) hl.2 hM⟩
theorem ty_oS (h : TyE F H0 Γ te (.dt K (tyO lp m M n hg c k))) (hm : 1 ≤ m := by decide) (hM : M ≤ 4 := by decide) (hn : n ≤ 4 := by decide) : TyE F H0 Γ te (.dt K (tyS lp (hg + 1) (M * c + 1) (k + 1) false)) := ty_dt h (o_S hm hM hn)
theorem ty_o1 (h : TyE F H0 Γ te (.dt K (tyO lp m M n hg c k))) : TyE F H0 Γ (tOp (rIxT K) te (tC (.int 1))) (.dt K (tyK lp m M n hg c k)) := ty_ixT h ty_int fun d i ⟨ds, e, hk⟩ hi => ⟨_, .tuple ds, e, by rw [hi]; rfl, ds, rfl, hk⟩
/-! blocks -/
theorem db_nil : TyD F K H0 Γ tNil (lB lp 0 0 0 0 false) := td_nil ⟨[], rfl, b_nil⟩
theorem db_cons (h : TyE F H0 Γ te (.dt K (tyS lp hg c k th))) (hr : TyD F K H0 Γ tr (lB lp n hg' c' k' th')) : TyD F K H0 Γ (tCons te tr) (lB lp (n + 1) (max hg hg') (c + c') (max k k') (th || th')) := td_cons h hr fun d ds ⟨t, e, s⟩ ⟨b, e2, r⟩ => ⟨t :: b, by rw [e, e2]; rfl, b_cons s r⟩
theorem ty_blk (h : TyD F K H0 Γ t (lB lp n hg c k th)) (hn : n ≤ 1000 := by decide) : TyE F H0 Γ (tTup t) (.dt K (tyB lp n hg c k th)) := ty_tup h fun ds ⟨b, e, s⟩ => ⟨by rw [e, bd_len]; exact Nat.le_trans s.len hn, b, by rw [e], s⟩
theorem dk_nil : TyD F K H0 Γ tNil (lK lp 0 0 0 0 0 0) := td_nil ⟨[], rfl, ⟨Nat.le_refl _, Nat.le_refl _⟩, fun b hb => by cases hb⟩
theorem dk_cons (h : TyE F H0 Γ te (.dt K (tyB lp n hg c k th))) (hr : TyD F K H0 Γ tr (lK lp m M n' hg' c' k')) : TyD F K H0 Γ (tCons te tr) (lK lp (m + 1) (M + 1) (max n n') (max hg hg') (max c c') (max k k')) := td_cons h hr fun d ds ⟨b, e, s⟩ ⟨ks, e2, hl, r⟩ => ⟨b :: ks, by rw [e, e2]; rfl, ⟨by simp; omega, by simp; omega⟩, fun x hx => by
  rcases List.mem_cons.mp hx with rfl | hx
  · exact s.any.mono (Nat.le_max_left _ _) (Nat.le_max_left _ _) (Nat.le_max_left _ _) (Nat.le_max_left _ _)
  · exact (r x hx).mono (Nat.le_max_right _ _) (Nat.le_max_right _ _) (Nat.le_max_right _ _) (Nat.le_max_right _ _)⟩
theorem ty_blks (h : TyD F K H0 Γ t (lK lp m M n hg c k)) (hn : M ≤ 1000 := by decide) : TyE F H0 Γ (tTup t) (.dt K (tyK lp m M n hg c k)) := ty_tup h fun ds ⟨b, e, hl, s⟩ => ⟨by rw [e, bbd_len]; exact Nat.le_trans hl.2 hn, _, rfl, b, e, hl, s⟩
theorem ty_lpS (h : TyE F H0 Γ te (.dt K (tyS false hg c k th))) : TyE F H0 Γ te (.dt K (tyS lp hg c k th)) := ty_dt h fun d ⟨t, e, s⟩ => ⟨t, e, s.lp⟩
theorem ty_lpB (h : TyE F H0 Γ te (.dt K (tyB false n hg c k th))) : TyE F H0 Γ te (.dt K (tyB lp n hg c k th)) := ty_dt h fun d ⟨t, e, s⟩ => ⟨t, e, s.lp⟩
theorem ty_lpK (h : TyE F H0 Γ te (.dt K (tyK false m M n hg c k))) : TyE F H0 Γ te (.dt K (tyK lp m M n hg c k)) := ty_dt h fun d ⟨t, e, ks, e2, hl, s⟩ => ⟨t, e, ks, e2, hl, fun b hb => (s b hb).lp⟩
theorem ty_lpR (h : TyE F H0 Γ te (.dt K (tyR false ps n hg c k))) : TyE F H0 Γ te (.dt K (tyR lp ps n hg c k)) := ty_dt h fun d ⟨t, e, rs, ks, e2, hl, e3, hn, s⟩ => ⟨t, e, rs, ks, e2, hl, e3, hn, fun b hb => (s b hb).lp⟩
theorem ty_subS (h : TyE F H0 Γ te (.dt K (tyS lp hg c k th))) (e1 : hg ≤ hg' := by decide) (e2 : c ≤ c' := by decide) (e3 : k ≤ k' := by decide) : TyE F H0 Γ te (.dt K (tyS lp hg' c' k' false)) := ty_dt h fun d ⟨t, e, s⟩ => ⟨t, e, s.any.mono e1 e2 e3⟩
theorem ty_subB (h : TyE F H0 Γ te (.dt K (tyB lp n hg c k th))) (e0 : n ≤ n' := by decide) (e1 : hg ≤ hg' := by decide) (e2 : c ≤ c' := by decide) (e3 : k ≤ k' := by decide) : TyE F H0 Γ te (.dt K (tyB lp n' hg' c' k' false)) := ty_dt h fun d ⟨t, e, s⟩ => ⟨t, e, s.any.mono e0 e1 e2 e3⟩
theorem bd_app (a b : List T) : bd a ++ bd b = bd (a ++ b) := by rw [bd_eq, bd_eq, bd_eq, List.map_append]
theorem bbd_app (a b : List (List T)) : bbd a ++ bbd b = bbd (a ++ b) := by rw [bbd_eq, bbd_eq, bbd_eq, List.map_append]
theorem ty_catB (ha : TyE F H0 Γ ta (.dt K (tyB lp n hg c k th))) (hb : TyE F H0 Γ tb (.dt K (tyB lp n' hg' c' k' th'))) (hn : n + n' ≤ 1000 := by decide) : TyE F H0 Γ (tOp (rCatA K) ta tb) (.dt K (tyB lp (n + n') (max hg hg') (c + c') (max k k') (th || th'))) := ty_cat ha hb fun d e ⟨a, e1, s1⟩ ⟨b, e2, s2⟩ => ⟨_, _, e1, e2, by rw [bd_len, bd_len]; have := s1.len; have := s2.len; omega, a ++ b, by rw [bd_app], b_app s1 s2⟩
theorem ty_catK (ha : TyE F H0 Γ ta (.dt K (tyK lp m M n hg c k))) (hb : TyE F H0 Γ tb (.dt K (tyK lp m' M' n' hg' c' k'))) (hn : M + M' ≤ 1000 := by decide) : TyE F H0 Γ (tOp (rCatA K) ta tb) (.dt K (tyK lp (m + m') (M + M') (max n n') (max hg hg') (max c c') (max k k'))) := ty_cat ha hb fun d e ⟨ds, e1, ks, q1, l1, s1⟩ ⟨es, e2, us, q2, l2, s2⟩ => ⟨_, _, e1, e2, by rw [q1, q2, bbd_len, bbd_len]; omega, _, rfl, ks ++ us, by rw [q1, q2, bbd_app], ⟨by rw [List.length_append]; omega, by rw [List.length_append]; omega⟩, fun b hb => by
  rcases List.mem_append.mp hb with hb | hb
  · exact (s1 b hb).mono (Nat.le_max_left _ _) (Nat.le_max_left _ _) (Nat.le_max_left _ _) (Nat.le_max_left _ _)
  · exact (s2 b hb).mono (Nat.le_max_right _ _) (Nat.le_max_right _ _) (Nat.le_max_right _ _) (Nat.le_max_right _ _)⟩
theorem bbd_drop (ks : List (List T)) (i : Nat) : (bbd ks).drop i = bbd (ks.drop i) := by rw [bbd_eq, bbd_eq, List.map_drop]
theorem bbd_take (ks : List (List T)) (i : Nat) : (bbd ks).take i = bbd (ks.take i) := by rw [bbd_eq, bbd_eq, List.map_take]
theorem sIx_nat {n d : Nat} (i : Nat) : HT.sIx n d (some (i : Nat)) = min i n := by
  unfold HT.sIx
  dsimp only
  split
  · omega
  · simp
/-- ks[lo:], lo among 0 to j -/
theorem ty_cutLo (j : Nat) {φ : Int → Prop} (h : TyE F H0 Γ te (.dt K (tyK lp m M n hg c k))) (hi : TyE F H0 Γ tb (.int φ)) (hj : ∀ i, φ i → 0 ≤ i ∧ i ≤ j) : TyE F H0 Γ (tSl (rSlA K) te (tPart tb) tNoPart) (.dt K (tyK lp (m - j) M n hg c k)) := ty_slice h (to_some hi) to_none fun d lo hi ⟨ds, e, ks, q, l, s⟩ ⟨i, e1, pi⟩ e2 => by
  obtain ⟨h1, h2⟩ := hj i pi
  obtain ⟨i, rfl⟩ := Int.eq_ofNat_of_zero_le h1
  subst e1
  subst e2
  subst q
  refine ⟨_, e, _, rfl, (ks.drop (min i ks.length)).take (ks.length - min i ks.length), ?_, ⟨?_, ?_⟩, fun b hb => s b (List.mem_of_mem_drop (List.mem_of_mem_take hb))⟩
  · rw [bbd_len, sIx_nat, show HT.sIx ks.length ks.length none = ks.length from rfl, bbd_drop, bbd_take]
  · rw [List.length_take, List.length_drop]; omega
  · rw [List.length_take, List.length_drop]; omega
/-- ks[:hi], hi from j on -/
theorem ty_cutHi (j : Nat) {φ : Int → Prop} (h : TyE F H0 Γ te (.dt K (tyK lp m M n hg c k))) (hi : TyE F H0 Γ tb (.int φ)) (hj : ∀ i, φ i → (j : Int) ≤ i) : TyE F H0 Γ (tSl (rSlA K) te tNoPart (tPart tb)) (.dt K (tyK lp (min j m) M n hg c k)) := ty_slice h to_none (to_some hi) fun d lo hi ⟨ds, e, ks, q, l, s⟩ e2 ⟨i, e1, pi⟩ => by
  have h1 := hj i pi
  obtain ⟨i, rfl⟩ := Int.eq_ofNat_of_zero_le (show 0 ≤ i by omega)
  subst e1
  subst e2
  subst q
  refine ⟨_, e, _, rfl, (ks.drop 0).take (min i ks.length - 0), ?_, ⟨?_, ?_⟩, fun b hb => s b (List.mem_of_mem_drop (List.mem_of_mem_take hb))⟩
  · rw [bbd_len, sIx_nat, show HT.sIx ks.length 0 none = 0 from rfl, bbd_drop, bbd_take]
  · rw [List.length_take, List.length_drop]; omega
  · rw [List.length_take, List.length_drop]; omega
/-! rows of a wait -/
theorem ty_row (hp : TyE F H0 Γ tp (.dt K (· = .str p))) (hn : NameOk p) (ha : TyE F H0 Γ ta (.dt K tyW)) (hb : TyE F H0 Γ tb (.dt K (tyB lp n hg c k th))) : TyE F H0 Γ (tTup (tCons tp (tCons ta (tCons tb tNil)))) (.dt K (tyRow lp p n hg c k)) := ty_tup (tl_cons hp (tl_cons ha (tl_cons hb tl_nil))) fun ds h => by
  match ds, h with
  | [_, _, _], ⟨rfl, ⟨x, rfl, hx⟩, ⟨b, rfl, hb⟩, _⟩ => exact ⟨by simp, x, b, rfl, hn, hx, hb.any⟩
theorem dr_nil : TyD F K H0 Γ tNil (lR lp [] 0 0 0 0) := td_nil ⟨[], [], rfl, rfl, rfl, (fun r hr => by cases hr), fun b hb => by cases hb⟩
theorem dr_cons (h : TyE F H0 Γ te (.dt K (tyRow lp p n hg c k))) (hr : TyD F K H0 Γ tr (lR lp ps n' hg' c' k')) : TyD F K H0 Γ (tCons te tr) (lR lp (p :: ps) (max n n') (max hg hg') (max c c') (max k k')) := td_cons h hr fun d ds ⟨x, b, e, hp, hx, s⟩ ⟨rs, ks, e2, hl, hps, hn, r⟩ => ⟨(p, x) :: rs, b :: ks, by rw [e, e2]; rfl, by simp [hl], by simp [hps], fun q hq => (List.mem_cons.mp hq).elim (fun z => z ▸ ⟨hp, hx⟩) (hn q), fun y hy => by
  rcases List.mem_cons.mp hy with rfl | hy
  · exact s.mono (Nat.le_max_left _ _) (Nat.le_max_left _ _) (Nat.le_max_left _ _) (Nat.le_max_left _ _)
  · exact (r y hy).mono (Nat.le_max_right _ _) (Nat.le_max_right _ _) (Nat.le_max_right _ _) (Nat.le_max_right _ _)⟩
theorem rowsB_len (rs : List (Str × Str)) (ks : List (List T)) (h : rs.length = ks.length) : (rowsD rs (bbd ks)).length = ks.length := by rw [rowsD_len rs (bbd ks) (by rw [bbd_len]; exact h)]; first | exact h | exact bbd_len ks
theorem ty_rows (h : TyD F K H0 Γ t (lR lp ps n hg c k)) (hn : ps.length ≤ 4 := by simp) : TyE F H0 Γ (tTup t) (.dt K (tyR lp ps n hg c k)) := ty_tup h fun ds ⟨rs, ks, e, hl, hps, s⟩ => by
  have hps' : rs.length = ps.length := by rw [← hps, List.length_map]
  exact ⟨by rw [e, rowsB_len _ _ hl]; omega, _, rfl, rs, ks, e, hl, hps, s⟩
theorem ty_wait (ha : TyE F H0 Γ ta (.dt K (tyR lp ps n hg c k))) (nd : ps.Nodup) (h1 : 1 ≤ ps.length := by simp) (hm : ps.length ≤ m := by simp) (h4 : m ≤ 4 := by decide) (hn : n ≤ 4 := by decide) : TyE F H0 Γ (tTup (tCons (tC (.str "wait")) (tCons ta tNil))) (.dt K (tyS lp (hg + 1) (m * c + 1) (kU k) true)) := ty_tup (tl_cons ty_str (tl_cons ha tl_nil)) fun ds h => by
  match ds, h with
  | [_, _], ⟨rfl, ⟨a, rfl, rs, ks, e, hl, hps, hnm, hk⟩, _⟩ =>
    have hps' : rs.length = ps.length := by rw [← hps, List.length_map]
    exact ⟨by simp, .mk (.wait rs) ks, by rw [e]; rfl, w_wait hl hk hn (by omega) (by omega) h4 hnm (by rw [hps]; exact nd)⟩
/-! lists that grow -/
theorem lb_app {ds : List PyData} {d : PyData} (h : lB lp n hg c k th ds) (s : tyS lp hg' c' k' th' d) : lB lp (n + 1) (max hg hg') (c + c') (max k k') (th || th') (ds ++ [d]) := by
  obtain ⟨b, rfl, hb⟩ := h
  obtain ⟨t, rfl, ht⟩ := s
  have := b_app hb (b_cons ht (b_nil (lp := lp)))
  exact ⟨b ++ [t], bd_app b [t], ⟨this.len, this.ok, by have := this.ht; simpa using this, by have := this.cnt; simpa using this, by have := this.op; simpa using this, by have := this.thr; simpa using this⟩⟩
theorem lk_app {ds : List PyData} {d : PyData} (h : lK lp m M n hg c k ds) (s : tyB lp n' hg' c' k' th d) : lK lp (m + 1) (M + 1) (max n n') (max hg hg') (max c c') (max k k') (ds ++ [d]) := by
  obtain ⟨ks, rfl, hl, hb⟩ := h
  obtain ⟨b, rfl, ht⟩ := s
  refine ⟨ks ++ [b], bbd_app ks [b], ⟨by simp; omega, by simp; omega⟩, fun x hx => ?_⟩
  rcases List.mem_append.mp hx with hx | hx
  · exact (hb x hx).mono (Nat.le_max_left _ _) (Nat.le_max_left _ _) (Nat.le_max_left _ _) (Nat.le_max_left _ _)
  · obtain rfl := List.mem_singleton.mp hx
    exact ht.any.mono (Nat.le_max_right _ _) (Nat.le_max_right _ _) (Nat.le_max_right _ _) (Nat.le_max_right _ _)
theorem ty_tupB (h : TyE F H0 Γ te (.ls K (lB lp n hg c k th))) : TyE F H0 Γ (tCB (rTupQ K) (tCons te tNil)) (.dt K (tyB lp n hg c k th)) := ty_tupL h fun ds ⟨b, e, s⟩ => ⟨b, by rw [e], s⟩
theorem ty_tupK (h : TyE F H0 Γ te (.ls K (lK lp m M n hg c k))) : TyE F H0 Γ (tCB (rTupQ K) (tCons te tNil)) (.dt K (tyK lp m M n hg c k)) := ty_tupL h fun ds hk => ⟨ds, rfl, hk⟩
/-- a list of expressions -/
def lE (n h : Nat) : List PyData → Prop := fun ds => ds.length = n ∧ ∀ d ∈ ds, tyE h d
theorem de_nil : TyD F K H0 Γ tNil (lE 0 0) := td_nil ⟨rfl, fun d hd => by cases hd⟩
theorem tyE_le {d : PyData} (h : tyE n d) (e : n ≤ m) : tyE m d := let ⟨x, a, b, c⟩ := h; ⟨x, a, b, Nat.le_trans c e⟩
theorem de_cons (h : TyE F H0 Γ te (.dt K (tyE hg))) (hr : TyD F K H0 Γ tr (lE n hg')) : TyD F K H0 Γ (tCons te tr) (lE (n + 1) (max hg hg')) := td_cons h hr fun d ds a ⟨b, c⟩ => ⟨by simp [b], fun x hx => by
  rcases List.mem_cons.mp hx with rfl | hx
  · exact tyE_le a (Nat.le_max_left _ _)
  · exact tyE_le (c x hx) (Nat.le_max_right _ _)⟩
theorem ty_eL {φ : Int → Prop} (h : TyD F K H0 Γ t (lE n hg)) (hi : TyE F H0 Γ tb (.int φ)) (hr : ∀ i, φ i → 0 ≤ i ∧ i < n) (hn : n ≤ 1000 := by decide) : TyE F H0 Γ (tOp (rIxL K) (tLst t) tb) (.dt K (tyE hg)) := ty_ixL (ls_nls (ty_lst h fun ds hd => by rw [hd.1]; exact hn) fun _ p => p) hi fun ds j hd hj => by
  have := hr j hj
  obtain ⟨x, h1, h2⟩ := atI_lt (xs := ds) (i := j) (by rw [hd.1]; exact this)
  exact ⟨x, h1, hd.2 x h2⟩
theorem ty_dL (h : TyD F K H0 Γ t (lE 2 1)) : TyE F H0 Γ (tLst t) (.ls K dL) := ls_nls (ty_lst h fun ds hd => by rw [hd.1]; decide) fun ds hd => ⟨by rw [hd.1]; decide, hd.2⟩
/-- data that are blocks, one by one -/
theorem all_bbd : ∀ es : List PyData, (∀ d ∈ es, tyB lp n hg c k th d) → ∃ ks, es = bbd ks ∧ ∀ b ∈ ks, BkOk lp n hg c k th b := fun es => by
  induction es with
  | nil => exact fun _ => ⟨[], rfl, fun b hb => by cases hb⟩
  | cons e es ih =>
    intro h
    obtain ⟨b, hb, s⟩ := h e (List.mem_cons_self ..)
    obtain ⟨ks, hk, r⟩ := ih fun d hd => h d (List.mem_cons_of_mem _ hd)
    exact ⟨b :: ks, by rw [hb, hk]; rfl, fun y hy => (List.mem_cons.mp hy).elim (fun z => z ▸ s) (r y)⟩
theorem tt_orL {φ : Bool → Prop} (h : TyT F H0 Γ tt φ) (h2 : TyT F H0 Γ tu fun _ => True) : TyT F H0 Γ (tOr tt tu) fun b => b = false → φ false := fun σ H e env H1 e1 Q q => h σ H e env H1 e1 _ fun b H2 e2 p => by
  split
  · exact q _ _ e2 fun z => by cases z
  · rename_i hb
    rw [Bool.not_eq_true] at hb
    exact h2 σ H e env H2 (e1.trans e2) _ fun c H3 e3 _ => q _ _ (e2.trans e3) fun _ => hb ▸ p
theorem tt_orR {φ : Bool → Prop} (h : TyT F H0 Γ tt fun _ => True) (h2 : TyT F H0 Γ tu φ) : TyT F H0 Γ (tOr tt tu) fun b => b = false → φ false := fun σ H e env H1 e1 Q q => h σ H e env H1 e1 _ fun b H2 e2 _ => by
  split
  · exact q _ _ e2 fun z => by cases z
  · exact h2 σ H e env H2 (e1.trans e2) _ fun c H3 e3 p => q _ _ (e2.trans e3) fun z => z ▸ p
end
end Oh
set_option maxHeartbeats 4000000
namespace Oh
open PySem PySem.Spec PyProof.Rows L2
open C8 (Cal Met Mak pe_c pe_mk pe_mt pe_mt0 pe_gc InsC call_isC tCut pss_cut fnBody fnArgs fnScope)
open LamX NdefX
structure Gx where
  A : Addr
  L : Addr
  ws : List Str
  ok : WOk ws
abbrev FG (Pt : Addr) (x : Gx) : Fm := Fp x.A x.L Pt
section
variable {P : Program} {w : World} {K : PySem.W.Frag} {mg : Str → Option Value} {base : Heap} {A L Pt : Addr} {E : XK} {te ta tb : TE} {H0 : Hp}
theorem ty_drawL {Γ : Gam (Fp A L Pt)} (n : Nat) (h : Γ[0]? = some (some (.eq (.ref A)))) (hn : 1 ≤ n ∧ n ≤ 1000 := by decide) : TyE (Fp A L Pt) H0 Γ (tCall (spDraw Pt) [] E (tCons (tVar 0) (tCons (tC (.int (n : Nat))) tNil))) (.int (rg 0 n)) := ty_draw (ty_var h) ty_int fun k hk => by
  subst hk
  exact ⟨by omega, fun r hr => hr⟩
theorem rg_add {a b c d : Int} {i j : Int} (h : rg a b i) (k : rg c d j) : rg (a + c) (b + d - 1) (i + j) := by unfold rg at *; omega
theorem ty_addR {F : Fm} {Γ : Gam F} {n : Int} {a b : Int} (m k : Int) (hb : TyE F H0 Γ tb (.int (rg a b))) (e1 : n + a = m := by decide) (e2 : n + b = k := by decide) : TyE F H0 Γ (tOp (rI0 fun i j => .int (i + j)) (tC (.int n)) tb) (.int (rg m k)) := ty_op0 ty_int hb fun i j h1 h2 => by
  subst h1
  unfold rg at *
  omega
abbrev TsDg (Pt : Addr) (x : Gx) : List (VP (FG Pt x)) := [.eq (.ref x.A), .int (rg 2 4)]
def spDigits (K : PySem.W.Frag) (Pt : Addr) : Sp := spG (FG Pt) (TsDg Pt) (fun _ H => .nls K H dL)
theorem sc_law_digits : FnScope ["_law_pot_here", "_law_many", "_law_start", "_law_step", "_law_k"] ["_law_pot_here", "_law_many"] (fnScope s_law_digits) := ⟨rfl, rfl, rfl, by decide +kernel, rfl, by decide +kernel, by decide +kernel⟩
theorem c_law_digits (T : Tx w K mg) : Cal P w K mg base 4 "_law_digits" (spDigits K Pt) [] := by
  have c_law_draw := c_law_draw (P := P) (base := base) (Pt := Pt) T
  refine T.d_law_digits.cal sc_law_digits (fun F => ⟨[], .nil, F.bindsN fun _ _ _ _ _ _ us hl => match us, hl with | [_, _], _ => rfl⟩) (by rintro vs H Q E ⟨x, _, a2, _⟩; exact all2_len a2) fun f cdv Ar outer s H vs Q E hr h => ?_
  obtain ⟨x, g, a2, hQ⟩ := h
  refine ⟨_, (pss_cons (ps_set (i := 2) sc_law_digits.nd rfl (by first | exact Or.inl rfl | exact Or.inr rfl) (pe_c c_law_draw hr (by omega) rfl (pa_cons (pv 0) (pa_cons pe_int pa_nil))))
    (pss_cons (ps_if (pt_cmpR op_eq (pe_c c_law_draw hr (by omega) rfl (pa_cons (pv 0) (pa_cons pe_int pa_nil))) pe_int (nomark _))
      (pss_one (ps_set (i := 2) sc_law_digits.nd rfl (by first | exact Or.inl rfl | exact Or.inr rfl) (pe_c c_law_draw hr (by omega) rfl (pa_cons (pv 0) (pa_cons pe_int pa_nil)))))
      pss_nil)
    (pss_cons (ps_set (i := 3) sc_law_digits.nd rfl (by first | exact Or.inl rfl | exact Or.inr rfl) (pe_op op_add pe_int (pe_op op_mod (pe_c c_law_draw hr (by omega) rfl (pa_cons (pv 0) (pa_cons pe_int pa_nil))) pe_int)))
    (pss_one (ps_ret (pe_lc (own := [("_law_k", 4)]) (g := (gName 4)) (tt := tYes) rfl sc_law_digits.nd (pi_range1 rfl T.z_range (pa_cons (pv 1) pa_nil)) (blkOk_by (own := [("_law_k", 4)]) (N := ["_law_pot_here", "_law_many", "_law_start", "_law_step", "_law_k"]) (sc := fnScope s_law_digits) (by decide +kernel)) (fun _ _ _ _ _ => (pg_name (i := 4) sc_law_digits.nd rfl (Or.inl rfl))) (fun _ _ _ _ _ => pts_nil) (fun _ _ _ _ _ => (pe_op op_mod (pe_op op_add (pv 2) (pe_op op_mul (pv 4) (pv 3))) pe_int)))))))), ?_⟩
  match vs, a2 with
  | [v0, v1], ⟨p0, p1, _⟩ =>
  refine ty_go (Γ := [some (.eq (.ref x.A)), some (.int (rg 2 4)), none, none, none]) g ⟨⟨_, rfl, p0⟩, ⟨_, rfl, p1⟩, trivial⟩ ?_ hQ
  refine tr_seq (tn_set (ty_drawL 3 rfl)) ?_
  refine tr_seq (tn_if (Γ' := [some (.eq (.ref x.A)), some (.int (rg 2 4)), some (.int (rg 0 10)), none, none]) (tt_any (tt_eq (ty_drawL 4 rfl) ty_int)) (fun _ => tn_set (ty_drawL 10 rfl)) fun _ => tn_next (.so (fun _ _ h => h) (.so (fun _ _ h => h) (.so (fun v H ⟨i, e, p⟩ => ⟨i, e, by unfold rg at *; omega⟩) (.refl _))))) ?_
  refine tr_seq (tn_set (T := .int (rg 1 3)) (ty_op0 (χ := rg 1 3) ty_int (ty_opC (χ := rg 0 2) (ty_drawL 3 rfl) ty_int fun i j h1 h2 => by subst h2; unfold rg at *; omega) fun i j h1 h2 => by subst h1; unfold rg at *; omega)) ?_
  refine tr_ret (nls_sub (ty_lcR (m := 3) rfl (ty_var (T := .int (rg 2 4)) rfl) (fun n hn => by unfold rg at hn; omega) (by decide) (fun _ => tyE 1) fun i hi => ty_iE (φ := rg 0 10) (ty_opC (ty_op0 (χ := fun _ => True) (ty_var (T := .int (rg 0 10)) rfl) (ty_opC (χ := fun _ => True) (ty_var (T := .int (· = (i : Nat))) rfl) (ty_var (T := .int (rg 1 3)) rfl) fun a b h1 h2 => ⟨by subst h1; left; omega, trivial⟩) fun _ _ _ _ => trivial) ty_int fun a b _ h2 => by subst h2; unfold rg; omega) fun i hi => by unfold rg at hi; omega) fun ds ⟨n, hn, hl, hp⟩ => ⟨by unfold rg at hn; omega, fun d hd => ?_⟩)
  obtain ⟨i, hi⟩ := List.getElem?_of_mem hd
  exact hp i d hi
abbrev TsPk (K : PySem.W.Frag) (Pt : Addr) (x : Gx) : List (VP (FG Pt x)) := [.dt K tyW, .ls K dL]
def spPicked (K : PySem.W.Frag) (Pt : Addr) : Sp := spG (FG Pt) (TsPk K Pt) (fun _ _ => .dt K (tyS false 1 4 1 false))
theorem sc_law_picked : FnScope ["_law_name", "_law_digits_here", "_law_digit_here"] ["_law_name", "_law_digits_here"] (fnScope s_law_picked) := ⟨rfl, rfl, rfl, by decide +kernel, rfl, by decide +kernel, by decide +kernel⟩
theorem c_law_picked (T : Tx w K mg) : Cal P w K mg base 1 "_law_picked" (spPicked K Pt) [] := by
  refine T.d_law_picked.cal sc_law_picked (fun F => ⟨[], .nil, F.bindsN fun _ _ _ _ _ _ us hl => match us, hl with | [_, _], _ => rfl⟩) (by rintro vs H Q E ⟨x, _, a2, _⟩; exact all2_len a2) fun f cdv Ar outer s H vs Q E hr h => ?_
  obtain ⟨x, g, a2, hQ⟩ := h
  refine ⟨_, (pss_one (ps_ret (pe_tup (pa_cons pe_str (pa_cons (pe_callTy call_tuple_of rfl T.z_tuple (by decide +kernel) (pa_cons (pe_lc (own := [("_law_digit_here", 2)]) (g := (gName 2)) (tt := tYes) rfl sc_law_picked.nd (pi_list (pv 1)) (blkOk_by (own := [("_law_digit_here", 2)]) (N := ["_law_name", "_law_digits_here", "_law_digit_here"]) (sc := fnScope s_law_picked) (by decide +kernel)) (fun _ _ _ _ _ => (pg_name (i := 2) sc_law_picked.nd rfl (Or.inl rfl))) (fun _ _ _ _ _ => pts_nil) (fun _ _ _ _ _ => (pe_tup (pa_cons (pe_tup (pa_cons pe_str (pa_cons (pv 0) (pa_cons (pv 2) pa_nil)))) pa_nil)))) pa_nil)) pa_nil))))), ?_⟩
  match vs, a2 with
  | [v0, v1], ⟨p0, p1, _⟩ =>
  refine ty_go (Γ := [some (.dt K tyW), some (.ls K dL), none]) g ⟨⟨_, rfl, p0⟩, ⟨_, rfl, p1⟩, trivial⟩ ?_ hQ
  refine tr_ret (ty_oS (m := 2) (M := 3) (n := 1) (hg := 0) (c := 1) (k := 0) (ty_opn (ty_tupK (ls_nls (ty_lcLs (ρ := tyE 1) (π := tyB false 1 0 1 0 false) rfl (ty_var rfl) (fun ds h => ⟨by have := h.1.2; omega, h.2⟩) (ty_subB (ty_blk (db_cons (lp := false) (ty_set (ty_var rfl) (ty_var rfl)) db_nil)))) fun es ⟨ds, hd, hl, he⟩ => ?_))))
  have hks : ∀ es : List PyData, (∀ d ∈ es, tyB false 1 0 1 0 false d) → ∃ ks, es = bbd ks ∧ ∀ b ∈ ks, BkOk false 1 0 1 0 false b := fun es => by
    induction es with
    | nil => exact fun _ => ⟨[], rfl, fun b hb => by cases hb⟩
    | cons e es ih =>
      intro h
      obtain ⟨b, hb, s⟩ := h e (List.mem_cons_self ..)
      obtain ⟨ks, hk, r⟩ := ih fun d hd => h d (List.mem_cons_of_mem _ hd)
      exact ⟨b :: ks, by rw [hb, hk]; rfl, fun y hy => (List.mem_cons.mp hy).elim (fun z => z ▸ s) (r y)⟩
  obtain ⟨ks, hk, r⟩ := hks es he
  have hd1 := hd.1
  exact ⟨ks, hk, by rw [← bbd_len ks, ← hk, hl]; exact hd1, r⟩
abbrev TsTs (K : PySem.W.Frag) (Pt : Addr) (x : Gx) : List (VP (FG Pt x)) := [.eq (.ref x.A), .dt K (tyE 1), .dt K (tyE 1), .dt K (tyE 1)]
def spTest (K : PySem.W.Frag) (Pt : Addr) : Sp := spG (FG Pt) (TsTs K Pt) (fun _ _ => .dt K (tyS false 1 3 1 false))
theorem sc_law_test : FnScope ["_law_pot_here", "_law_one", "_law_two", "_law_digit_here", "_law_kind", "_law_asked"] ["_law_pot_here", "_law_one", "_law_two", "_law_digit_here"] (fnScope s_law_test) := ⟨rfl, rfl, rfl, by decide +kernel, rfl, by decide +kernel, by decide +kernel⟩
theorem c_law_test (T : Tx w K mg) : Cal P w K mg base 4 "_law_test" (spTest K Pt) [] := by
  have c_law_draw := c_law_draw (P := P) (base := base) (Pt := Pt) T
  refine T.d_law_test.cal sc_law_test (fun F => ⟨[], .nil, F.bindsN fun _ _ _ _ _ _ us hl => match us, hl with | [_, _, _, _], _ => rfl⟩) (by rintro vs H Q E ⟨x, _, a2, _⟩; exact all2_len a2) fun f cdv Ar outer s H vs Q E hr h => ?_
  obtain ⟨x, g, a2, hQ⟩ := h
  refine ⟨_, (pss_cons (ps_set (i := 4) sc_law_test.nd rfl (by first | exact Or.inl rfl | exact Or.inr rfl) (pe_c c_law_draw hr (by omega) rfl (pa_cons (pv 0) (pa_cons pe_int pa_nil))))
    (pss_cons (ps_set (i := 5) sc_law_test.nd rfl (by first | exact Or.inl rfl | exact Or.inr rfl) (pe_tup (pa_cons pe_str (pa_cons (pv 1) (pa_cons (pv 2) pa_nil)))))
    (pss_cons (ps_if (pt_cmpR op_eq (pv 4) pe_int (nomark _))
      (pss_one (ps_set (i := 5) sc_law_test.nd rfl (by first | exact Or.inl rfl | exact Or.inr rfl) (pe_tup (pa_cons pe_str (pa_cons (pv 5) pa_nil)))))
      pss_nil)
    (pss_cons (ps_if (pt_cmpR op_eq (pv 4) pe_int (nomark _))
      (pss_one (ps_set (i := 5) sc_law_test.nd rfl (by first | exact Or.inl rfl | exact Or.inr rfl) (pe_tup (pa_cons pe_str (pa_cons (pv 1) (pa_cons (pv 2) pa_nil))))))
      pss_nil)
    (pss_cons (ps_if (pt_cmpR op_eq (pv 4) pe_int (nomark _))
      (pss_one (ps_set (i := 5) sc_law_test.nd rfl (by first | exact Or.inl rfl | exact Or.inr rfl) (pe_tup (pa_cons pe_str (pa_cons (pv 2) (pa_cons (pv 3) pa_nil))))))
      pss_nil)
    (pss_one (ps_ret (pe_tup (pa_cons pe_str (pa_cons (pv 5) (pa_cons (pe_tup pa_nil) (pa_cons (pe_tup (pa_cons (pe_tup (pa_cons pe_str pa_nil)) pa_nil)) pa_nil)))))))))))), ?_⟩
  match vs, a2 with
  | [v0, v1, v2, v3], ⟨p0, p1, p2, p3, _⟩ =>
  let Γ0 : Gam (FG Pt x) := [some (.eq (.ref x.A)), some (.dt K (tyE 1)), some (.dt K (tyE 1)), some (.dt K (tyE 1)), none, none]
  let Γ1 : Gam (FG Pt x) := [some (.eq (.ref x.A)), some (.dt K (tyE 1)), some (.dt K (tyE 1)), some (.dt K (tyE 1)), some (.int (rg 0 7)), some (.dt K (tyE 3))]
  refine ty_go (Γ := Γ0) g ⟨⟨_, rfl, p0⟩, ⟨_, rfl, p1⟩, ⟨_, rfl, p2⟩, ⟨_, rfl, p3⟩, trivial⟩ ?_ hQ
  refine tr_seq (tn_set (ty_drawL 7 rfl)) ?_
  refine tr_seq (tn_set (ty_bin .same (ty_var (T := .dt K (tyE 1)) rfl) (ty_var (T := .dt K (tyE 1)) rfl))) ?_
  refine tr_seq (Γ' := Γ1) (tn_if (tt_any (tt_eq (ty_var rfl) ty_int)) (fun _ => tn_set (ty_not (ty_var (T := .dt K (tyE (max 1 1 + 1))) rfl))) fun _ => tn_next (.so (fun _ _ h => h) (.so (fun _ _ h => h) (.so (fun _ _ h => h) (.so (fun _ _ h => h) (.so (fun _ _ h => h) (.so (fun v H ⟨d, a, b⟩ => ⟨d, tyE_le a (by decide), b⟩) .nil))))))) ?_
  refine tr_seq (Γ' := Γ1) (tn_if (tt_any (tt_eq (ty_var rfl) ty_int)) (fun _ => tn_set (T := .dt K (tyE 3)) (ty_eh (ty_bin .less (ty_var (T := .dt K (tyE 1)) rfl) (ty_var (T := .dt K (tyE 1)) rfl)))) fun _ => tn_next (.refl _)) ?_
  refine tr_seq (Γ' := Γ1) (tn_if (tt_any (tt_eq (ty_var rfl) ty_int)) (fun _ => tn_set (T := .dt K (tyE 3)) (ty_eh (ty_bin .same (ty_var (T := .dt K (tyE 1)) rfl) (ty_var (T := .dt K (tyE 1)) rfl)))) fun _ => tn_next (.refl _)) ?_
  exact tr_ret (ty_subS (ty_iff (ty_var (T := .dt K (tyE 3)) rfl) (ty_blk db_nil) (ty_blk (db_cons ty_fail db_nil))))
end
end Oh
set_option maxHeartbeats 4000000
namespace Oh
open PySem PySem.Spec PyProof.Rows L2
open C8 (Cal Met Mak pe_c pe_mk pe_mt pe_mt0 pe_gc InsC call_isC tCut pss_cut fnBody fnArgs fnScope)
open LamX NdefX
section
variable {P : Program} {w : World} {K : PySem.W.Frag} {mg : Str → Option Value} {base : Heap} {A L Pt : Addr} {E : XK} {te ta tb : TE} {H0 : Hp}
theorem ty_ixDraw {Γ : Gam (Fp A L Pt)} {j : Nat} (h0 : Γ[0]? = some (some (.eq (.ref A)))) (hj : Γ[j]? = some (some (.ol K H0 dL))) : TyE (Fp A L Pt) H0 Γ (tOp (rIxL K) (tVar j) (tCall (spDraw Pt) [] E (tCons (tVar 0) (tCons (tCB (rLenQ K) (tCons (tVar j) tNil)) tNil)))) (.dt K (tyE 1)) := fun σ H e env H1 e1 Q q => by
  obtain ⟨v0, hv0, p0⟩ := env.get h0
  obtain rfl : v0 = V.ref A := p0
  obtain ⟨v, hv, a, xs, ds, rfl, hn, hsp, ha, td, hd⟩ := env.get hj
  have ha1 := e1.1 _ _ ha hsp
  refine ⟨.ref a, hv, .ref A, hv0, .ref a, hv, a, xs, rfl, .inl (.of ha1), A, L, (xs.length : Nat), rfl, e1.good, ?_, fun r H' e2 hr => ?_⟩
  · have := td.len
    have := hd.1
    omega
  · have ha2 := e2.1 _ _ ha1 hsp
    obtain ⟨z, hz, hm⟩ := atI_lt (xs := ds) (i := r) (by have := td.len; omega)
    obtain ⟨y, hy, ty⟩ := tda_atI (td.tl ((e1.trans e2).tl e.good)) hz
    exact ⟨a, xs, r, y, rfl, rfl, .of ha2, hy, q _ _ e2 ⟨z, hd.2 z hm, ty⟩⟩
abbrev TsAn (K : PySem.W.Frag) (Pt : Addr) (x : Gx) : List (VP (FG Pt x)) := [.eq (.ref x.A), .dt K tyW, .int (rg 2 4), .dt K tyW, .ls K dL]
def spAnswers (K : PySem.W.Frag) (Pt : Addr) : Sp := spG (FG Pt) (TsAn K Pt) (fun _ _ => .dt K (tyO false 2 3 1 0 1 0))
theorem sc_law_answers : FnScope ["_law_pot_here", "_law_port", "_law_many", "_law_name", "_law_digits_here", "_law_blocks_here", "_law_k", "_law_kind"] ["_law_pot_here", "_law_port", "_law_many", "_law_name", "_law_digits_here"] (fnScope s_law_answers) := ⟨rfl, rfl, rfl, by decide +kernel, rfl, by decide +kernel, by decide +kernel⟩
theorem c_law_answers (T : Tx w K mg) : Cal P w K mg base 4 "_law_answers" (spAnswers K Pt) [] := by
  have c_law_draw := c_law_draw (P := P) (base := base) (Pt := Pt) T
  refine T.d_law_answers.cal sc_law_answers (fun F => ⟨[], .nil, F.bindsN fun _ _ _ _ _ _ us hl => match us, hl with | [_, _, _, _, _], _ => rfl⟩) (by rintro vs H Q E ⟨x, _, a2, _⟩; exact all2_len a2) fun f cdv Ar outer s H vs Q E hr h => ?_
  obtain ⟨x, g, a2, hQ⟩ := h
  refine ⟨_, (pss_cons (ps_set (i := 5) sc_law_answers.nd rfl (by first | exact Or.inl rfl | exact Or.inr rfl) (pe_lst pa_nil))
    (pss_cons (ps_for PassesOwn.never rfl (pi_range1 rfl T.z_range (pa_cons (pv 2) pa_nil)) (pg_name (i := 6) sc_law_answers.nd rfl (Or.inl rfl))
      (pss_cons (ps_set (i := 7) sc_law_answers.nd rfl (by first | exact Or.inl rfl | exact Or.inr rfl) (pe_c c_law_draw hr (by omega) rfl (pa_cons (pv 0) (pa_cons pe_int pa_nil))))
      (pss_one (ps_if (pt_cmpR op_lt (pv 7) pe_int (nomark _))
        (pss_one (ps_expr (pe_bm PySem.F.plainAttrs_list PySem.F.slot_list_append PySem.F.type_list_append mt_append (pv 5) (pa_cons (pe_tup (pa_cons (pe_tup (pa_cons pe_str (pa_cons (pv 1) (pa_cons (pe_ix (r := rIxL K) ix_list (pv 4) (pe_c c_law_draw hr (by omega) rfl (pa_cons (pv 0) (pa_cons (pe_callB (r := rLenQ K) call_len_seq rfl T.z_len PySem.boot_len (pa_cons (pv 4) pa_nil)) pa_nil))) (fun _ _ => rfl)) pa_nil)))) pa_nil)) pa_nil))))
        (pss_one (ps_if (pt_cmpR op_lt (pv 7) pe_int (nomark _))
          (pss_one (ps_expr (pe_bm PySem.F.plainAttrs_list PySem.F.slot_list_append PySem.F.type_list_append mt_append (pv 5) (pa_cons (pe_tup (pa_cons (pe_tup (pa_cons pe_str (pa_cons (pv 1) (pa_cons (pe_tup (pa_cons pe_str (pa_cons (pv 3) pa_nil))) pa_nil)))) pa_nil)) pa_nil))))
          (pss_one (ps_if (pt_cmpR op_eq (pv 7) pe_int (nomark _))
            (pss_one (ps_expr (pe_bm PySem.F.plainAttrs_list PySem.F.slot_list_append PySem.F.type_list_append mt_append (pv 5) (pa_cons (pe_tup (pa_cons (pe_tup (pa_cons pe_str (pa_cons (pv 1) (pa_cons (pe_tup (pa_cons pe_str (pa_cons (pe_tup (pa_cons pe_str (pa_cons (pv 3) pa_nil))) (pa_cons pe_int pa_nil)))) pa_nil)))) pa_nil)) pa_nil))))
            (pss_one (ps_expr (pe_bm PySem.F.plainAttrs_list PySem.F.slot_list_append PySem.F.type_list_append mt_append (pv 5) (pa_cons (pe_tup pa_nil) pa_nil))))))))))))
    (pss_one (ps_ret (pe_tup (pa_cons pe_str (pa_cons (pe_callTy call_tuple_of rfl T.z_tuple (by decide +kernel) (pa_cons (pv 5) pa_nil)) pa_nil))))))), ?_⟩
  match vs, a2 with
  | [v0, v1, v2, v3, v4], ⟨p0, p1, p2, p3, p4, _⟩ =>
  refine ty_go (Γ := [some (.eq (.ref x.A)), some (.dt K tyW), some (.int (rg 2 4)), some (.dt K tyW), some (.ol K H dL), none, none, none]) g ⟨⟨_, rfl, p0⟩, ⟨_, rfl, p1⟩, ⟨_, rfl, p2⟩, ⟨_, rfl, p3⟩, ⟨_, rfl, ol_of p4⟩, trivial⟩ ?_ hQ
  refine tr_lst (K := K) (dk_nil (lp := false)) (fun ds ⟨ks, e, hl, _⟩ => by rw [e, bbd_len]; omega) fun a ha _ => ?_
  let Γi : Nat → Gam (FG Pt x) := fun i => [some (.eq (.ref x.A)), some (.dt K tyW), some (.int (rg 2 4)), some (.dt K tyW), some (.ol K H dL), some (.at K a (lK false i i 1 0 1 0)), none, none]
  have id' : ∀ {T : VP (FG Pt x)}, ∀ v H, T.p v H → T.p v H := fun _ _ h => h
  have lkm : ∀ {i : Nat} {ds : List PyData}, lK false i i 0 0 0 0 ds → lK false i i 1 0 1 0 ds := fun ⟨ks, e, hl, h⟩ => ⟨ks, e, hl, fun b hb => (h b hb).mono (by decide) (by decide) (by decide) (by decide)⟩
  refine tr_seq (Γ' := [some (.eq (.ref x.A)), some (.dt K tyW), some (.int (rg 2 4)), some (.dt K tyW), some (.ol K H dL), some (.at K a (lK false 2 3 1 0 1 0)), none, none]) (tn_forR (m := 3) (ty_var (T := .int (rg 2 4)) rfl) (fun n hn => by unfold rg at hn; omega) (by decide) Γi
    (.so id' (.so id' (.so id' (.so id' (.so id' (.so (fun v H ⟨xs, ds, h1, h3, h4, h5, h6⟩ => ⟨xs, ds, h1, h3, h4, h5, lkm h6⟩) (.no (.no .nil)))))))) (fun i hi => ?_) fun n hn => ?_) ?_
  · have len : ∀ {ds : List PyData}, lK false i i 1 0 1 0 ds → ds.length ≤ 1000 := fun ⟨ks, e, hl, _⟩ => by rw [e, bbd_len]; omega
    have go : ∀ {ts : TS} {n c : Nat} {th : Bool} {te : TE} {o : Option (VP (FG Pt x))}, n ≤ 1 → c ≤ 1 → TyE (FG Pt x) H [some (.eq (.ref x.A)), some (.dt K tyW), some (.int (rg 2 4)), some (.dt K tyW), some (.ol K H dL), some (.at K a (lK false i i 1 0 1 0)), some (.int (· = (i : Nat))), some (.int (rg 0 8))] te (.dt K (tyB false n 0 c 0 th)) → TyN (FG Pt x) H [some (.eq (.ref x.A)), some (.dt K tyW), some (.int (rg 2 4)), some (.dt K tyW), some (.ol K H dL), some (.at K a (lK false i i 1 0 1 0)), some (.int (· = (i : Nat))), some (.int (rg 0 8))] (tDrop (tBM K "list" rAppend (tVar 5) (tCons te tNil))) (Γi (i + 1)) := fun hn hc h =>
      tn_sub (tn_app (τ' := lK false (i + 1) (i + 1) 1 0 1 0) ha rfl (by simp) h ⟨stb_eq, stb_dt, stb_int, stb_dt, stb_ol ha, stb_int, stb_int, trivial⟩ fun ds d h1 h2 => ⟨len h1, let ⟨ks, e, hl, hb⟩ := lk_app h1 h2; ⟨ks, e, hl, fun b hb' => (hb b hb').mono (by omega) (by omega) (by omega) (by omega)⟩⟩) (.so id' (.so id' (.so id' (.so id' (.so id' (.so id' (.no (.no .nil))))))))
    have W1 : ∀ {Γ : Gam (FG Pt x)}, Γ[1]? = some (some (.dt K tyW)) → TyE (FG Pt x) H Γ (tVar 1) (.dt K tyW) := fun h => ty_var h
    have dg : ∀ {Γ : Gam (FG Pt x)}, Γ[4]? = some (some (.ol K H dL)) → TyE (FG Pt x) H Γ (tVar 4) (.ls K dL) := fun h => ls_ol (ty_var h) fun _ p => p
    refine tn_seq (tn_set (ty_drawL 8 rfl)) (tn_if (tt_any (tt_cmp (ty_var rfl) ty_int)) (fun _ => ?_) fun _ => tn_if (tt_any (tt_cmp (ty_var rfl) ty_int)) (fun _ => ?_) fun _ => tn_if (tt_any (tt_eq (ty_var rfl) ty_int)) (fun _ => ?_) fun _ => ?_)
    · refine go (o := none) (ts := tNext) (by decide) (by decide) (ty_blk (db_cons (ty_tell (n := 1) (W1 rfl) (ty_ixDraw rfl rfl)) db_nil))
    · exact go (o := none) (ts := tNext) (by decide) (by decide) (ty_blk (db_cons (ty_tell (W1 rfl) (ty_name (ty_var rfl))) db_nil))
    · exact go (o := none) (ts := tNext) (by decide) (by decide) (ty_blk (db_cons (ty_tell (W1 rfl) (ty_bin .plus (ty_name (ty_var rfl)) ty_lit)) db_nil))
    · exact go (o := none) (ts := tNext) (by decide) (by decide) (ty_blk db_nil)
  · refine .so id' (.so id' (.so id' (.so id' (.so id' (.so (fun v H ⟨xs, ds, h1, h3, h4, h5, ks, e, hl, hb⟩ => ⟨xs, ds, h1, h3, h4, h5, ks, e, ?_, hb⟩) (.no (.no .nil)))))))
    unfold rg at hn
    omega
  · exact tr_ret (ty_opn (ty_tupK (ls_at (ty_var rfl) fun _ p => p)))
end
end Oh
set_option maxHeartbeats 4000000
namespace Oh
open PySem PySem.Spec PyProof.Rows L2
open C8 (Cal Met Mak pe_c pe_mk pe_mt pe_mt0 pe_gc InsC call_isC tCut pss_cut fnBody fnArgs fnScope)
open LamX NdefX
/-- the blocks of a game: the own one first -/
def gL : List PyData → Prop := fun ds => ∃ (b : List T) (bs : List (List T)), ds = blkD b :: bs.map blkD ∧ (1 ≤ bs.length ∧ bs.length ≤ 2) ∧ BkOk false 7 9 1500 3 false b ∧ ∀ c ∈ bs, BkOk false 12 9 1500 50 false c
section
variable {P : Program} {w : World} {K : PySem.W.Frag} {mg : Str → Option Value} {base : Heap} {A L Pt : Addr} {E : XK} {te ta tb tc td : TE} {H0 : Hp}
section
variable {x : Gx} {Γ : Gam (FG Pt x)}
theorem g_digits (h0 : Γ[0]? = some (some (.eq (.ref x.A)))) (hm : TyE (FG Pt x) H0 Γ te (.int (rg 2 4))) : TyE (FG Pt x) H0 Γ (tCall (spDigits K Pt) [] E (tCons (tVar 0) (tCons te tNil))) (.nls K H0 dL) :=
  ty_call (Ts := TsDg Pt) x (ta_cons (ty_var h0) (ta_cons hm ta_nil)) fun v H H' e p => nls_back e p
theorem g_picked (h1 : TyE (FG Pt x) H0 Γ ta (.dt K tyW)) (h2 : TyE (FG Pt x) H0 Γ tb (.ls K dL)) : TyE (FG Pt x) H0 Γ (tCall (spPicked K Pt) [] E (tCons ta (tCons tb tNil))) (.dt K (tyS false 1 4 1 false)) :=
  ty_call (Ts := TsPk K Pt) x (ta_cons h1 (ta_cons h2 ta_nil)) fun v H H' e p => p
theorem g_test (h0 : Γ[0]? = some (some (.eq (.ref x.A)))) (h1 : TyE (FG Pt x) H0 Γ ta (.dt K (tyE 1))) (h2 : TyE (FG Pt x) H0 Γ tb (.dt K (tyE 1))) (h3 : TyE (FG Pt x) H0 Γ tc (.dt K (tyE 1))) : TyE (FG Pt x) H0 Γ (tCall (spTest K Pt) [] E (tCons (tVar 0) (tCons ta (tCons tb (tCons tc tNil))))) (.dt K (tyS false 1 3 1 false)) :=
  ty_call (Ts := TsTs K Pt) x (ta_cons (ty_var h0) (ta_cons h1 (ta_cons h2 (ta_cons h3 ta_nil)))) fun v H H' e p => p
theorem g_answers (h0 : Γ[0]? = some (some (.eq (.ref x.A)))) (h1 : TyE (FG Pt x) H0 Γ ta (.dt K tyW)) (h2 : TyE (FG Pt x) H0 Γ tb (.int (rg 2 4))) (h3 : TyE (FG Pt x) H0 Γ tc (.dt K tyW)) (h4 : TyE (FG Pt x) H0 Γ td (.ls K dL)) : TyE (FG Pt x) H0 Γ (tCall (spAnswers K Pt) [] E (tCons (tVar 0) (tCons ta (tCons tb (tCons tc (tCons td tNil)))))) (.dt K (tyO false 2 3 1 0 1 0)) :=
  ty_call (Ts := TsAn K Pt) x (ta_cons (ty_var h0) (ta_cons h1 (ta_cons h2 (ta_cons h3 (ta_cons h4 ta_nil))))) fun v H H' e p => p
end
section
variable {F : Fm} {Γ Γ' Γ1 : Gam F} {R : VP F} {tt : TT} {ts tw tu : TS} {ws : List Str} {n hg c k n' hg' c' k' n'' hg'' c'' k'' : Nat} {th th' th'' : Bool}
theorem ty_r24 : TyE F H0 Γ (tC (.int 2)) (.int (rg 2 4)) := ty_i ty_int fun i h => by subst h; unfold rg; omega
theorem i_c {n : Nat} {j : Int} (h : 0 ≤ j ∧ j < n) : ∀ i : Int, i = j → 0 ≤ i ∧ i < n := fun i e => e ▸ h
theorem tr_fork {φ : Bool → Prop} (h : TyT F H0 Γ tt φ) (h1 : TyN F H0 Γ tu Γ1) (k1 : TyR F H0 Γ1 tw R) (k2 : TyR F H0 Γ tw R) : TyR F H0 Γ (tSeq (tIfS tt tu tNext) tw) R := fun σ H e env D q => h σ H e env H (.refl e.good) _ fun b H1 e1 p => by
  split
  · exact h1 σ H1 (e.trans e1) (env.st e.good e1) { D with nx := tw D } fun σ' H' e' env' => k1 σ' H' e' env' D q
  · exact k2 σ H1 (e.trans e1) (env.st e.good e1) D q
theorem nd2 {a b : Str} (h : a ≠ b) : [a, b].Nodup := by simp [h]
theorem gl_two {d e : PyData} (h1 : tyB false n hg c k th d) (h2 : tyB false n' hg' c' k' th' e) (a1 : n ≤ 7) (a2 : hg ≤ 9) (a3 : c ≤ 1500) (a4 : k ≤ 3) (b1 : n' ≤ 12) (b2 : hg' ≤ 9) (b3 : c' ≤ 1500) (b4 : k' ≤ 50) : gL [d, e] := by
  obtain ⟨x, rfl, sx⟩ := h1
  obtain ⟨y, rfl, sy⟩ := h2
  exact ⟨x, [y], rfl, by simp, sx.any.mono a1 a2 a3 a4, fun z hz => by obtain rfl := List.mem_singleton.mp hz; exact sy.any.mono b1 b2 b3 b4⟩
theorem gl_three {d e f : PyData} (h1 : tyB false n hg c k th d) (h2 : tyB false n' hg' c' k' th' e) (h3 : tyB false n'' hg'' c'' k'' th'' f) (a1 : n ≤ 7) (a2 : hg ≤ 9) (a3 : c ≤ 1500) (a4 : k ≤ 3) (b1 : n' ≤ 12) (b2 : hg' ≤ 9) (b3 : c' ≤ 1500) (b4 : k' ≤ 50) (c1 : n'' ≤ 12) (c2 : hg'' ≤ 9) (c3 : c'' ≤ 1500) (c4 : k'' ≤ 50) : gL [d, e, f] := by
  obtain ⟨x, rfl, sx⟩ := h1
  obtain ⟨y, rfl, sy⟩ := h2
  obtain ⟨z, rfl, sz⟩ := h3
  refine ⟨x, [y, z], rfl, by simp, sx.any.mono a1 a2 a3 a4, fun u hu => ?_⟩
  rcases List.mem_cons.mp hu with rfl | hu
  · exact sy.any.mono b1 b2 b3 b4
  · obtain rfl := List.mem_singleton.mp hu
    exact sz.any.mono c1 c2 c3 c4
theorem tr_ret2 (h1 : TyE F H0 Γ ta (.dt K (tyB false n hg c k th))) (h2 : TyE F H0 Γ tb (.dt K (tyB false n' hg' c' k' th'))) (a1 : n ≤ 7 := by decide) (a2 : hg ≤ 9 := by decide) (a3 : c ≤ 1500 := by decide) (a4 : k ≤ 3 := by decide) (b1 : n' ≤ 12 := by decide) (b2 : hg' ≤ 9 := by decide) (b3 : c' ≤ 1500 := by decide) (b4 : k' ≤ 50 := by decide) : TyR F H0 Γ (tRet (tLst (tCons ta (tCons tb tNil)))) (.nls K H0 gL) :=
  tr_ret (ty_lst (td_sub (tl_cons h1 (tl_cons h2 tl_nil)) fun ds h => by
    match ds, h with
    | [_, _], ⟨p1, p2, _⟩ => exact gl_two p1 p2 a1 a2 a3 a4 b1 b2 b3 b4) fun ds ⟨b, bs, e, hl, _⟩ => by rw [e]; simp; omega)
theorem tr_ret3 (h1 : TyE F H0 Γ ta (.dt K (tyB false n hg c k th))) (h2 : TyE F H0 Γ tb (.dt K (tyB false n' hg' c' k' th'))) (h3 : TyE F H0 Γ tc (.dt K (tyB false n'' hg'' c'' k'' th''))) (a1 : n ≤ 7 := by decide) (a2 : hg ≤ 9 := by decide) (a3 : c ≤ 1500 := by decide) (a4 : k ≤ 3 := by decide) (b1 : n' ≤ 12 := by decide) (b2 : hg' ≤ 9 := by decide) (b3 : c' ≤ 1500 := by decide) (b4 : k' ≤ 50 := by decide) (c1 : n'' ≤ 12 := by decide) (c2 : hg'' ≤ 9 := by decide) (c3 : c'' ≤ 1500 := by decide) (c4 : k'' ≤ 50 := by decide) : TyR F H0 Γ (tRet (tLst (tCons ta (tCons tb (tCons tc tNil))))) (.nls K H0 gL) :=
  tr_ret (ty_lst (td_sub (tl_cons h1 (tl_cons h2 (tl_cons h3 tl_nil))) fun ds h => by
    match ds, h with
    | [_, _, _], ⟨p1, p2, p3, _⟩ => exact gl_three p1 p2 p3 a1 a2 a3 a4 b1 b2 b3 b4 c1 c2 c3 c4) fun ds ⟨b, bs, e, hl, _⟩ => by rw [e]; simp; omega)
/-- a statement more -/
theorem tn_appS {lp : Bool} {a : Addr} {i : Nat} (hn : H0 a = none) (hi : Γ[i]? = some (some (.at K a (lB lp n hg c k th)))) (h : TyE F H0 Γ te (.dt K (tyS lp hg' c' k' th'))) (s : StbA a i Γ) (hl : Γ.length ≤ 900 := by simp) (hs : n ≤ 900 := by decide) :
    TyN F H0 Γ (tDrop (tBM K "list" rAppend (tVar i) (tCons te tNil))) (Γ.set i (some (.at K a (lB lp (n + 1) (max hg hg') (c + c') (max k k') (th || th'))))) :=
  tn_app hn hi hl h s fun ds d h1 h2 => ⟨by obtain ⟨b, e, s⟩ := h1; rw [e, bd_len]; have := s.len; omega, lb_app h1 h2⟩
end
abbrev TsG (K : PySem.W.Frag) (Pt : Addr) (x : Gx) : List (VP (FG Pt x)) := [.eq (.ref x.A), .ls K (wL x.ws)]
def spGen (K : PySem.W.Frag) (Pt : Addr) : Sp := spG (FG Pt) (TsG K Pt) (fun _ H => .nls K H gL)
end
end Oh
set_option maxHeartbeats 4000000
namespace Oh
open PySem PySem.Spec PyProof.Rows L2
open C8 (Cal Met Mak pe_c pe_mk pe_mt pe_mt0 pe_gc InsC call_isC tCut pss_cut fnBody fnArgs fnScope)
open LamX NdefX
section
variable {P : Program} {w : World} {K : PySem.W.Frag} {mg : Str → Option Value} {base : Heap} {A L Pt : Addr} {E : XK} {te ta tb : TE} {H0 : Hp}
theorem sc_law_guess : FnScope ["_law_pot_here", "_law_w", "_law_digits_here", "_law_hint", "_law_said", "_law_foe", "_law_own"] ["_law_pot_here", "_law_w"] (fnScope s_law_guess) := ⟨rfl, rfl, rfl, by decide +kernel, rfl, by decide +kernel, by decide +kernel⟩
theorem c_law_guess (T : Tx w K mg) : Cal P w K mg base 5 "_law_guess" (spGen K Pt) [] := by
  have c_law_draw := c_law_draw (P := P) (base := base) (Pt := Pt) T
  have c_law_digits := c_law_digits (P := P) (base := base) (Pt := Pt) T
  have c_law_picked := c_law_picked (P := P) (base := base) (Pt := Pt) T
  have c_law_test := c_law_test (P := P) (base := base) (Pt := Pt) T
  have c_law_answers := c_law_answers (P := P) (base := base) (Pt := Pt) T
  refine T.d_law_guess.cal sc_law_guess (fun F => ⟨[], .nil, F.bindsN fun _ _ _ _ _ _ us hl => match us, hl with | [_, _], _ => rfl⟩) (by rintro vs H Q E ⟨x, _, a2, _⟩; exact all2_len a2) fun f cdv Ar outer s H vs Q E hr h => ?_
  obtain ⟨x, g, a2, hQ⟩ := h
  refine ⟨_, (pss_cons (ps_set (i := 2) sc_law_guess.nd rfl (by first | exact Or.inl rfl | exact Or.inr rfl) (pe_c c_law_digits hr (by omega) rfl (pa_cons (pv 0) (pa_cons (pe_op op_add pe_int (pe_c c_law_draw hr (by omega) rfl (pa_cons (pv 0) (pa_cons pe_int pa_nil)))) pa_nil))))
    (pss_cons (ps_set (i := 3) sc_law_guess.nd rfl (by first | exact Or.inl rfl | exact Or.inr rfl) (pe_c c_law_draw hr (by omega) rfl (pa_cons (pv 0) (pa_cons pe_int pa_nil))))
    (pss_cons (ps_set (i := 4) sc_law_guess.nd rfl (by first | exact Or.inl rfl | exact Or.inr rfl) (pe_ix (r := rIxL K) ix_list (pe_lst (pa_cons (pe_ix (r := rIxL K) ix_list (pv 2) pe_int (fun _ _ => rfl)) (pa_cons (pe_tup (pa_cons pe_str (pa_cons (pe_ix (r := rIxL K) ix_list (pv 1) pe_int (fun _ _ => rfl)) pa_nil))) (pa_cons (pe_tup (pa_cons pe_str (pa_cons (pe_tup (pa_cons pe_str (pa_cons (pe_ix (r := rIxL K) ix_list (pv 1) pe_int (fun _ _ => rfl)) pa_nil))) (pa_cons (pe_ix (r := rIxL K) ix_list (pv 2) pe_int (fun _ _ => rfl)) pa_nil)))) (pa_cons (pe_tup (pa_cons pe_str (pa_cons (pe_ix (r := rIxL K) ix_list (pv 1) pe_int (fun _ _ => rfl)) pa_nil))) pa_nil))))) (pv 3) (fun _ _ => rfl)))
    (pss_cons (ps_set (i := 5) sc_law_guess.nd rfl (by first | exact Or.inl rfl | exact Or.inr rfl) (pe_lst (pa_cons (pe_c c_law_picked hr (by omega) rfl (pa_cons (pe_ix (r := rIxL K) ix_list (pv 1) pe_int (fun _ _ => rfl)) (pa_cons (pv 2) pa_nil))) pa_nil)))
    (pss_cons (ps_set (i := 6) sc_law_guess.nd rfl (by first | exact Or.inl rfl | exact Or.inr rfl) (pe_lst pa_nil))
    (pss_cons (ps_if (PW.pt (pw_or (pt_cmpR op_gt (pv 3) pe_int (nomark _)) (pw_or1 (pt_cmpR op_eq (pe_c c_law_draw hr (by omega) rfl (pa_cons (pv 0) (pa_cons pe_int pa_nil))) pe_int (nomark _)))))
      (pss_cons (ps_expr (pe_bm PySem.F.plainAttrs_list PySem.F.slot_list_append PySem.F.type_list_append mt_append (pv 5) (pa_cons (pe_tup (pa_cons pe_str (pa_cons (pe_ix (r := rIxL K) ix_list (pv 1) pe_int (fun _ _ => rfl)) (pa_cons (pv 4) pa_nil)))) pa_nil)))
      (pss_one (ps_expr (pe_bm PySem.F.plainAttrs_list PySem.F.slot_list_append PySem.F.type_list_append mt_append (pv 6) (pa_cons (pe_tup (pa_cons pe_str (pa_cons (pe_ix (r := rIxL K) ix_list (pv 1) pe_int (fun _ _ => rfl)) (pa_cons (pe_ix (r := rIxL K) ix_list (pv 1) pe_int (fun _ _ => rfl)) pa_nil)))) pa_nil)))))
      pss_nil)
    (pss_cons (ps_expr (pe_bm PySem.F.plainAttrs_list PySem.F.slot_list_append PySem.F.type_list_append mt_append (pv 5) (pa_cons (pe_tup (pa_cons pe_str (pa_cons (pe_ix (r := rIxL K) ix_list (pv 1) pe_int (fun _ _ => rfl)) (pa_cons (pe_ix (r := rIxL K) ix_list (pv 1) pe_int (fun _ _ => rfl)) pa_nil)))) pa_nil)))
    (pss_cons (ps_expr (pe_bm PySem.F.plainAttrs_list PySem.F.slot_list_append PySem.F.type_list_append mt_append (pv 5) (pa_cons (pe_c c_law_test hr (by omega) rfl (pa_cons (pv 0) (pa_cons (pe_tup (pa_cons pe_str (pa_cons (pe_ix (r := rIxL K) ix_list (pv 1) pe_int (fun _ _ => rfl)) pa_nil))) (pa_cons (pe_tup (pa_cons pe_str (pa_cons (pe_ix (r := rIxL K) ix_list (pv 1) pe_int (fun _ _ => rfl)) pa_nil))) (pa_cons (pe_ix (r := rIxL K) ix_list (pv 2) pe_int (fun _ _ => rfl)) pa_nil))))) pa_nil)))
    (pss_cons (ps_expr (pe_bm PySem.F.plainAttrs_list PySem.F.slot_list_append PySem.F.type_list_append mt_append (pv 6) (pa_cons (pe_c c_law_answers hr (by omega) rfl (pa_cons (pv 0) (pa_cons (pe_ix (r := rIxL K) ix_list (pv 1) pe_int (fun _ _ => rfl)) (pa_cons (pe_op op_add pe_int (pe_c c_law_draw hr (by omega) rfl (pa_cons (pv 0) (pa_cons pe_int pa_nil)))) (pa_cons (pe_ix (r := rIxL K) ix_list (pv 1) pe_int (fun _ _ => rfl)) (pa_cons (pv 2) pa_nil)))))) pa_nil)))
    (pss_cons (ps_if (pt_cmpR op_eq (pe_c c_law_draw hr (by omega) rfl (pa_cons (pv 0) (pa_cons pe_int pa_nil))) pe_int (nomark _))
      (pss_one (ps_expr (pe_bm PySem.F.plainAttrs_list PySem.F.slot_list_append PySem.F.type_list_append mt_append (pv 6) (pa_cons (pe_tup (pa_cons pe_str (pa_cons (pe_tup (pa_cons (pe_tup pa_nil) (pa_cons (pe_tup (pa_cons (pe_tup (pa_cons pe_str pa_nil)) pa_nil)) (pa_cons (pe_tup (pa_cons (pe_tup (pa_cons pe_str (pa_cons (pe_ix (r := rIxL K) ix_list (pv 1) pe_int (fun _ _ => rfl)) (pa_cons (pe_ix (r := rIxL K) ix_list (pv 2) pe_int (fun _ _ => rfl)) pa_nil)))) pa_nil)) pa_nil)))) pa_nil))) pa_nil))))
      pss_nil)
    (pss_one (ps_ret (pe_lst (pa_cons (pe_callTy call_tuple_of rfl T.z_tuple (by decide +kernel) (pa_cons (pv 6) pa_nil)) (pa_cons (pe_callTy call_tuple_of rfl T.z_tuple (by decide +kernel) (pa_cons (pv 5) pa_nil)) pa_nil))))))))))))))), ?_⟩
  match vs, a2 with
  | [v0, v1], ⟨p0, p1, _⟩ =>
  have W : ∀ {Γ : Gam (FG Pt x)}, Γ[1]? = some (some (.ol K H (wL x.ws))) → ∀ i : Nat, i < 11 → TyE (FG Pt x) H Γ (tOp (rIxL K) (tVar 1) (tC (.int (i : Nat)))) (.dt K tyW) := fun h i hi => ty_w x.ok (ls_ol (ty_var h) fun _ p => p) i hi
  have WX : ∀ {Γ : Gam (FG Pt x)}, Γ[1]? = some (some (.ol K H (wL x.ws))) → ∀ i : Nat, i < 11 → TyE (FG Pt x) H Γ (tOp (rIxL K) (tVar 1) (tC (.int (i : Nat)))) (.dt K (· = .str (wn x.ws i))) := fun h i hi => ty_wx x.ok (ls_ol (ty_var h) fun _ p => p) i hi
  refine ty_go (Γ := [some (.eq (.ref x.A)), some (.ol K H (wL x.ws)), none, none, none, none, none]) g ⟨⟨_, rfl, p0⟩, ⟨_, rfl, ol_of p1⟩, trivial⟩ ?_ hQ
  exact (tr_new (K := K) (g_digits rfl (ty_addR 2 4 (ty_drawL 2 rfl))) fun a1 h1 =>
    (tr_seq (tn_set (ty_drawL 4 rfl))
    (tr_seq (tn_set (ty_eL (de_cons (ty_dg (ls_at (ty_var rfl) fun _ p => p) ty_int (i_c (n := 2) (by decide))) (de_cons (ty_name (W rfl 7 (by decide))) (de_cons (ty_bin .same (ty_name (W rfl 7 (by decide))) (ty_dg (ls_at (ty_var rfl) fun _ p => p) ty_int (i_c (n := 2) (by decide)))) (de_cons (ty_name (W rfl 7 (by decide))) de_nil)))) (ty_var (T := .int (rg 0 (4 : Nat))) rfl) (fun _ h => h)))
    (tr_lst (K := K) (db_cons (g_picked (W rfl 7 (by decide)) (ls_at (ty_var rfl) fun _ p => p)) (db_nil (lp := false))) (fun ds hb => by obtain ⟨b, e, z⟩ := hb; rw [e, bd_len]; exact Nat.le_trans z.len (by decide)) fun a2 h2 n2 =>
    (tr_lst (K := K) (db_nil (lp := false)) (fun ds hb => by obtain ⟨b, e, z⟩ := hb; rw [e, bd_len]; exact Nat.le_trans z.len (by decide)) fun a3 h3 n3 =>
    (tr_fork (tt_or (tt_any (tt_cmp (ty_var (T := .int (rg 0 (4 : Nat))) rfl) ty_int)) (tt_any (tt_eq (ty_drawL 2 rfl) ty_int))) (tn_seq (tn_appS h2 rfl (ty_tell (lp := false) (W rfl 3 (by decide)) (ty_var rfl)) ⟨stb_eq, ⟨(stb_ol h2), ⟨(stb_at (n2 2 _ _ rfl)), ⟨stb_int, ⟨stb_dt, ⟨(stb_at (Ne.symm (n3 5 _ _ rfl))), trivial⟩⟩⟩⟩⟩⟩) (tn_appS h3 rfl (ty_hear (lp := false) (W rfl 3 (by decide)) (W rfl 9 (by decide))) ⟨stb_eq, ⟨(stb_ol h3), ⟨(stb_at (n3 2 _ _ rfl)), ⟨stb_int, ⟨stb_dt, ⟨(stb_at (n3 5 _ _ rfl)), trivial⟩⟩⟩⟩⟩⟩))
    (tr_seq (tn_appS h2 rfl (ty_hear (lp := false) (W rfl 4 (by decide)) (W rfl 8 (by decide))) ⟨stb_eq, ⟨(stb_ol h2), ⟨(stb_at (n2 2 _ _ rfl)), ⟨stb_int, ⟨stb_dt, ⟨(stb_at (Ne.symm (n3 5 _ _ rfl))), trivial⟩⟩⟩⟩⟩⟩)
      (tr_seq (tn_appS h2 rfl (g_test rfl (ty_name (W rfl 7 (by decide))) (ty_name (W rfl 8 (by decide))) (ty_dg (ls_at (ty_var rfl) fun _ p => p) ty_int (i_c (n := 2) (by decide)))) ⟨stb_eq, ⟨(stb_ol h2), ⟨(stb_at (n2 2 _ _ rfl)), ⟨stb_int, ⟨stb_dt, ⟨(stb_at (Ne.symm (n3 5 _ _ rfl))), trivial⟩⟩⟩⟩⟩⟩)
      (tr_seq (tn_appS h3 rfl (ty_oS (g_answers rfl (W rfl 4 (by decide)) (ty_addR 2 4 (ty_drawL 2 rfl)) (W rfl 9 (by decide)) (ls_at (ty_var rfl) fun _ p => p))) ⟨stb_eq, ⟨(stb_ol h3), ⟨(stb_at (n3 2 _ _ rfl)), ⟨stb_int, ⟨stb_dt, ⟨(stb_at (n3 5 _ _ rfl)), trivial⟩⟩⟩⟩⟩⟩)
      (tr_fork (tt_any (tt_eq (ty_drawL 3 rfl) ty_int)) (tn_appS h3 rfl (ty_oS (ty_opn (ty_blks (dk_cons (ty_blk (db_nil (lp := false))) (dk_cons (ty_blk (db_cons (ty_home (lp := false)) (db_nil (lp := false)))) (dk_cons (ty_blk (db_cons (ty_tell (lp := false) (W rfl 4 (by decide)) (ty_dg (ls_at (ty_var rfl) fun _ p => p) ty_int (i_c (n := 2) (by decide)))) (db_nil (lp := false)))) (dk_nil (lp := false)))))))) ⟨stb_eq, ⟨(stb_ol h3), ⟨(stb_at (n3 2 _ _ rfl)), ⟨stb_int, ⟨stb_dt, ⟨(stb_at (n3 5 _ _ rfl)), trivial⟩⟩⟩⟩⟩⟩)
      (tr_ret2 (ty_tupB (ls_at (ty_var rfl) fun _ p => p)) (ty_tupB (ls_at (ty_var rfl) fun _ p => p)))
      (tr_ret2 (ty_tupB (ls_at (ty_var rfl) fun _ p => p)) (ty_tupB (ls_at (ty_var rfl) fun _ p => p)))))))
    (tr_seq (tn_appS h2 rfl (ty_hear (lp := false) (W rfl 4 (by decide)) (W rfl 8 (by decide))) ⟨stb_eq, ⟨(stb_ol h2), ⟨(stb_at (n2 2 _ _ rfl)), ⟨stb_int, ⟨stb_dt, ⟨(stb_at (Ne.symm (n3 5 _ _ rfl))), trivial⟩⟩⟩⟩⟩⟩)
      (tr_seq (tn_appS h2 rfl (g_test rfl (ty_name (W rfl 7 (by decide))) (ty_name (W rfl 8 (by decide))) (ty_dg (ls_at (ty_var rfl) fun _ p => p) ty_int (i_c (n := 2) (by decide)))) ⟨stb_eq, ⟨(stb_ol h2), ⟨(stb_at (n2 2 _ _ rfl)), ⟨stb_int, ⟨stb_dt, ⟨(stb_at (Ne.symm (n3 5 _ _ rfl))), trivial⟩⟩⟩⟩⟩⟩)
      (tr_seq (tn_appS h3 rfl (ty_oS (g_answers rfl (W rfl 4 (by decide)) (ty_addR 2 4 (ty_drawL 2 rfl)) (W rfl 9 (by decide)) (ls_at (ty_var rfl) fun _ p => p))) ⟨stb_eq, ⟨(stb_ol h3), ⟨(stb_at (n3 2 _ _ rfl)), ⟨stb_int, ⟨stb_dt, ⟨(stb_at (n3 5 _ _ rfl)), trivial⟩⟩⟩⟩⟩⟩)
      (tr_fork (tt_any (tt_eq (ty_drawL 3 rfl) ty_int)) (tn_appS h3 rfl (ty_oS (ty_opn (ty_blks (dk_cons (ty_blk (db_nil (lp := false))) (dk_cons (ty_blk (db_cons (ty_home (lp := false)) (db_nil (lp := false)))) (dk_cons (ty_blk (db_cons (ty_tell (lp := false) (W rfl 4 (by decide)) (ty_dg (ls_at (ty_var rfl) fun _ p => p) ty_int (i_c (n := 2) (by decide)))) (db_nil (lp := false)))) (dk_nil (lp := false)))))))) ⟨stb_eq, ⟨(stb_ol h3), ⟨(stb_at (n3 2 _ _ rfl)), ⟨stb_int, ⟨stb_dt, ⟨(stb_at (n3 5 _ _ rfl)), trivial⟩⟩⟩⟩⟩⟩)
      (tr_ret2 (ty_tupB (ls_at (ty_var rfl) fun _ p => p)) (ty_tupB (ls_at (ty_var rfl) fun _ p => p)))
      (tr_ret2 (ty_tupB (ls_at (ty_var rfl) fun _ p => p)) (ty_tupB (ls_at (ty_var rfl) fun _ p => p)))))))))))))

theorem sc_law_keys : FnScope ["_law_pot_here", "_law_w", "_law_digits_here", "_law_said", "_law_one", "_law_two", "_law_own"] ["_law_pot_here", "_law_w"] (fnScope s_law_keys) := ⟨rfl, rfl, rfl, by decide +kernel, rfl, by decide +kernel, by decide +kernel⟩
theorem c_law_keys (T : Tx w K mg) : Cal P w K mg base 5 "_law_keys" (spGen K Pt) [] := by
  have c_law_draw := c_law_draw (P := P) (base := base) (Pt := Pt) T
  have c_law_digits := c_law_digits (P := P) (base := base) (Pt := Pt) T
  have c_law_picked := c_law_picked (P := P) (base := base) (Pt := Pt) T
  have c_law_test := c_law_test (P := P) (base := base) (Pt := Pt) T
  have c_law_answers := c_law_answers (P := P) (base := base) (Pt := Pt) T
  refine T.d_law_keys.cal sc_law_keys (fun F => ⟨[], .nil, F.bindsN fun _ _ _ _ _ _ us hl => match us, hl with | [_, _], _ => rfl⟩) (by rintro vs H Q E ⟨x, _, a2, _⟩; exact all2_len a2) fun f cdv Ar outer s H vs Q E hr h => ?_
  obtain ⟨x, g, a2, hQ⟩ := h
  refine ⟨_, (pss_cons (ps_set (i := 2) sc_law_keys.nd rfl (by first | exact Or.inl rfl | exact Or.inr rfl) (pe_c c_law_digits hr (by omega) rfl (pa_cons (pv 0) (pa_cons pe_int pa_nil))))
    (pss_cons (ps_set (i := 3) sc_law_keys.nd rfl (by first | exact Or.inl rfl | exact Or.inr rfl) (pe_ix (r := rIxL K) ix_list (pe_lst (pa_cons (pe_tup (pa_cons pe_str (pa_cons (pe_ix (r := rIxL K) ix_list (pv 1) pe_int (fun _ _ => rfl)) pa_nil))) (pa_cons (pe_tup (pa_cons pe_str (pa_cons (pe_ix (r := rIxL K) ix_list (pv 1) pe_int (fun _ _ => rfl)) pa_nil))) (pa_cons (pe_ix (r := rIxL K) ix_list (pv 2) pe_int (fun _ _ => rfl)) pa_nil)))) (pe_c c_law_draw hr (by omega) rfl (pa_cons (pv 0) (pa_cons pe_int pa_nil))) (fun _ _ => rfl)))
    (pss_cons (ps_set (i := 4) sc_law_keys.nd rfl (by first | exact Or.inl rfl | exact Or.inr rfl) (pe_tup (pa_cons (pe_c c_law_picked hr (by omega) rfl (pa_cons (pe_ix (r := rIxL K) ix_list (pv 1) pe_int (fun _ _ => rfl)) (pa_cons (pv 2) pa_nil))) (pa_cons (pe_tup (pa_cons pe_str (pa_cons (pe_ix (r := rIxL K) ix_list (pv 1) pe_int (fun _ _ => rfl)) (pa_cons (pv 3) pa_nil)))) (pa_cons (pe_tup (pa_cons pe_str (pa_cons (pe_ix (r := rIxL K) ix_list (pv 1) pe_int (fun _ _ => rfl)) (pa_cons (pe_ix (r := rIxL K) ix_list (pv 1) pe_int (fun _ _ => rfl)) pa_nil)))) pa_nil)))))
    (pss_cons (ps_set (i := 4) sc_law_keys.nd rfl (by first | exact Or.inl rfl | exact Or.inr rfl) (pe_op (r := rCatA K) op_catA (pv 4) (pe_tup (pa_cons (pe_c c_law_test hr (by omega) rfl (pa_cons (pv 0) (pa_cons (pe_tup (pa_cons pe_str (pa_cons (pe_ix (r := rIxL K) ix_list (pv 1) pe_int (fun _ _ => rfl)) pa_nil))) (pa_cons (pe_tup (pa_cons pe_str (pa_cons (pe_ix (r := rIxL K) ix_list (pv 1) pe_int (fun _ _ => rfl)) pa_nil))) (pa_cons (pe_ix (r := rIxL K) ix_list (pv 2) pe_int (fun _ _ => rfl)) pa_nil))))) pa_nil))))
    (pss_cons (ps_set (i := 5) sc_law_keys.nd rfl (by first | exact Or.inl rfl | exact Or.inr rfl) (pe_tup (pa_cons (pe_tup (pa_cons pe_str (pa_cons (pe_ix (r := rIxL K) ix_list (pv 1) pe_int (fun _ _ => rfl)) (pa_cons (pe_ix (r := rIxL K) ix_list (pv 1) pe_int (fun _ _ => rfl)) pa_nil)))) (pa_cons (pe_c c_law_test hr (by omega) rfl (pa_cons (pv 0) (pa_cons (pe_tup (pa_cons pe_str (pa_cons (pe_ix (r := rIxL K) ix_list (pv 1) pe_int (fun _ _ => rfl)) pa_nil))) (pa_cons (pe_ix (r := rIxL K) ix_list (pv 2) (pe_c c_law_draw hr (by omega) rfl (pa_cons (pv 0) (pa_cons pe_int pa_nil))) (fun _ _ => rfl)) (pa_cons (pe_ix (r := rIxL K) ix_list (pv 2) pe_int (fun _ _ => rfl)) pa_nil))))) pa_nil))))
    (pss_cons (ps_set (i := 6) sc_law_keys.nd rfl (by first | exact Or.inl rfl | exact Or.inr rfl) (pe_tup (pa_cons (pe_tup (pa_cons pe_str (pa_cons (pe_ix (r := rIxL K) ix_list (pv 1) pe_int (fun _ _ => rfl)) (pa_cons (pe_ix (r := rIxL K) ix_list (pv 1) pe_int (fun _ _ => rfl)) pa_nil)))) (pa_cons (pe_c c_law_answers hr (by omega) rfl (pa_cons (pv 0) (pa_cons (pe_ix (r := rIxL K) ix_list (pv 1) pe_int (fun _ _ => rfl)) (pa_cons pe_int (pa_cons (pe_ix (r := rIxL K) ix_list (pv 1) pe_int (fun _ _ => rfl)) (pa_cons (pv 2) pa_nil)))))) pa_nil))))
    (pss_cons (ps_set (i := 6) sc_law_keys.nd rfl (by first | exact Or.inl rfl | exact Or.inr rfl) (pe_op (r := rCatA K) op_catA (pv 6) (pe_tup (pa_cons (pe_c c_law_answers hr (by omega) rfl (pa_cons (pv 0) (pa_cons (pe_ix (r := rIxL K) ix_list (pv 1) pe_int (fun _ _ => rfl)) (pa_cons (pe_op op_add pe_int (pe_c c_law_draw hr (by omega) rfl (pa_cons (pv 0) (pa_cons pe_int pa_nil)))) (pa_cons (pe_ix (r := rIxL K) ix_list (pv 1) pe_int (fun _ _ => rfl)) (pa_cons (pv 2) pa_nil)))))) pa_nil))))
    (pss_one (ps_ret (pe_lst (pa_cons (pv 6) (pa_cons (pv 4) (pa_cons (pv 5) pa_nil))))))))))))), ?_⟩
  match vs, a2 with
  | [v0, v1], ⟨p0, p1, _⟩ =>
  have W : ∀ {Γ : Gam (FG Pt x)}, Γ[1]? = some (some (.ol K H (wL x.ws))) → ∀ i : Nat, i < 11 → TyE (FG Pt x) H Γ (tOp (rIxL K) (tVar 1) (tC (.int (i : Nat)))) (.dt K tyW) := fun h i hi => ty_w x.ok (ls_ol (ty_var h) fun _ p => p) i hi
  have WX : ∀ {Γ : Gam (FG Pt x)}, Γ[1]? = some (some (.ol K H (wL x.ws))) → ∀ i : Nat, i < 11 → TyE (FG Pt x) H Γ (tOp (rIxL K) (tVar 1) (tC (.int (i : Nat)))) (.dt K (· = .str (wn x.ws i))) := fun h i hi => ty_wx x.ok (ls_ol (ty_var h) fun _ p => p) i hi
  refine ty_go (Γ := [some (.eq (.ref x.A)), some (.ol K H (wL x.ws)), none, none, none, none, none]) g ⟨⟨_, rfl, p0⟩, ⟨_, rfl, ol_of p1⟩, trivial⟩ ?_ hQ
  exact (tr_seq (tn_set (g_digits rfl ty_r24))
    (tr_seq (tn_set (ty_eL (de_cons (ty_name (W rfl 7 (by decide))) (de_cons (ty_name (W rfl 7 (by decide))) (de_cons (ty_dg (ls_nls (ty_var rfl) fun _ p => p) ty_int (i_c (n := 2) (by decide))) de_nil))) (ty_drawL 3 rfl) (fun _ h => h)))
    (tr_seq (tn_set (ty_blk (db_cons (g_picked (W rfl 7 (by decide)) (ls_nls (ty_var rfl) fun _ p => p)) (db_cons (ty_tell (lp := false) (W rfl 3 (by decide)) (ty_var rfl)) (db_cons (ty_hear (lp := false) (W rfl 4 (by decide)) (W rfl 8 (by decide))) (db_nil (lp := false)))))))
    (tr_seq (tn_set (ty_catB (ty_var rfl) (ty_blk (db_cons (g_test rfl (ty_name (W rfl 7 (by decide))) (ty_name (W rfl 8 (by decide))) (ty_dg (ls_nls (ty_var rfl) fun _ p => p) ty_int (i_c (n := 2) (by decide)))) (db_nil (lp := false))))))
    (tr_seq (tn_set (ty_blk (db_cons (ty_hear (lp := false) (W rfl 5 (by decide)) (W rfl 8 (by decide))) (db_cons (g_test rfl (ty_name (W rfl 8 (by decide))) (ty_dg (ls_nls (ty_var rfl) fun _ p => p) (ty_drawL 2 rfl) (fun _ h => h)) (ty_dg (ls_nls (ty_var rfl) fun _ p => p) ty_int (i_c (n := 2) (by decide)))) (db_nil (lp := false))))))
    (tr_seq (tn_set (ty_blk (db_cons (ty_hear (lp := false) (W rfl 3 (by decide)) (W rfl 9 (by decide))) (db_cons (ty_oS (g_answers rfl (W rfl 4 (by decide)) ty_r24 (W rfl 9 (by decide)) (ls_nls (ty_var rfl) fun _ p => p))) (db_nil (lp := false))))))
    (tr_seq (tn_set (ty_catB (ty_var rfl) (ty_blk (db_cons (ty_oS (g_answers rfl (W rfl 5 (by decide)) (ty_addR 2 4 (ty_drawL 2 rfl)) (W rfl 9 (by decide)) (ls_nls (ty_var rfl) fun _ p => p))) (db_nil (lp := false))))))
    (tr_ret3 (ty_var rfl) (ty_var rfl) (ty_var rfl)))))))))

theorem sc_law_hide : FnScope ["_law_pot_here", "_law_w", "_law_digits_here", "_law_said", "_law_foe", "_law_own"] ["_law_pot_here", "_law_w"] (fnScope s_law_hide) := ⟨rfl, rfl, rfl, by decide +kernel, rfl, by decide +kernel, by decide +kernel⟩
theorem c_law_hide (T : Tx w K mg) : Cal P w K mg base 5 "_law_hide" (spGen K Pt) [] := by
  have c_law_draw := c_law_draw (P := P) (base := base) (Pt := Pt) T
  have c_law_digits := c_law_digits (P := P) (base := base) (Pt := Pt) T
  have c_law_picked := c_law_picked (P := P) (base := base) (Pt := Pt) T
  have c_law_test := c_law_test (P := P) (base := base) (Pt := Pt) T
  have c_law_answers := c_law_answers (P := P) (base := base) (Pt := Pt) T
  refine T.d_law_hide.cal sc_law_hide (fun F => ⟨[], .nil, F.bindsN fun _ _ _ _ _ _ us hl => match us, hl with | [_, _], _ => rfl⟩) (by rintro vs H Q E ⟨x, _, a2, _⟩; exact all2_len a2) fun f cdv Ar outer s H vs Q E hr h => ?_
  obtain ⟨x, g, a2, hQ⟩ := h
  refine ⟨_, (pss_cons (ps_set (i := 2) sc_law_hide.nd rfl (by first | exact Or.inl rfl | exact Or.inr rfl) (pe_c c_law_digits hr (by omega) rfl (pa_cons (pv 0) (pa_cons pe_int pa_nil))))
    (pss_cons (ps_set (i := 3) sc_law_hide.nd rfl (by first | exact Or.inl rfl | exact Or.inr rfl) (pe_tup (pa_cons pe_str (pa_cons (pe_ix (r := rIxL K) ix_list (pv 1) pe_int (fun _ _ => rfl)) (pa_cons (pe_tup (pa_cons pe_str (pa_cons (pe_ix (r := rIxL K) ix_list (pv 1) pe_int (fun _ _ => rfl)) pa_nil))) pa_nil)))))
    (pss_cons (ps_if (pt_cmpR op_eq (pe_c c_law_draw hr (by omega) rfl (pa_cons (pv 0) (pa_cons pe_int pa_nil))) pe_int (nomark _))
      (pss_one (ps_set (i := 3) sc_law_hide.nd rfl (by first | exact Or.inl rfl | exact Or.inr rfl) (pe_tup (pa_cons pe_str (pa_cons (pe_tup (pa_cons (pe_tup (pa_cons (pv 3) pa_nil)) (pa_cons (pe_tup (pa_cons (pe_tup (pa_cons pe_str (pa_cons (pe_ix (r := rIxL K) ix_list (pv 1) pe_int (fun _ _ => rfl)) (pa_cons (pe_ix (r := rIxL K) ix_list (pv 2) pe_int (fun _ _ => rfl)) pa_nil)))) pa_nil)) pa_nil))) pa_nil)))))
      pss_nil)
    (pss_cons (ps_set (i := 4) sc_law_hide.nd rfl (by first | exact Or.inl rfl | exact Or.inr rfl) (pe_tup (pa_cons (pe_c c_law_picked hr (by omega) rfl (pa_cons (pe_ix (r := rIxL K) ix_list (pv 1) pe_int (fun _ _ => rfl)) (pa_cons (pv 2) pa_nil))) (pa_cons (pe_tup (pa_cons pe_str (pa_cons (pe_ix (r := rIxL K) ix_list (pv 1) pe_int (fun _ _ => rfl)) (pa_cons (pe_ix (r := rIxL K) ix_list (pv 2) pe_int (fun _ _ => rfl)) pa_nil)))) (pa_cons (pv 3) (pa_cons (pe_tup (pa_cons pe_str (pa_cons (pe_ix (r := rIxL K) ix_list (pv 1) pe_int (fun _ _ => rfl)) (pa_cons (pe_ix (r := rIxL K) ix_list (pv 1) pe_int (fun _ _ => rfl)) pa_nil)))) pa_nil))))))
    (pss_cons (ps_set (i := 4) sc_law_hide.nd rfl (by first | exact Or.inl rfl | exact Or.inr rfl) (pe_op (r := rCatA K) op_catA (pv 4) (pe_tup (pa_cons (pe_c c_law_test hr (by omega) rfl (pa_cons (pv 0) (pa_cons (pe_tup (pa_cons pe_str (pa_cons (pe_ix (r := rIxL K) ix_list (pv 1) pe_int (fun _ _ => rfl)) pa_nil))) (pa_cons (pe_tup (pa_cons pe_str (pa_cons (pe_ix (r := rIxL K) ix_list (pv 1) pe_int (fun _ _ => rfl)) pa_nil))) (pa_cons (pe_ix (r := rIxL K) ix_list (pv 2) pe_int (fun _ _ => rfl)) pa_nil))))) pa_nil))))
    (pss_cons (ps_set (i := 5) sc_law_hide.nd rfl (by first | exact Or.inl rfl | exact Or.inr rfl) (pe_tup (pa_cons (pe_tup (pa_cons pe_str (pa_cons (pe_ix (r := rIxL K) ix_list (pv 1) pe_int (fun _ _ => rfl)) (pa_cons (pe_ix (r := rIxL K) ix_list (pv 1) pe_int (fun _ _ => rfl)) pa_nil)))) (pa_cons (pe_tup (pa_cons pe_str (pa_cons (pe_ix (r := rIxL K) ix_list (pv 1) pe_int (fun _ _ => rfl)) (pa_cons (pe_ix (r := rIxL K) ix_list (pv 1) pe_int (fun _ _ => rfl)) pa_nil)))) (pa_cons (pe_c c_law_answers hr (by omega) rfl (pa_cons (pv 0) (pa_cons (pe_ix (r := rIxL K) ix_list (pv 1) pe_int (fun _ _ => rfl)) (pa_cons (pe_op op_add pe_int (pe_c c_law_draw hr (by omega) rfl (pa_cons (pv 0) (pa_cons pe_int pa_nil)))) (pa_cons (pe_ix (r := rIxL K) ix_list (pv 1) pe_int (fun _ _ => rfl)) (pa_cons (pv 2) pa_nil)))))) pa_nil)))))
    (pss_one (ps_ret (pe_lst (pa_cons (pv 5) (pa_cons (pv 4) pa_nil))))))))))), ?_⟩
  match vs, a2 with
  | [v0, v1], ⟨p0, p1, _⟩ =>
  have W : ∀ {Γ : Gam (FG Pt x)}, Γ[1]? = some (some (.ol K H (wL x.ws))) → ∀ i : Nat, i < 11 → TyE (FG Pt x) H Γ (tOp (rIxL K) (tVar 1) (tC (.int (i : Nat)))) (.dt K tyW) := fun h i hi => ty_w x.ok (ls_ol (ty_var h) fun _ p => p) i hi
  have WX : ∀ {Γ : Gam (FG Pt x)}, Γ[1]? = some (some (.ol K H (wL x.ws))) → ∀ i : Nat, i < 11 → TyE (FG Pt x) H Γ (tOp (rIxL K) (tVar 1) (tC (.int (i : Nat)))) (.dt K (· = .str (wn x.ws i))) := fun h i hi => ty_wx x.ok (ls_ol (ty_var h) fun _ p => p) i hi
  refine ty_go (Γ := [some (.eq (.ref x.A)), some (.ol K H (wL x.ws)), none, none, none, none]) g ⟨⟨_, rfl, p0⟩, ⟨_, rfl, ol_of p1⟩, trivial⟩ ?_ hQ
  exact (tr_seq (tn_set (g_digits rfl ty_r24))
    (tr_seq (tn_set (ty_tell (lp := false) (W rfl 4 (by decide)) (ty_name (W rfl 7 (by decide)))))
    (tr_fork (tt_any (tt_eq (ty_drawL 2 rfl) ty_int)) (tn_set (ty_oS (ty_opn (ty_blks (dk_cons (ty_blk (db_cons (ty_var rfl) (db_nil (lp := false)))) (dk_cons (ty_blk (db_cons (ty_tell (lp := false) (W rfl 4 (by decide)) (ty_dg (ls_nls (ty_var rfl) fun _ p => p) ty_int (i_c (n := 2) (by decide)))) (db_nil (lp := false)))) (dk_nil (lp := false))))))))
    (tr_seq (tn_set (ty_blk (db_cons (g_picked (W rfl 7 (by decide)) (ls_nls (ty_var rfl) fun _ p => p)) (db_cons (ty_tell (lp := false) (W rfl 3 (by decide)) (ty_dg (ls_nls (ty_var rfl) fun _ p => p) ty_int (i_c (n := 2) (by decide)))) (db_cons (ty_var rfl) (db_cons (ty_hear (lp := false) (W rfl 5 (by decide)) (W rfl 8 (by decide))) (db_nil (lp := false))))))))
      (tr_seq (tn_set (ty_catB (ty_var rfl) (ty_blk (db_cons (g_test rfl (ty_name (W rfl 7 (by decide))) (ty_name (W rfl 8 (by decide))) (ty_dg (ls_nls (ty_var rfl) fun _ p => p) ty_int (i_c (n := 2) (by decide)))) (db_nil (lp := false))))))
      (tr_seq (tn_set (ty_blk (db_cons (ty_hear (lp := false) (W rfl 3 (by decide)) (W rfl 9 (by decide))) (db_cons (ty_hear (lp := false) (W rfl 4 (by decide)) (W rfl 10 (by decide))) (db_cons (ty_oS (g_answers rfl (W rfl 5 (by decide)) (ty_addR 2 4 (ty_drawL 2 rfl)) (W rfl 10 (by decide)) (ls_nls (ty_var rfl) fun _ p => p))) (db_nil (lp := false)))))))
      (tr_ret2 (ty_var rfl) (ty_var rfl)))))
    (tr_seq (tn_set (ty_blk (db_cons (g_picked (W rfl 7 (by decide)) (ls_nls (ty_var rfl) fun _ p => p)) (db_cons (ty_tell (lp := false) (W rfl 3 (by decide)) (ty_dg (ls_nls (ty_var rfl) fun _ p => p) ty_int (i_c (n := 2) (by decide)))) (db_cons (ty_var rfl) (db_cons (ty_hear (lp := false) (W rfl 5 (by decide)) (W rfl 8 (by decide))) (db_nil (lp := false))))))))
      (tr_seq (tn_set (ty_catB (ty_var rfl) (ty_blk (db_cons (g_test rfl (ty_name (W rfl 7 (by decide))) (ty_name (W rfl 8 (by decide))) (ty_dg (ls_nls (ty_var rfl) fun _ p => p) ty_int (i_c (n := 2) (by decide)))) (db_nil (lp := false))))))
      (tr_seq (tn_set (ty_blk (db_cons (ty_hear (lp := false) (W rfl 3 (by decide)) (W rfl 9 (by decide))) (db_cons (ty_hear (lp := false) (W rfl 4 (by decide)) (W rfl 10 (by decide))) (db_cons (ty_oS (g_answers rfl (W rfl 5 (by decide)) (ty_addR 2 4 (ty_drawL 2 rfl)) (W rfl 10 (by decide)) (ls_nls (ty_var rfl) fun _ p => p))) (db_nil (lp := false)))))))
      (tr_ret2 (ty_var rfl) (ty_var rfl))))))))

theorem sc_law_switch : FnScope ["_law_pot_here", "_law_w", "_law_digits_here", "_law_one", "_law_two", "_law_first", "_law_other", "_law_own"] ["_law_pot_here", "_law_w"] (fnScope s_law_switch) := ⟨rfl, rfl, rfl, by decide +kernel, rfl, by decide +kernel, by decide +kernel⟩
theorem c_law_switch (T : Tx w K mg) : Cal P w K mg base 5 "_law_switch" (spGen K Pt) [] := by
  have c_law_draw := c_law_draw (P := P) (base := base) (Pt := Pt) T
  have c_law_digits := c_law_digits (P := P) (base := base) (Pt := Pt) T
  have c_law_test := c_law_test (P := P) (base := base) (Pt := Pt) T
  have c_law_answers := c_law_answers (P := P) (base := base) (Pt := Pt) T
  refine T.d_law_switch.cal sc_law_switch (fun F => ⟨[], .nil, F.bindsN fun _ _ _ _ _ _ us hl => match us, hl with | [_, _], _ => rfl⟩) (by rintro vs H Q E ⟨x, _, a2, _⟩; exact all2_len a2) fun f cdv Ar outer s H vs Q E hr h => ?_
  obtain ⟨x, g, a2, hQ⟩ := h
  refine ⟨_, (pss_cons (ps_set (i := 2) sc_law_switch.nd rfl (by first | exact Or.inl rfl | exact Or.inr rfl) (pe_c c_law_digits hr (by omega) rfl (pa_cons (pv 0) (pa_cons pe_int pa_nil))))
    (pss_cons (ps_set (i := 3) sc_law_switch.nd rfl (by first | exact Or.inl rfl | exact Or.inr rfl) (pe_tup (pa_cons (pe_tup (pa_cons pe_str (pa_cons (pe_ix (r := rIxL K) ix_list (pv 1) pe_int (fun _ _ => rfl)) (pa_cons (pe_ix (r := rIxL K) ix_list (pv 2) pe_int (fun _ _ => rfl)) pa_nil)))) (pa_cons (pe_tup (pa_cons pe_str (pa_cons (pe_ix (r := rIxL K) ix_list (pv 1) pe_int (fun _ _ => rfl)) (pa_cons (pe_ix (r := rIxL K) ix_list (pv 1) pe_int (fun _ _ => rfl)) pa_nil)))) pa_nil))))
    (pss_cons (ps_set (i := 3) sc_law_switch.nd rfl (by first | exact Or.inl rfl | exact Or.inr rfl) (pe_op (r := rCatA K) op_catA (pv 3) (pe_tup (pa_cons (pe_c c_law_test hr (by omega) rfl (pa_cons (pv 0) (pa_cons (pe_tup (pa_cons pe_str (pa_cons (pe_ix (r := rIxL K) ix_list (pv 1) pe_int (fun _ _ => rfl)) pa_nil))) (pa_cons (pe_ix (r := rIxL K) ix_list (pv 2) (pe_c c_law_draw hr (by omega) rfl (pa_cons (pv 0) (pa_cons pe_int pa_nil))) (fun _ _ => rfl)) (pa_cons (pe_ix (r := rIxL K) ix_list (pv 2) pe_int (fun _ _ => rfl)) pa_nil))))) pa_nil))))
    (pss_cons (ps_set (i := 4) sc_law_switch.nd rfl (by first | exact Or.inl rfl | exact Or.inr rfl) (pe_tup (pa_cons (pe_tup (pa_cons pe_str (pa_cons (pe_ix (r := rIxL K) ix_list (pv 1) pe_int (fun _ _ => rfl)) (pa_cons (pe_ix (r := rIxL K) ix_list (pv 2) pe_int (fun _ _ => rfl)) pa_nil)))) pa_nil)))
    (pss_cons (ps_set (i := 5) sc_law_switch.nd rfl (by first | exact Or.inl rfl | exact Or.inr rfl) (pe_tup (pa_cons (pe_c c_law_answers hr (by omega) rfl (pa_cons (pv 0) (pa_cons (pe_ix (r := rIxL K) ix_list (pv 1) pe_int (fun _ _ => rfl)) (pa_cons pe_int (pa_cons (pe_ix (r := rIxL K) ix_list (pv 1) pe_int (fun _ _ => rfl)) (pa_cons (pv 2) pa_nil)))))) pa_nil)))
    (pss_cons (ps_set (i := 6) sc_law_switch.nd rfl (by first | exact Or.inl rfl | exact Or.inr rfl) (pe_tup (pa_cons (pe_tup (pa_cons pe_str (pa_cons (pe_ix (r := rIxL K) ix_list (pv 1) pe_int (fun _ _ => rfl)) (pa_cons (pe_ix (r := rIxL K) ix_list (pv 1) pe_int (fun _ _ => rfl)) pa_nil)))) (pa_cons (pe_c c_law_answers hr (by omega) rfl (pa_cons (pv 0) (pa_cons (pe_ix (r := rIxL K) ix_list (pv 1) pe_int (fun _ _ => rfl)) (pa_cons (pe_op op_add pe_int (pe_c c_law_draw hr (by omega) rfl (pa_cons (pv 0) (pa_cons pe_int pa_nil)))) (pa_cons (pe_ix (r := rIxL K) ix_list (pv 1) pe_int (fun _ _ => rfl)) (pa_cons (pv 2) pa_nil)))))) pa_nil))))
    (pss_cons (ps_set (i := 7) sc_law_switch.nd rfl (by first | exact Or.inl rfl | exact Or.inr rfl) (pe_tup (pa_cons (pe_tup (pa_cons pe_str (pa_cons (pe_tup (pa_cons (pe_tup (pa_cons (pe_ix (r := rIxL K) ix_list (pv 1) pe_int (fun _ _ => rfl)) (pa_cons (pe_ix (r := rIxL K) ix_list (pv 1) pe_int (fun _ _ => rfl)) (pa_cons (pv 5) pa_nil)))) (pa_cons (pe_tup (pa_cons (pe_ix (r := rIxL K) ix_list (pv 1) pe_int (fun _ _ => rfl)) (pa_cons (pe_ix (r := rIxL K) ix_list (pv 1) pe_int (fun _ _ => rfl)) (pa_cons (pv 6) pa_nil)))) pa_nil))) pa_nil))) pa_nil)))
    (pss_cons (ps_if (pt_cmpR op_eq (pe_c c_law_draw hr (by omega) rfl (pa_cons (pv 0) (pa_cons pe_int pa_nil))) pe_int (nomark _))
      (pss_one (ps_set (i := 7) sc_law_switch.nd rfl (by first | exact Or.inl rfl | exact Or.inr rfl) (pe_op (r := rCatA K) op_catA (pv 7) (pe_tup (pa_cons (pe_tup (pa_cons pe_str (pa_cons (pe_tup (pa_cons (pe_tup (pa_cons (pe_tup (pa_cons pe_str pa_nil)) pa_nil)) (pa_cons (pe_tup (pa_cons (pe_tup (pa_cons pe_str (pa_cons (pe_tup (pa_cons (pe_tup (pa_cons (pe_ix (r := rIxL K) ix_list (pv 1) pe_int (fun _ _ => rfl)) (pa_cons (pe_ix (r := rIxL K) ix_list (pv 1) pe_int (fun _ _ => rfl)) (pa_cons (pe_tup pa_nil) pa_nil)))) pa_nil)) pa_nil))) pa_nil)) pa_nil))) pa_nil))) pa_nil)))))
      pss_nil)
    (pss_one (ps_ret (pe_lst (pa_cons (pv 7) (pa_cons (pv 3) (pa_cons (pv 4) pa_nil)))))))))))))), ?_⟩
  match vs, a2 with
  | [v0, v1], ⟨p0, p1, _⟩ =>
  have W : ∀ {Γ : Gam (FG Pt x)}, Γ[1]? = some (some (.ol K H (wL x.ws))) → ∀ i : Nat, i < 11 → TyE (FG Pt x) H Γ (tOp (rIxL K) (tVar 1) (tC (.int (i : Nat)))) (.dt K tyW) := fun h i hi => ty_w x.ok (ls_ol (ty_var h) fun _ p => p) i hi
  have WX : ∀ {Γ : Gam (FG Pt x)}, Γ[1]? = some (some (.ol K H (wL x.ws))) → ∀ i : Nat, i < 11 → TyE (FG Pt x) H Γ (tOp (rIxL K) (tVar 1) (tC (.int (i : Nat)))) (.dt K (· = .str (wn x.ws i))) := fun h i hi => ty_wx x.ok (ls_ol (ty_var h) fun _ p => p) i hi
  refine ty_go (Γ := [some (.eq (.ref x.A)), some (.ol K H (wL x.ws)), none, none, none, none, none, none]) g ⟨⟨_, rfl, p0⟩, ⟨_, rfl, ol_of p1⟩, trivial⟩ ?_ hQ
  exact (tr_seq (tn_set (g_digits rfl ty_r24))
    (tr_seq (tn_set (ty_blk (db_cons (ty_tell (lp := false) (W rfl 3 (by decide)) (ty_dg (ls_nls (ty_var rfl) fun _ p => p) ty_int (i_c (n := 2) (by decide)))) (db_cons (ty_hear (lp := false) (W rfl 5 (by decide)) (W rfl 7 (by decide))) (db_nil (lp := false))))))
    (tr_seq (tn_set (ty_catB (ty_var rfl) (ty_blk (db_cons (g_test rfl (ty_name (W rfl 7 (by decide))) (ty_dg (ls_nls (ty_var rfl) fun _ p => p) (ty_drawL 2 rfl) (fun _ h => h)) (ty_dg (ls_nls (ty_var rfl) fun _ p => p) ty_int (i_c (n := 2) (by decide)))) (db_nil (lp := false))))))
    (tr_seq (tn_set (ty_blk (db_cons (ty_tell (lp := false) (W rfl 4 (by decide)) (ty_dg (ls_nls (ty_var rfl) fun _ p => p) ty_int (i_c (n := 2) (by decide)))) (db_nil (lp := false)))))
    (tr_seq (tn_set (ty_blk (db_cons (ty_oS (g_answers rfl (W rfl 5 (by decide)) ty_r24 (W rfl 9 (by decide)) (ls_nls (ty_var rfl) fun _ p => p))) (db_nil (lp := false)))))
    (tr_seq (tn_set (ty_blk (db_cons (ty_hear (lp := false) (W rfl 3 (by decide)) (W rfl 10 (by decide))) (db_cons (ty_oS (g_answers rfl (W rfl 5 (by decide)) (ty_addR 2 4 (ty_drawL 2 rfl)) (W rfl 9 (by decide)) (ls_nls (ty_var rfl) fun _ p => p))) (db_nil (lp := false))))))
    (tr_seq (tn_set (ty_blk (db_cons (ty_wait (m := 2) (ty_rows (dr_cons (ty_row (WX rfl 3 (by decide)) (x.ok.at (by decide)).2 (W rfl 9 (by decide)) (ty_var rfl)) (dr_cons (ty_row (WX rfl 4 (by decide)) (x.ok.at (by decide)).2 (W rfl 9 (by decide)) (ty_var rfl)) (dr_nil (lp := false))))) (nd2 (x.ok.ne (by decide) (by decide) (by decide)))) (db_nil (lp := false)))))
    (tr_fork (tt_any (tt_eq (ty_drawL 2 rfl) ty_int)) (tn_set (ty_catB (ty_var rfl) (ty_blk (db_cons (ty_oS (ty_opn (ty_blks (dk_cons (ty_blk (db_cons (ty_home (lp := false)) (db_nil (lp := false)))) (dk_cons (ty_blk (db_cons (ty_wait (m := 1) (ty_rows (dr_cons (ty_row (WX rfl 4 (by decide)) (x.ok.at (by decide)).2 (W rfl 9 (by decide)) (ty_blk (db_nil (lp := false)))) (dr_nil (lp := false)))) (by simp)) (db_nil (lp := false)))) (dk_nil (lp := false))))))) (db_nil (lp := false))))))
    (tr_ret3 (ty_var rfl) (ty_var rfl) (ty_var rfl))
    (tr_ret3 (ty_var rfl) (ty_var rfl) (ty_var rfl))))))))))

theorem sc_law_count : FnScope ["_law_pot_here", "_law_w", "_law_digits_here", "_law_test_here", "_law_rows", "_law_foe", "_law_short", "_law_long", "_law_own", "_law_last"] ["_law_pot_here", "_law_w"] (fnScope s_law_count) := ⟨rfl, rfl, rfl, by decide +kernel, rfl, by decide +kernel, by decide +kernel⟩
theorem c_law_count (T : Tx w K mg) : Cal P w K mg base 5 "_law_count" (spGen K Pt) [] := by
  have c_law_draw := c_law_draw (P := P) (base := base) (Pt := Pt) T
  have c_law_digits := c_law_digits (P := P) (base := base) (Pt := Pt) T
  have c_law_test := c_law_test (P := P) (base := base) (Pt := Pt) T
  refine T.d_law_count.cal sc_law_count (fun F => ⟨[], .nil, F.bindsN fun _ _ _ _ _ _ us hl => match us, hl with | [_, _], _ => rfl⟩) (by rintro vs H Q E ⟨x, _, a2, _⟩; exact all2_len a2) fun f cdv Ar outer s H vs Q E hr h => ?_
  obtain ⟨x, g, a2, hQ⟩ := h
  refine ⟨_, (pss_cons (ps_set (i := 2) sc_law_count.nd rfl (by first | exact Or.inl rfl | exact Or.inr rfl) (pe_c c_law_digits hr (by omega) rfl (pa_cons (pv 0) (pa_cons pe_int pa_nil))))
    (pss_cons (ps_set (i := 3) sc_law_count.nd rfl (by first | exact Or.inl rfl | exact Or.inr rfl) (pe_c c_law_test hr (by omega) rfl (pa_cons (pv 0) (pa_cons (pe_tup (pa_cons pe_str (pa_cons (pe_ix (r := rIxL K) ix_list (pv 1) pe_int (fun _ _ => rfl)) pa_nil))) (pa_cons (pe_ix (r := rIxL K) ix_list (pv 2) (pe_c c_law_draw hr (by omega) rfl (pa_cons (pv 0) (pa_cons pe_int pa_nil))) (fun _ _ => rfl)) (pa_cons (pe_ix (r := rIxL K) ix_list (pv 2) pe_int (fun _ _ => rfl)) pa_nil))))))
    (pss_cons (ps_set (i := 4) sc_law_count.nd rfl (by first | exact Or.inl rfl | exact Or.inr rfl) (pe_tup (pa_cons (pe_tup (pa_cons (pe_ix (r := rIxL K) ix_list (pv 1) pe_int (fun _ _ => rfl)) (pa_cons (pe_ix (r := rIxL K) ix_list (pv 1) pe_int (fun _ _ => rfl)) (pa_cons (pe_tup (pa_cons (pv 3) pa_nil)) pa_nil)))) (pa_cons (pe_tup (pa_cons (pe_ix (r := rIxL K) ix_list (pv 1) pe_int (fun _ _ => rfl)) (pa_cons (pe_ix (r := rIxL K) ix_list (pv 1) pe_int (fun _ _ => rfl)) (pa_cons (pe_tup (pa_cons (pe_tup (pa_cons pe_str (pa_cons (pe_ix (r := rIxL K) ix_list (pv 1) pe_int (fun _ _ => rfl)) (pa_cons (pe_tup (pa_cons pe_str (pa_cons (pe_tup (pa_cons pe_str (pa_cons (pe_ix (r := rIxL K) ix_list (pv 1) pe_int (fun _ _ => rfl)) pa_nil))) (pa_cons pe_int pa_nil)))) pa_nil)))) pa_nil)) pa_nil)))) pa_nil))))
    (pss_cons (ps_set (i := 5) sc_law_count.nd rfl (by first | exact Or.inl rfl | exact Or.inr rfl) (pe_tup (pa_cons (pe_tup (pa_cons pe_str (pa_cons (pe_tup (pa_cons (pe_tup (pa_cons pe_str (pa_cons (pv 4) pa_nil))) pa_nil)) pa_nil))) pa_nil)))
    (pss_cons (ps_set (i := 6) sc_law_count.nd rfl (by first | exact Or.inl rfl | exact Or.inr rfl) (pe_tup (pa_cons (pe_tup (pa_cons pe_str (pa_cons (pe_ix (r := rIxL K) ix_list (pv 1) pe_int (fun _ _ => rfl)) (pa_cons (pe_ix (r := rIxL K) ix_list (pv 2) (pe_c c_law_draw hr (by omega) rfl (pa_cons (pv 0) (pa_cons pe_int pa_nil))) (fun _ _ => rfl)) pa_nil)))) pa_nil)))
    (pss_cons (ps_set (i := 7) sc_law_count.nd rfl (by first | exact Or.inl rfl | exact Or.inr rfl) (pe_tup (pa_cons (pe_tup (pa_cons pe_str (pa_cons (pe_ix (r := rIxL K) ix_list (pv 1) pe_int (fun _ _ => rfl)) (pa_cons (pe_ix (r := rIxL K) ix_list (pv 2) pe_int (fun _ _ => rfl)) pa_nil)))) (pa_cons (pe_tup (pa_cons pe_str (pa_cons (pe_ix (r := rIxL K) ix_list (pv 1) pe_int (fun _ _ => rfl)) (pa_cons (pe_ix (r := rIxL K) ix_list (pv 1) pe_int (fun _ _ => rfl)) pa_nil)))) pa_nil))))
    (pss_cons (ps_set (i := 8) sc_law_count.nd rfl (by first | exact Or.inl rfl | exact Or.inr rfl) (pe_tup (pa_cons (pe_tup (pa_cons pe_str (pa_cons (pe_slice sl_tupA (pe_tup (pa_cons (pe_op (r := rCatA K) op_catA (pv 7) (pv 6)) (pa_cons (pv 6) (pa_cons (pe_tup pa_nil) pa_nil)))) (po_some (pe_c c_law_draw hr (by omega) rfl (pa_cons (pv 0) (pa_cons pe_int pa_nil)))) po_none) pa_nil))) pa_nil)))
    (pss_cons (ps_set (i := 9) sc_law_count.nd rfl (by first | exact Or.inl rfl | exact Or.inr rfl) (pe_tup (pa_cons (pe_tup (pa_cons pe_str (pa_cons (pe_ix (r := rIxL K) ix_list (pv 1) pe_int (fun _ _ => rfl)) (pa_cons (pe_tup (pa_cons pe_str (pa_cons (pe_ix (r := rIxL K) ix_list (pv 1) pe_int (fun _ _ => rfl)) pa_nil))) pa_nil)))) pa_nil)))
    (pss_cons (ps_set (i := 8) sc_law_count.nd rfl (by first | exact Or.inl rfl | exact Or.inr rfl) (pe_op (r := rCatA K) op_catA (pv 8) (pe_tup (pa_cons (pe_tup (pa_cons pe_str (pa_cons (pe_slice sl_tupA (pe_tup (pa_cons (pv 9) (pa_cons (pe_op (r := rCatA K) op_catA (pe_tup (pa_cons (pe_tup (pa_cons pe_str (pa_cons (pe_ix (r := rIxL K) ix_list (pv 1) pe_int (fun _ _ => rfl)) (pa_cons (pe_ix (r := rIxL K) ix_list (pv 2) pe_int (fun _ _ => rfl)) pa_nil)))) pa_nil)) (pv 6)) (pa_cons (pe_tup (pa_cons (pe_tup (pa_cons pe_str pa_nil)) pa_nil)) pa_nil)))) po_none (po_some (pe_op op_add pe_int (pe_c c_law_draw hr (by omega) rfl (pa_cons (pv 0) (pa_cons pe_int pa_nil)))))) pa_nil))) pa_nil))))
    (pss_one (ps_ret (pe_lst (pa_cons (pv 8) (pa_cons (pv 5) pa_nil)))))))))))))), ?_⟩
  match vs, a2 with
  | [v0, v1], ⟨p0, p1, _⟩ =>
  have W : ∀ {Γ : Gam (FG Pt x)}, Γ[1]? = some (some (.ol K H (wL x.ws))) → ∀ i : Nat, i < 11 → TyE (FG Pt x) H Γ (tOp (rIxL K) (tVar 1) (tC (.int (i : Nat)))) (.dt K tyW) := fun h i hi => ty_w x.ok (ls_ol (ty_var h) fun _ p => p) i hi
  have WX : ∀ {Γ : Gam (FG Pt x)}, Γ[1]? = some (some (.ol K H (wL x.ws))) → ∀ i : Nat, i < 11 → TyE (FG Pt x) H Γ (tOp (rIxL K) (tVar 1) (tC (.int (i : Nat)))) (.dt K (· = .str (wn x.ws i))) := fun h i hi => ty_wx x.ok (ls_ol (ty_var h) fun _ p => p) i hi
  refine ty_go (Γ := [some (.eq (.ref x.A)), some (.ol K H (wL x.ws)), none, none, none, none, none, none, none, none]) g ⟨⟨_, rfl, p0⟩, ⟨_, rfl, ol_of p1⟩, trivial⟩ ?_ hQ
  exact (tr_seq (tn_set (g_digits rfl ty_r24))
    (tr_seq (tn_set (g_test rfl (ty_name (W rfl 7 (by decide))) (ty_dg (ls_nls (ty_var rfl) fun _ p => p) (ty_drawL 2 rfl) (fun _ h => h)) (ty_dg (ls_nls (ty_var rfl) fun _ p => p) ty_int (i_c (n := 2) (by decide)))))
    (tr_seq (tn_set (ty_rows (dr_cons (ty_row (WX rfl 3 (by decide)) (x.ok.at (by decide)).2 (W rfl 7 (by decide)) (ty_blk (db_cons (ty_var rfl) (db_nil (lp := false))))) (dr_cons (ty_row (WX rfl 4 (by decide)) (x.ok.at (by decide)).2 (W rfl 8 (by decide)) (ty_blk (db_cons (ty_tell (lp := false) (W rfl 5 (by decide)) (ty_bin .plus (ty_name (W rfl 8 (by decide))) ty_lit)) (db_nil (lp := false))))) (dr_nil (lp := false))))))
    (tr_seq (tn_set (ty_blk (db_cons (ty_rep (lp := false) (ty_blk (db_cons (ty_wait (m := 2) (ty_lpR (ty_var rfl)) (nd2 (x.ok.ne (by decide) (by decide) (by decide)))) (db_nil (lp := true))))) (db_nil (lp := false)))))
    (tr_seq (tn_set (ty_blk (db_cons (ty_tell (lp := false) (W rfl 3 (by decide)) (ty_dg (ls_nls (ty_var rfl) fun _ p => p) (ty_drawL 2 rfl) (fun _ h => h))) (db_nil (lp := false)))))
    (tr_seq (tn_set (ty_blk (db_cons (ty_tell (lp := false) (W rfl 4 (by decide)) (ty_dg (ls_nls (ty_var rfl) fun _ p => p) ty_int (i_c (n := 2) (by decide)))) (db_cons (ty_hear (lp := false) (W rfl 5 (by decide)) (W rfl 9 (by decide))) (db_nil (lp := false))))))
    (tr_seq (tn_set (ty_blk (db_cons (ty_oS (ty_opn (ty_cutLo 1 (ty_blks (dk_cons (ty_catB (ty_var rfl) (ty_var rfl)) (dk_cons (ty_var rfl) (dk_cons (ty_blk (db_nil (lp := false))) (dk_nil (lp := false)))))) (ty_drawL 2 rfl) (fun i h => by unfold rg at h; omega)))) (db_nil (lp := false)))))
    (tr_seq (tn_set (ty_blk (db_cons (ty_tell (lp := false) (W rfl 3 (by decide)) (ty_name (W rfl 9 (by decide)))) (db_nil (lp := false)))))
    (tr_seq (tn_set (ty_catB (ty_var rfl) (ty_blk (db_cons (ty_oS (ty_opn (ty_cutHi 2 (ty_blks (dk_cons (ty_var rfl) (dk_cons (ty_catB (ty_blk (db_cons (ty_tell (lp := false) (W rfl 3 (by decide)) (ty_dg (ls_nls (ty_var rfl) fun _ p => p) ty_int (i_c (n := 2) (by decide)))) (db_nil (lp := false)))) (ty_var rfl)) (dk_cons (ty_blk (db_cons (ty_home (lp := false)) (db_nil (lp := false)))) (dk_nil (lp := false)))))) (ty_addR 2 4 (ty_drawL 2 rfl)) (fun i h => by unfold rg at h; omega)))) (db_nil (lp := false))))))
    (tr_ret2 (ty_var rfl) (ty_var rfl)))))))))))

theorem sc_law_stuck : FnScope ["_law_pot_here", "_law_w", "_law_digits_here", "_law_give", "_law_take", "_law_foe", "_law_own", "_law_gives", "_law_takes"] ["_law_pot_here", "_law_w"] (fnScope s_law_stuck) := ⟨rfl, rfl, rfl, by decide +kernel, rfl, by decide +kernel, by decide +kernel⟩
theorem c_law_stuck (T : Tx w K mg) : Cal P w K mg base 5 "_law_stuck" (spGen K Pt) [] := by
  have c_law_draw := c_law_draw (P := P) (base := base) (Pt := Pt) T
  have c_law_digits := c_law_digits (P := P) (base := base) (Pt := Pt) T
  have c_law_picked := c_law_picked (P := P) (base := base) (Pt := Pt) T
  have c_law_test := c_law_test (P := P) (base := base) (Pt := Pt) T
  refine T.d_law_stuck.cal sc_law_stuck (fun F => ⟨[], .nil, F.bindsN fun _ _ _ _ _ _ us hl => match us, hl with | [_, _], _ => rfl⟩) (by rintro vs H Q E ⟨x, _, a2, _⟩; exact all2_len a2) fun f cdv Ar outer s H vs Q E hr h => ?_
  obtain ⟨x, g, a2, hQ⟩ := h
  refine ⟨_, (pss_cons (ps_set (i := 2) sc_law_stuck.nd rfl (by first | exact Or.inl rfl | exact Or.inr rfl) (pe_c c_law_digits hr (by omega) rfl (pa_cons (pv 0) (pa_cons pe_int pa_nil))))
    (pss_cons (ps_set (i := 3) sc_law_stuck.nd rfl (by first | exact Or.inl rfl | exact Or.inr rfl) (pe_tup (pa_cons (pe_tup (pa_cons pe_str (pa_cons (pe_ix (r := rIxL K) ix_list (pv 1) pe_int (fun _ _ => rfl)) (pa_cons (pe_ix (r := rIxL K) ix_list (pv 2) pe_int (fun _ _ => rfl)) pa_nil)))) (pa_cons (pe_tup (pa_cons pe_str (pa_cons (pe_ix (r := rIxL K) ix_list (pv 1) pe_int (fun _ _ => rfl)) (pa_cons (pe_ix (r := rIxL K) ix_list (pv 1) pe_int (fun _ _ => rfl)) pa_nil)))) pa_nil))))
    (pss_cons (ps_set (i := 4) sc_law_stuck.nd rfl (by first | exact Or.inl rfl | exact Or.inr rfl) (pe_tup (pa_cons (pe_tup (pa_cons pe_str (pa_cons (pe_ix (r := rIxL K) ix_list (pv 1) pe_int (fun _ _ => rfl)) (pa_cons (pe_ix (r := rIxL K) ix_list (pv 1) pe_int (fun _ _ => rfl)) pa_nil)))) (pa_cons (pe_tup (pa_cons pe_str (pa_cons (pe_ix (r := rIxL K) ix_list (pv 1) pe_int (fun _ _ => rfl)) (pa_cons (pe_tup (pa_cons pe_str (pa_cons (pe_tup (pa_cons pe_str (pa_cons (pe_ix (r := rIxL K) ix_list (pv 1) pe_int (fun _ _ => rfl)) pa_nil))) (pa_cons (pe_c c_law_draw hr (by omega) rfl (pa_cons (pv 0) (pa_cons pe_int pa_nil))) pa_nil)))) pa_nil)))) pa_nil))))
    (pss_cons (ps_set (i := 5) sc_law_stuck.nd rfl (by first | exact Or.inl rfl | exact Or.inr rfl) (pe_lst (pa_cons (pe_c c_law_picked hr (by omega) rfl (pa_cons (pe_ix (r := rIxL K) ix_list (pv 1) pe_int (fun _ _ => rfl)) (pa_cons (pe_lst (pa_cons pe_int (pa_cons pe_int pa_nil))) pa_nil))) pa_nil)))
    (pss_cons (ps_set (i := 6) sc_law_stuck.nd rfl (by first | exact Or.inl rfl | exact Or.inr rfl) (pe_lst pa_nil))
    (pss_cons (ps_if (pt_cmpR op_eq (pe_c c_law_draw hr (by omega) rfl (pa_cons (pv 0) (pa_cons pe_int pa_nil))) pe_int (nomark _))
      (pss_cons (ps_expr (pe_bm PySem.F.plainAttrs_list PySem.F.slot_list_append PySem.F.type_list_append mt_append (pv 5) (pa_cons (pe_tup (pa_cons pe_str (pa_cons (pe_ix (r := rIxL K) ix_list (pv 1) pe_int (fun _ _ => rfl)) (pa_cons (pe_tup (pa_cons pe_str (pa_cons (pe_ix (r := rIxL K) ix_list (pv 1) pe_int (fun _ _ => rfl)) pa_nil))) pa_nil)))) pa_nil)))
      (pss_one (ps_expr (pe_bm PySem.F.plainAttrs_list PySem.F.slot_list_append PySem.F.type_list_append mt_append (pv 6) (pa_cons (pe_tup (pa_cons pe_str (pa_cons (pe_ix (r := rIxL K) ix_list (pv 1) pe_int (fun _ _ => rfl)) (pa_cons (pe_ix (r := rIxL K) ix_list (pv 1) pe_int (fun _ _ => rfl)) pa_nil)))) pa_nil)))))
      pss_nil)
    (pss_cons (ps_set (i := 7) sc_law_stuck.nd rfl (by first | exact Or.inl rfl | exact Or.inr rfl) (pe_tup (pa_cons (pe_tup (pa_cons pe_str (pa_cons (pe_ix (r := rIxL K) ix_list (pv 1) pe_int (fun _ _ => rfl)) (pa_cons (pe_ix (r := rIxL K) ix_list (pv 2) pe_int (fun _ _ => rfl)) pa_nil)))) (pa_cons (pe_tup (pa_cons pe_str (pa_cons (pe_ix (r := rIxL K) ix_list (pv 1) pe_int (fun _ _ => rfl)) (pa_cons (pe_ix (r := rIxL K) ix_list (pv 1) pe_int (fun _ _ => rfl)) pa_nil)))) pa_nil))))
    (pss_cons (ps_set (i := 8) sc_law_stuck.nd rfl (by first | exact Or.inl rfl | exact Or.inr rfl) (pe_tup (pa_cons (pe_tup (pa_cons pe_str (pa_cons (pe_ix (r := rIxL K) ix_list (pv 1) pe_int (fun _ _ => rfl)) (pa_cons (pe_ix (r := rIxL K) ix_list (pv 1) pe_int (fun _ _ => rfl)) pa_nil)))) (pa_cons (pe_tup (pa_cons pe_str (pa_cons (pe_ix (r := rIxL K) ix_list (pv 1) pe_int (fun _ _ => rfl)) (pa_cons (pe_ix (r := rIxL K) ix_list (pv 2) pe_int (fun _ _ => rfl)) pa_nil)))) pa_nil))))
    (pss_cons (ps_expr (pe_bm PySem.F.plainAttrs_list PySem.F.slot_list_append PySem.F.type_list_append mt_append (pv 5) (pa_cons (pe_tup (pa_cons pe_str (pa_cons (pe_tup (pa_cons pe_str (pa_cons (pe_ix (r := rIxL K) ix_list (pv 1) pe_int (fun _ _ => rfl)) pa_nil))) (pa_cons (pv 7) (pa_cons (pv 8) pa_nil))))) pa_nil)))
    (pss_cons (ps_if (pt_cmpR op_eq (pe_c c_law_draw hr (by omega) rfl (pa_cons (pv 0) (pa_cons pe_int pa_nil))) pe_int (nomark _))
      (pss_one (ps_expr (pe_bm PySem.F.plainAttrs_list PySem.F.slot_list_append PySem.F.type_list_append mt_append (pv 5) (pa_cons (pe_c c_law_test hr (by omega) rfl (pa_cons (pv 0) (pa_cons (pe_tup (pa_cons pe_str (pa_cons (pe_ix (r := rIxL K) ix_list (pv 1) pe_int (fun _ _ => rfl)) pa_nil))) (pa_cons (pe_ix (r := rIxL K) ix_list (pv 2) pe_int (fun _ _ => rfl)) (pa_cons (pe_ix (r := rIxL K) ix_list (pv 2) pe_int (fun _ _ => rfl)) pa_nil))))) pa_nil))))
      pss_nil)
    (pss_cons (ps_expr (pe_bm PySem.F.plainAttrs_list PySem.F.slot_list_append PySem.F.type_list_append mt_append (pv 6) (pa_cons (pe_tup (pa_cons pe_str (pa_cons (pe_slice sl_tupA (pe_tup (pa_cons (pv 3) (pa_cons (pv 4) (pa_cons (pe_tup pa_nil) pa_nil)))) po_none (po_some (pe_op op_add pe_int (pe_c c_law_draw hr (by omega) rfl (pa_cons (pv 0) (pa_cons pe_int pa_nil)))))) pa_nil))) pa_nil)))
    (pss_one (ps_ret (pe_lst (pa_cons (pe_callTy call_tuple_of rfl T.z_tuple (by decide +kernel) (pa_cons (pv 6) pa_nil)) (pa_cons (pe_callTy call_tuple_of rfl T.z_tuple (by decide +kernel) (pa_cons (pv 5) pa_nil)) pa_nil)))))))))))))))), ?_⟩
  match vs, a2 with
  | [v0, v1], ⟨p0, p1, _⟩ =>
  have W : ∀ {Γ : Gam (FG Pt x)}, Γ[1]? = some (some (.ol K H (wL x.ws))) → ∀ i : Nat, i < 11 → TyE (FG Pt x) H Γ (tOp (rIxL K) (tVar 1) (tC (.int (i : Nat)))) (.dt K tyW) := fun h i hi => ty_w x.ok (ls_ol (ty_var h) fun _ p => p) i hi
  have WX : ∀ {Γ : Gam (FG Pt x)}, Γ[1]? = some (some (.ol K H (wL x.ws))) → ∀ i : Nat, i < 11 → TyE (FG Pt x) H Γ (tOp (rIxL K) (tVar 1) (tC (.int (i : Nat)))) (.dt K (· = .str (wn x.ws i))) := fun h i hi => ty_wx x.ok (ls_ol (ty_var h) fun _ p => p) i hi
  refine ty_go (Γ := [some (.eq (.ref x.A)), some (.ol K H (wL x.ws)), none, none, none, none, none, none, none]) g ⟨⟨_, rfl, p0⟩, ⟨_, rfl, ol_of p1⟩, trivial⟩ ?_ hQ
  exact (tr_new (K := K) (g_digits rfl ty_r24) fun a1 h1 =>
    (tr_seq (tn_set (ty_blk (db_cons (ty_tell (lp := false) (W rfl 3 (by decide)) (ty_dg (ls_at (ty_var rfl) fun _ p => p) ty_int (i_c (n := 2) (by decide)))) (db_cons (ty_hear (lp := false) (W rfl 4 (by decide)) (W rfl 9 (by decide))) (db_nil (lp := false))))))
    (tr_seq (tn_set (ty_blk (db_cons (ty_hear (lp := false) (W rfl 4 (by decide)) (W rfl 9 (by decide))) (db_cons (ty_tell (lp := false) (W rfl 3 (by decide)) (ty_bin .plus (ty_name (W rfl 9 (by decide))) (ty_iE (ty_drawL 2 rfl) fun i h => by unfold rg at h; omega))) (db_nil (lp := false))))))
    (tr_lst (K := K) (db_cons (g_picked (W rfl 7 (by decide)) (ty_dL (de_cons ty_lit (de_cons ty_lit de_nil)))) (db_nil (lp := false))) (fun ds hb => by obtain ⟨b, e, z⟩ := hb; rw [e, bd_len]; exact Nat.le_trans z.len (by decide)) fun a2 h2 n2 =>
    (tr_lst (K := K) (db_nil (lp := false)) (fun ds hb => by obtain ⟨b, e, z⟩ := hb; rw [e, bd_len]; exact Nat.le_trans z.len (by decide)) fun a3 h3 n3 =>
    (tr_fork (tt_any (tt_eq (ty_drawL 2 rfl) ty_int)) (tn_seq (tn_appS h2 rfl (ty_tell (lp := false) (W rfl 5 (by decide)) (ty_name (W rfl 7 (by decide)))) ⟨stb_eq, ⟨(stb_ol h2), ⟨(stb_at (n2 2 _ _ rfl)), ⟨stb_dt, ⟨stb_dt, ⟨(stb_at (Ne.symm (n3 5 _ _ rfl))), trivial⟩⟩⟩⟩⟩⟩) (tn_appS h3 rfl (ty_hear (lp := false) (W rfl 5 (by decide)) (W rfl 10 (by decide))) ⟨stb_eq, ⟨(stb_ol h3), ⟨(stb_at (n3 2 _ _ rfl)), ⟨stb_dt, ⟨stb_dt, ⟨(stb_at (n3 5 _ _ rfl)), trivial⟩⟩⟩⟩⟩⟩))
    (tr_seq (tn_set (ty_blk (db_cons (ty_tell (lp := false) (W rfl 4 (by decide)) (ty_dg (ls_at (ty_var rfl) fun _ p => p) ty_int (i_c (n := 2) (by decide)))) (db_cons (ty_hear (lp := false) (W rfl 3 (by decide)) (W rfl 8 (by decide))) (db_nil (lp := false))))))
      (tr_seq (tn_set (ty_blk (db_cons (ty_hear (lp := false) (W rfl 3 (by decide)) (W rfl 8 (by decide))) (db_cons (ty_tell (lp := false) (W rfl 4 (by decide)) (ty_dg (ls_at (ty_var rfl) fun _ p => p) ty_int (i_c (n := 2) (by decide)))) (db_nil (lp := false))))))
      (tr_seq (tn_appS h2 rfl (ty_iff (ty_name (W rfl 7 (by decide))) (ty_var rfl) (ty_var rfl)) ⟨stb_eq, ⟨(stb_ol h2), ⟨(stb_at (n2 2 _ _ rfl)), ⟨stb_dt, ⟨stb_dt, ⟨(stb_at (Ne.symm (n3 5 _ _ rfl))), ⟨stb_dt, ⟨stb_dt, trivial⟩⟩⟩⟩⟩⟩⟩⟩)
      (tr_fork (tt_any (tt_eq (ty_drawL 3 rfl) ty_int)) (tn_appS h2 rfl (g_test rfl (ty_name (W rfl 8 (by decide))) (ty_dg (ls_at (ty_var rfl) fun _ p => p) ty_int (i_c (n := 2) (by decide))) (ty_dg (ls_at (ty_var rfl) fun _ p => p) ty_int (i_c (n := 2) (by decide)))) ⟨stb_eq, ⟨(stb_ol h2), ⟨(stb_at (n2 2 _ _ rfl)), ⟨stb_dt, ⟨stb_dt, ⟨(stb_at (Ne.symm (n3 5 _ _ rfl))), ⟨stb_dt, ⟨stb_dt, trivial⟩⟩⟩⟩⟩⟩⟩⟩)
      (tr_seq (tn_appS h3 rfl (ty_oS (ty_opn (ty_cutHi 2 (ty_blks (dk_cons (ty_var rfl) (dk_cons (ty_var rfl) (dk_cons (ty_blk (db_nil (lp := false))) (dk_nil (lp := false)))))) (ty_addR 2 4 (ty_drawL 2 rfl)) (fun i h => by unfold rg at h; omega)))) ⟨stb_eq, ⟨(stb_ol h3), ⟨(stb_at (n3 2 _ _ rfl)), ⟨stb_dt, ⟨stb_dt, ⟨(stb_at (n3 5 _ _ rfl)), ⟨stb_dt, ⟨stb_dt, trivial⟩⟩⟩⟩⟩⟩⟩⟩)
        (tr_ret2 (ty_tupB (ls_at (ty_var rfl) fun _ p => p)) (ty_tupB (ls_at (ty_var rfl) fun _ p => p))))
      (tr_seq (tn_appS h3 rfl (ty_oS (ty_opn (ty_cutHi 2 (ty_blks (dk_cons (ty_var rfl) (dk_cons (ty_var rfl) (dk_cons (ty_blk (db_nil (lp := false))) (dk_nil (lp := false)))))) (ty_addR 2 4 (ty_drawL 2 rfl)) (fun i h => by unfold rg at h; omega)))) ⟨stb_eq, ⟨(stb_ol h3), ⟨(stb_at (n3 2 _ _ rfl)), ⟨stb_dt, ⟨stb_dt, ⟨(stb_at (n3 5 _ _ rfl)), ⟨stb_dt, ⟨stb_dt, trivial⟩⟩⟩⟩⟩⟩⟩⟩)
        (tr_ret2 (ty_tupB (ls_at (ty_var rfl) fun _ p => p)) (ty_tupB (ls_at (ty_var rfl) fun _ p => p))))))))
    (tr_seq (tn_set (ty_blk (db_cons (ty_tell (lp := false) (W rfl 4 (by decide)) (ty_dg (ls_at (ty_var rfl) fun _ p => p) ty_int (i_c (n := 2) (by decide)))) (db_cons (ty_hear (lp := false) (W rfl 3 (by decide)) (W rfl 8 (by decide))) (db_nil (lp := false))))))
      (tr_seq (tn_set (ty_blk (db_cons (ty_hear (lp := false) (W rfl 3 (by decide)) (W rfl 8 (by decide))) (db_cons (ty_tell (lp := false) (W rfl 4 (by decide)) (ty_dg (ls_at (ty_var rfl) fun _ p => p) ty_int (i_c (n := 2) (by decide)))) (db_nil (lp := false))))))
      (tr_seq (tn_appS h2 rfl (ty_iff (ty_name (W rfl 7 (by decide))) (ty_var rfl) (ty_var rfl)) ⟨stb_eq, ⟨(stb_ol h2), ⟨(stb_at (n2 2 _ _ rfl)), ⟨stb_dt, ⟨stb_dt, ⟨(stb_at (Ne.symm (n3 5 _ _ rfl))), ⟨stb_dt, ⟨stb_dt, trivial⟩⟩⟩⟩⟩⟩⟩⟩)
      (tr_fork (tt_any (tt_eq (ty_drawL 3 rfl) ty_int)) (tn_appS h2 rfl (g_test rfl (ty_name (W rfl 8 (by decide))) (ty_dg (ls_at (ty_var rfl) fun _ p => p) ty_int (i_c (n := 2) (by decide))) (ty_dg (ls_at (ty_var rfl) fun _ p => p) ty_int (i_c (n := 2) (by decide)))) ⟨stb_eq, ⟨(stb_ol h2), ⟨(stb_at (n2 2 _ _ rfl)), ⟨stb_dt, ⟨stb_dt, ⟨(stb_at (Ne.symm (n3 5 _ _ rfl))), ⟨stb_dt, ⟨stb_dt, trivial⟩⟩⟩⟩⟩⟩⟩⟩)
      (tr_seq (tn_appS h3 rfl (ty_oS (ty_opn (ty_cutHi 2 (ty_blks (dk_cons (ty_var rfl) (dk_cons (ty_var rfl) (dk_cons (ty_blk (db_nil (lp := false))) (dk_nil (lp := false)))))) (ty_addR 2 4 (ty_drawL 2 rfl)) (fun i h => by unfold rg at h; omega)))) ⟨stb_eq, ⟨(stb_ol h3), ⟨(stb_at (n3 2 _ _ rfl)), ⟨stb_dt, ⟨stb_dt, ⟨(stb_at (n3 5 _ _ rfl)), ⟨stb_dt, ⟨stb_dt, trivial⟩⟩⟩⟩⟩⟩⟩⟩)
        (tr_ret2 (ty_tupB (ls_at (ty_var rfl) fun _ p => p)) (ty_tupB (ls_at (ty_var rfl) fun _ p => p))))
      (tr_seq (tn_appS h3 rfl (ty_oS (ty_opn (ty_cutHi 2 (ty_blks (dk_cons (ty_var rfl) (dk_cons (ty_var rfl) (dk_cons (ty_blk (db_nil (lp := false))) (dk_nil (lp := false)))))) (ty_addR 2 4 (ty_drawL 2 rfl)) (fun i h => by unfold rg at h; omega)))) ⟨stb_eq, ⟨(stb_ol h3), ⟨(stb_at (n3 2 _ _ rfl)), ⟨stb_dt, ⟨stb_dt, ⟨(stb_at (n3 5 _ _ rfl)), ⟨stb_dt, ⟨stb_dt, trivial⟩⟩⟩⟩⟩⟩⟩⟩)
        (tr_ret2 (ty_tupB (ls_at (ty_var rfl) fun _ p => p)) (ty_tupB (ls_at (ty_var rfl) fun _ p => p))))))))))))))

theorem sc_law_echo : FnScope ["_law_pot_here", "_law_w", "_law_digits_here", "_law_back", "_law_slip", "_law_one", "_law_two", "_law_more", "_law_own"] ["_law_pot_here", "_law_w"] (fnScope s_law_echo) := ⟨rfl, rfl, rfl, by decide +kernel, rfl, by decide +kernel, by decide +kernel⟩
theorem c_law_echo (T : Tx w K mg) : Cal P w K mg base 5 "_law_echo" (spGen K Pt) [] := by
  have c_law_draw := c_law_draw (P := P) (base := base) (Pt := Pt) T
  have c_law_digits := c_law_digits (P := P) (base := base) (Pt := Pt) T
  have c_law_test := c_law_test (P := P) (base := base) (Pt := Pt) T
  have c_law_answers := c_law_answers (P := P) (base := base) (Pt := Pt) T
  refine T.d_law_echo.cal sc_law_echo (fun F => ⟨[], .nil, F.bindsN fun _ _ _ _ _ _ us hl => match us, hl with | [_, _], _ => rfl⟩) (by rintro vs H Q E ⟨x, _, a2, _⟩; exact all2_len a2) fun f cdv Ar outer s H vs Q E hr h => ?_
  obtain ⟨x, g, a2, hQ⟩ := h
  refine ⟨_, (pss_cons (ps_set (i := 2) sc_law_echo.nd rfl (by first | exact Or.inl rfl | exact Or.inr rfl) (pe_c c_law_digits hr (by omega) rfl (pa_cons (pv 0) (pa_cons pe_int pa_nil))))
    (pss_cons (ps_set (i := 3) sc_law_echo.nd rfl (by first | exact Or.inl rfl | exact Or.inr rfl) (pe_tup (pa_cons (pe_tup (pa_cons pe_str (pa_cons (pe_ix (r := rIxL K) ix_list (pv 1) pe_int (fun _ _ => rfl)) (pa_cons (pe_tup (pa_cons pe_str (pa_cons (pe_ix (r := rIxL K) ix_list (pv 1) pe_int (fun _ _ => rfl)) pa_nil))) pa_nil)))) pa_nil)))
    (pss_cons (ps_set (i := 4) sc_law_echo.nd rfl (by first | exact Or.inl rfl | exact Or.inr rfl) (pe_tup (pa_cons (pe_tup (pa_cons pe_str (pa_cons (pe_ix (r := rIxL K) ix_list (pv 1) pe_int (fun _ _ => rfl)) (pa_cons pe_int pa_nil)))) (pa_cons (pe_tup (pa_cons pe_str (pa_cons (pe_ix (r := rIxL K) ix_list (pv 1) pe_int (fun _ _ => rfl)) (pa_cons (pe_tup (pa_cons pe_str (pa_cons (pe_tup (pa_cons pe_str (pa_cons (pe_ix (r := rIxL K) ix_list (pv 1) pe_int (fun _ _ => rfl)) pa_nil))) (pa_cons pe_int pa_nil)))) pa_nil)))) pa_nil))))
    (pss_cons (ps_set (i := 5) sc_law_echo.nd rfl (by first | exact Or.inl rfl | exact Or.inr rfl) (pe_tup (pa_cons (pe_tup (pa_cons pe_str (pa_cons (pe_tup (pa_cons (pe_tup (pa_cons pe_str (pa_cons (pe_ix (r := rIxL K) ix_list (pv 1) pe_int (fun _ _ => rfl)) (pa_cons (pe_ix (r := rIxL K) ix_list (pv 1) pe_int (fun _ _ => rfl)) pa_nil)))) (pa_cons (pe_tup (pa_cons pe_str (pa_cons (pe_tup (pa_cons pe_str (pa_cons (pe_ix (r := rIxL K) ix_list (pv 1) pe_int (fun _ _ => rfl)) pa_nil))) (pa_cons (pv 3) (pa_cons (pe_tup (pa_cons (pe_tup (pa_cons pe_str (pa_cons (pe_tup (pa_cons (pv 3) (pa_cons (pv 4) pa_nil))) pa_nil))) pa_nil)) pa_nil))))) pa_nil))) pa_nil))) pa_nil)))
    (pss_cons (ps_set (i := 6) sc_law_echo.nd rfl (by first | exact Or.inl rfl | exact Or.inr rfl) (pe_tup (pa_cons (pe_tup (pa_cons pe_str (pa_cons (pe_ix (r := rIxL K) ix_list (pv 1) pe_int (fun _ _ => rfl)) (pa_cons (pe_ix (r := rIxL K) ix_list (pv 1) pe_int (fun _ _ => rfl)) pa_nil)))) (pa_cons (pe_c c_law_test hr (by omega) rfl (pa_cons (pv 0) (pa_cons (pe_tup (pa_cons pe_str (pa_cons (pe_ix (r := rIxL K) ix_list (pv 1) pe_int (fun _ _ => rfl)) pa_nil))) (pa_cons (pe_ix (r := rIxL K) ix_list (pv 2) pe_int (fun _ _ => rfl)) (pa_cons (pe_ix (r := rIxL K) ix_list (pv 2) pe_int (fun _ _ => rfl)) pa_nil))))) pa_nil))))
    (pss_cons (ps_set (i := 7) sc_law_echo.nd rfl (by first | exact Or.inl rfl | exact Or.inr rfl) (pe_tup (pa_cons (pe_tup (pa_cons pe_str (pa_cons (pe_ix (r := rIxL K) ix_list (pv 1) pe_int (fun _ _ => rfl)) (pa_cons (pe_ix (r := rIxL K) ix_list (pv 2) pe_int (fun _ _ => rfl)) pa_nil)))) (pa_cons (pe_tup (pa_cons pe_str (pa_cons (pe_ix (r := rIxL K) ix_list (pv 1) pe_int (fun _ _ => rfl)) (pa_cons (pe_ix (r := rIxL K) ix_list (pv 1) pe_int (fun _ _ => rfl)) pa_nil)))) pa_nil))))
    (pss_cons (ps_set (i := 8) sc_law_echo.nd rfl (by first | exact Or.inl rfl | exact Or.inr rfl) (pe_tup (pa_cons (pe_tup (pa_cons pe_str (pa_cons (pe_ix (r := rIxL K) ix_list (pv 1) pe_int (fun _ _ => rfl)) (pa_cons (pe_ix (r := rIxL K) ix_list (pv 2) pe_int (fun _ _ => rfl)) pa_nil)))) (pa_cons (pe_tup (pa_cons pe_str (pa_cons (pe_ix (r := rIxL K) ix_list (pv 1) pe_int (fun _ _ => rfl)) (pa_cons (pe_ix (r := rIxL K) ix_list (pv 1) pe_int (fun _ _ => rfl)) pa_nil)))) pa_nil))))
    (pss_cons (ps_if (pt_cmpR op_eq (pe_c c_law_draw hr (by omega) rfl (pa_cons (pv 0) (pa_cons pe_int pa_nil))) pe_int (nomark _))
      (pss_one (ps_set (i := 8) sc_law_echo.nd rfl (by first | exact Or.inl rfl | exact Or.inr rfl) (pe_op (r := rCatA K) op_catA (pv 8) (pe_tup (pa_cons (pe_tup (pa_cons pe_str (pa_cons (pe_tup (pa_cons (pe_tup pa_nil) (pa_cons (pv 7) pa_nil))) pa_nil))) pa_nil)))))
      pss_nil)
    (pss_cons (ps_set (i := 8) sc_law_echo.nd rfl (by first | exact Or.inl rfl | exact Or.inr rfl) (pe_op (r := rCatA K) op_catA (pv 8) (pe_tup (pa_cons (pe_c c_law_answers hr (by omega) rfl (pa_cons (pv 0) (pa_cons (pe_ix (r := rIxL K) ix_list (pv 1) pe_int (fun _ _ => rfl)) (pa_cons (pe_op op_add pe_int (pe_c c_law_draw hr (by omega) rfl (pa_cons (pv 0) (pa_cons pe_int pa_nil)))) (pa_cons (pe_ix (r := rIxL K) ix_list (pv 1) pe_int (fun _ _ => rfl)) (pa_cons (pv 2) pa_nil)))))) pa_nil))))
    (pss_one (ps_ret (pe_lst (pa_cons (pv 8) (pa_cons (pv 5) (pa_cons (pv 6) pa_nil))))))))))))))), ?_⟩
  match vs, a2 with
  | [v0, v1], ⟨p0, p1, _⟩ =>
  have W : ∀ {Γ : Gam (FG Pt x)}, Γ[1]? = some (some (.ol K H (wL x.ws))) → ∀ i : Nat, i < 11 → TyE (FG Pt x) H Γ (tOp (rIxL K) (tVar 1) (tC (.int (i : Nat)))) (.dt K tyW) := fun h i hi => ty_w x.ok (ls_ol (ty_var h) fun _ p => p) i hi
  have WX : ∀ {Γ : Gam (FG Pt x)}, Γ[1]? = some (some (.ol K H (wL x.ws))) → ∀ i : Nat, i < 11 → TyE (FG Pt x) H Γ (tOp (rIxL K) (tVar 1) (tC (.int (i : Nat)))) (.dt K (· = .str (wn x.ws i))) := fun h i hi => ty_wx x.ok (ls_ol (ty_var h) fun _ p => p) i hi
  refine ty_go (Γ := [some (.eq (.ref x.A)), some (.ol K H (wL x.ws)), none, none, none, none, none, none, none]) g ⟨⟨_, rfl, p0⟩, ⟨_, rfl, ol_of p1⟩, trivial⟩ ?_ hQ
  exact (tr_seq (tn_set (g_digits rfl ty_r24))
    (tr_seq (tn_set (ty_blk (db_cons (ty_tell (lp := false) (W rfl 4 (by decide)) (ty_name (W rfl 7 (by decide)))) (db_nil (lp := false)))))
    (tr_seq (tn_set (ty_blk (db_cons (ty_set (lp := false) (W rfl 8 (by decide)) ty_lit) (db_cons (ty_tell (lp := false) (W rfl 4 (by decide)) (ty_bin .plus (ty_name (W rfl 7 (by decide))) ty_lit)) (db_nil (lp := false))))))
    (tr_seq (tn_set (ty_blk (db_cons (ty_rep (lp := false) (ty_blk (db_cons (ty_hear (lp := true) (W rfl 3 (by decide)) (W rfl 7 (by decide))) (db_cons (ty_iff (ty_name (W rfl 8 (by decide))) (ty_lpB (ty_var rfl)) (ty_blk (db_cons (ty_oS (ty_opn (ty_blks (dk_cons (ty_lpB (ty_var rfl)) (dk_cons (ty_lpB (ty_var rfl)) (dk_nil (lp := true))))))) (db_nil (lp := true))))) (db_nil (lp := true)))))) (db_nil (lp := false)))))
    (tr_seq (tn_set (ty_blk (db_cons (ty_hear (lp := false) (W rfl 5 (by decide)) (W rfl 8 (by decide))) (db_cons (g_test rfl (ty_name (W rfl 8 (by decide))) (ty_dg (ls_nls (ty_var rfl) fun _ p => p) ty_int (i_c (n := 2) (by decide))) (ty_dg (ls_nls (ty_var rfl) fun _ p => p) ty_int (i_c (n := 2) (by decide)))) (db_nil (lp := false))))))
    (tr_seq (tn_set (ty_blk (db_cons (ty_tell (lp := false) (W rfl 3 (by decide)) (ty_dg (ls_nls (ty_var rfl) fun _ p => p) ty_int (i_c (n := 2) (by decide)))) (db_cons (ty_hear (lp := false) (W rfl 4 (by decide)) (W rfl 10 (by decide))) (db_nil (lp := false))))))
    (tr_seq (tn_set (ty_blk (db_cons (ty_tell (lp := false) (W rfl 3 (by decide)) (ty_dg (ls_nls (ty_var rfl) fun _ p => p) ty_int (i_c (n := 2) (by decide)))) (db_cons (ty_hear (lp := false) (W rfl 4 (by decide)) (W rfl 9 (by decide))) (db_nil (lp := false))))))
    (tr_fork (tt_any (tt_eq (ty_drawL 2 rfl) ty_int)) (tn_set (ty_catB (ty_var rfl) (ty_blk (db_cons (ty_oS (ty_opn (ty_blks (dk_cons (ty_blk (db_nil (lp := false))) (dk_cons (ty_var rfl) (dk_nil (lp := false))))))) (db_nil (lp := false))))))
    (tr_seq (tn_set (ty_catB (ty_var rfl) (ty_blk (db_cons (ty_oS (g_answers rfl (W rfl 5 (by decide)) (ty_addR 2 4 (ty_drawL 2 rfl)) (W rfl 9 (by decide)) (ls_nls (ty_var rfl) fun _ p => p))) (db_nil (lp := false))))))
      (tr_ret3 (ty_var rfl) (ty_var rfl) (ty_var rfl)))
    (tr_seq (tn_set (ty_catB (ty_var rfl) (ty_blk (db_cons (ty_oS (g_answers rfl (W rfl 5 (by decide)) (ty_addR 2 4 (ty_drawL 2 rfl)) (W rfl 9 (by decide)) (ls_nls (ty_var rfl) fun _ p => p))) (db_nil (lp := false))))))
      (tr_ret3 (ty_var rfl) (ty_var rfl) (ty_var rfl)))))))))))

theorem sc_law_others : FnScope ["_law_pot_here", "_law_w", "_law_digits_here", "_law_one", "_law_two", "_law_own"] ["_law_pot_here", "_law_w"] (fnScope s_law_others) := ⟨rfl, rfl, rfl, by decide +kernel, rfl, by decide +kernel, by decide +kernel⟩
theorem c_law_others (T : Tx w K mg) : Cal P w K mg base 5 "_law_others" (spGen K Pt) [] := by
  have c_law_draw := c_law_draw (P := P) (base := base) (Pt := Pt) T
  have c_law_digits := c_law_digits (P := P) (base := base) (Pt := Pt) T
  have c_law_picked := c_law_picked (P := P) (base := base) (Pt := Pt) T
  have c_law_test := c_law_test (P := P) (base := base) (Pt := Pt) T
  have c_law_answers := c_law_answers (P := P) (base := base) (Pt := Pt) T
  refine T.d_law_others.cal sc_law_others (fun F => ⟨[], .nil, F.bindsN fun _ _ _ _ _ _ us hl => match us, hl with | [_, _], _ => rfl⟩) (by rintro vs H Q E ⟨x, _, a2, _⟩; exact all2_len a2) fun f cdv Ar outer s H vs Q E hr h => ?_
  obtain ⟨x, g, a2, hQ⟩ := h
  refine ⟨_, (pss_cons (ps_set (i := 2) sc_law_others.nd rfl (by first | exact Or.inl rfl | exact Or.inr rfl) (pe_c c_law_digits hr (by omega) rfl (pa_cons (pv 0) (pa_cons (pe_op op_add pe_int (pe_c c_law_draw hr (by omega) rfl (pa_cons (pv 0) (pa_cons pe_int pa_nil)))) pa_nil))))
    (pss_cons (ps_set (i := 3) sc_law_others.nd rfl (by first | exact Or.inl rfl | exact Or.inr rfl) (pe_tup (pa_cons (pe_c c_law_picked hr (by omega) rfl (pa_cons (pe_ix (r := rIxL K) ix_list (pv 1) pe_int (fun _ _ => rfl)) (pa_cons (pv 2) pa_nil))) (pa_cons (pe_tup (pa_cons pe_str (pa_cons (pe_ix (r := rIxL K) ix_list (pv 1) pe_int (fun _ _ => rfl)) (pa_cons (pe_tup (pa_cons pe_str (pa_cons (pe_ix (r := rIxL K) ix_list (pv 1) pe_int (fun _ _ => rfl)) pa_nil))) pa_nil)))) pa_nil))))
    (pss_cons (ps_set (i := 4) sc_law_others.nd rfl (by first | exact Or.inl rfl | exact Or.inr rfl) (pe_tup (pa_cons (pe_tup (pa_cons pe_str (pa_cons (pe_ix (r := rIxL K) ix_list (pv 1) pe_int (fun _ _ => rfl)) (pa_cons (pe_ix (r := rIxL K) ix_list (pv 1) pe_int (fun _ _ => rfl)) pa_nil)))) (pa_cons (pe_tup (pa_cons pe_str (pa_cons (pe_ix (r := rIxL K) ix_list (pv 1) pe_int (fun _ _ => rfl)) (pa_cons (pe_ix (r := rIxL K) ix_list (pv 1) pe_int (fun _ _ => rfl)) pa_nil)))) pa_nil))))
    (pss_cons (ps_set (i := 4) sc_law_others.nd rfl (by first | exact Or.inl rfl | exact Or.inr rfl) (pe_op (r := rCatA K) op_catA (pv 4) (pe_tup (pa_cons (pe_c c_law_test hr (by omega) rfl (pa_cons (pv 0) (pa_cons (pe_tup (pa_cons pe_str (pa_cons (pe_ix (r := rIxL K) ix_list (pv 1) pe_int (fun _ _ => rfl)) pa_nil))) (pa_cons (pe_tup (pa_cons pe_str (pa_cons (pe_ix (r := rIxL K) ix_list (pv 1) pe_int (fun _ _ => rfl)) pa_nil))) (pa_cons (pe_ix (r := rIxL K) ix_list (pv 2) pe_int (fun _ _ => rfl)) pa_nil))))) pa_nil))))
    (pss_cons (ps_set (i := 5) sc_law_others.nd rfl (by first | exact Or.inl rfl | exact Or.inr rfl) (pe_tup (pa_cons (pe_c c_law_answers hr (by omega) rfl (pa_cons (pv 0) (pa_cons (pe_ix (r := rIxL K) ix_list (pv 1) pe_int (fun _ _ => rfl)) (pa_cons (pe_op op_add pe_int (pe_c c_law_draw hr (by omega) rfl (pa_cons (pv 0) (pa_cons pe_int pa_nil)))) (pa_cons (pe_ix (r := rIxL K) ix_list (pv 1) pe_int (fun _ _ => rfl)) (pa_cons (pv 2) pa_nil)))))) pa_nil)))
    (pss_cons (ps_if (pt_cmpR op_eq (pe_c c_law_draw hr (by omega) rfl (pa_cons (pv 0) (pa_cons pe_int pa_nil))) pe_int (nomark _))
      (pss_one (ps_set (i := 5) sc_law_others.nd rfl (by first | exact Or.inl rfl | exact Or.inr rfl) (pe_op (r := rCatA K) op_catA (pe_tup (pa_cons (pe_tup (pa_cons pe_str (pa_cons (pe_tup (pa_cons (pe_tup pa_nil) (pa_cons (pe_tup (pa_cons (pe_tup (pa_cons pe_str (pa_cons (pe_ix (r := rIxL K) ix_list (pv 1) pe_int (fun _ _ => rfl)) (pa_cons (pe_ix (r := rIxL K) ix_list (pv 1) pe_int (fun _ _ => rfl)) pa_nil)))) pa_nil)) pa_nil))) pa_nil))) pa_nil)) (pv 5))))
      pss_nil)
    (pss_one (ps_ret (pe_lst (pa_cons (pv 5) (pa_cons (pv 3) (pa_cons (pv 4) pa_nil)))))))))))), ?_⟩
  match vs, a2 with
  | [v0, v1], ⟨p0, p1, _⟩ =>
  have W : ∀ {Γ : Gam (FG Pt x)}, Γ[1]? = some (some (.ol K H (wL x.ws))) → ∀ i : Nat, i < 11 → TyE (FG Pt x) H Γ (tOp (rIxL K) (tVar 1) (tC (.int (i : Nat)))) (.dt K tyW) := fun h i hi => ty_w x.ok (ls_ol (ty_var h) fun _ p => p) i hi
  have WX : ∀ {Γ : Gam (FG Pt x)}, Γ[1]? = some (some (.ol K H (wL x.ws))) → ∀ i : Nat, i < 11 → TyE (FG Pt x) H Γ (tOp (rIxL K) (tVar 1) (tC (.int (i : Nat)))) (.dt K (· = .str (wn x.ws i))) := fun h i hi => ty_wx x.ok (ls_ol (ty_var h) fun _ p => p) i hi
  refine ty_go (Γ := [some (.eq (.ref x.A)), some (.ol K H (wL x.ws)), none, none, none, none]) g ⟨⟨_, rfl, p0⟩, ⟨_, rfl, ol_of p1⟩, trivial⟩ ?_ hQ
  exact (tr_seq (tn_set (g_digits rfl (ty_addR 2 4 (ty_drawL 2 rfl))))
    (tr_seq (tn_set (ty_blk (db_cons (g_picked (W rfl 7 (by decide)) (ls_nls (ty_var rfl) fun _ p => p)) (db_cons (ty_tell (lp := false) (W rfl 3 (by decide)) (ty_name (W rfl 7 (by decide)))) (db_nil (lp := false))))))
    (tr_seq (tn_set (ty_blk (db_cons (ty_hear (lp := false) (W rfl 3 (by decide)) (W rfl 7 (by decide))) (db_cons (ty_hear (lp := false) (W rfl 4 (by decide)) (W rfl 8 (by decide))) (db_nil (lp := false))))))
    (tr_seq (tn_set (ty_catB (ty_var rfl) (ty_blk (db_cons (g_test rfl (ty_name (W rfl 7 (by decide))) (ty_name (W rfl 8 (by decide))) (ty_dg (ls_nls (ty_var rfl) fun _ p => p) ty_int (i_c (n := 2) (by decide)))) (db_nil (lp := false))))))
    (tr_seq (tn_set (ty_blk (db_cons (ty_oS (g_answers rfl (W rfl 4 (by decide)) (ty_addR 2 4 (ty_drawL 2 rfl)) (W rfl 9 (by decide)) (ls_nls (ty_var rfl) fun _ p => p))) (db_nil (lp := false)))))
    (tr_fork (tt_any (tt_eq (ty_drawL 2 rfl) ty_int)) (tn_set (ty_catB (ty_blk (db_cons (ty_oS (ty_opn (ty_blks (dk_cons (ty_blk (db_nil (lp := false))) (dk_cons (ty_blk (db_cons (ty_hear (lp := false) (W rfl 3 (by decide)) (W rfl 9 (by decide))) (db_nil (lp := false)))) (dk_nil (lp := false))))))) (db_nil (lp := false)))) (ty_var rfl)))
    (tr_ret3 (ty_var rfl) (ty_var rfl) (ty_var rfl))
    (tr_ret3 (ty_var rfl) (ty_var rfl) (ty_var rfl))))))))

theorem sc_law_loop : FnScope ["_law_pot_here", "_law_w", "_law_digits_here", "_law_said", "_law_test_here", "_law_foe", "_law_answers_here", "_law_own"] ["_law_pot_here", "_law_w"] (fnScope s_law_loop) := ⟨rfl, rfl, rfl, by decide +kernel, rfl, by decide +kernel, by decide +kernel⟩
theorem c_law_loop (T : Tx w K mg) : Cal P w K mg base 5 "_law_loop" (spGen K Pt) [] := by
  have c_law_draw := c_law_draw (P := P) (base := base) (Pt := Pt) T
  have c_law_digits := c_law_digits (P := P) (base := base) (Pt := Pt) T
  have c_law_picked := c_law_picked (P := P) (base := base) (Pt := Pt) T
  have c_law_test := c_law_test (P := P) (base := base) (Pt := Pt) T
  have c_law_answers := c_law_answers (P := P) (base := base) (Pt := Pt) T
  refine T.d_law_loop.cal sc_law_loop (fun F => ⟨[], .nil, F.bindsN fun _ _ _ _ _ _ us hl => match us, hl with | [_, _], _ => rfl⟩) (by rintro vs H Q E ⟨x, _, a2, _⟩; exact all2_len a2) fun f cdv Ar outer s H vs Q E hr h => ?_
  obtain ⟨x, g, a2, hQ⟩ := h
  refine ⟨_, (pss_cons (ps_set (i := 2) sc_law_loop.nd rfl (by first | exact Or.inl rfl | exact Or.inr rfl) (pe_c c_law_digits hr (by omega) rfl (pa_cons (pv 0) (pa_cons pe_int pa_nil))))
    (pss_cons (ps_set (i := 3) sc_law_loop.nd rfl (by first | exact Or.inl rfl | exact Or.inr rfl) (pe_tup (pa_cons pe_str (pa_cons (pe_ix (r := rIxL K) ix_list (pv 1) pe_int (fun _ _ => rfl)) (pa_cons (pe_ix (r := rIxL K) ix_list (pe_lst (pa_cons (pe_tup (pa_cons pe_str (pa_cons (pe_ix (r := rIxL K) ix_list (pv 1) pe_int (fun _ _ => rfl)) pa_nil))) (pa_cons (pe_ix (r := rIxL K) ix_list (pv 2) pe_int (fun _ _ => rfl)) pa_nil))) (pe_op op_fdiv (pe_c c_law_draw hr (by omega) rfl (pa_cons (pv 0) (pa_cons pe_int pa_nil))) pe_int) (fun _ _ => rfl)) pa_nil)))))
    (pss_cons (ps_set (i := 4) sc_law_loop.nd rfl (by first | exact Or.inl rfl | exact Or.inr rfl) (pe_c c_law_test hr (by omega) rfl (pa_cons (pv 0) (pa_cons (pe_tup (pa_cons pe_str (pa_cons (pe_ix (r := rIxL K) ix_list (pv 1) pe_int (fun _ _ => rfl)) pa_nil))) (pa_cons (pe_tup (pa_cons pe_str (pa_cons (pe_ix (r := rIxL K) ix_list (pv 1) pe_int (fun _ _ => rfl)) pa_nil))) (pa_cons (pe_ix (r := rIxL K) ix_list (pv 2) pe_int (fun _ _ => rfl)) pa_nil))))))
    (pss_cons (ps_set (i := 5) sc_law_loop.nd rfl (by first | exact Or.inl rfl | exact Or.inr rfl) (pe_tup (pa_cons (pe_tup (pa_cons pe_str (pa_cons (pe_tup (pa_cons (pe_c c_law_picked hr (by omega) rfl (pa_cons (pe_ix (r := rIxL K) ix_list (pv 1) pe_int (fun _ _ => rfl)) (pa_cons (pv 2) pa_nil))) (pa_cons (pv 3) (pa_cons (pe_tup (pa_cons pe_str (pa_cons (pe_ix (r := rIxL K) ix_list (pv 1) pe_int (fun _ _ => rfl)) (pa_cons (pe_ix (r := rIxL K) ix_list (pv 1) pe_int (fun _ _ => rfl)) pa_nil)))) (pa_cons (pv 4) pa_nil))))) pa_nil))) pa_nil)))
    (pss_cons (ps_set (i := 6) sc_law_loop.nd rfl (by first | exact Or.inl rfl | exact Or.inr rfl) (pe_c c_law_answers hr (by omega) rfl (pa_cons (pv 0) (pa_cons (pe_ix (r := rIxL K) ix_list (pv 1) pe_int (fun _ _ => rfl)) (pa_cons pe_int (pa_cons (pe_ix (r := rIxL K) ix_list (pv 1) pe_int (fun _ _ => rfl)) (pa_cons (pv 2) pa_nil)))))))
    (pss_cons (ps_set (i := 7) sc_law_loop.nd rfl (by first | exact Or.inl rfl | exact Or.inr rfl) (pe_tup (pa_cons (pe_tup (pa_cons pe_str (pa_cons (pe_tup (pa_cons (pe_tup (pa_cons pe_str (pa_cons (pe_ix (r := rIxL K) ix_list (pv 1) pe_int (fun _ _ => rfl)) (pa_cons (pe_ix (r := rIxL K) ix_list (pv 1) pe_int (fun _ _ => rfl)) pa_nil)))) (pa_cons (pe_tup (pa_cons pe_str (pa_cons (pe_op (r := rCatA K) op_catA (pe_ix (r := rIxT K) ix_tup (pv 6) pe_int (fun _ _ => rfl)) (pe_tup (pa_cons (pe_tup (pa_cons (pe_tup (pa_cons pe_str pa_nil)) pa_nil)) pa_nil))) pa_nil))) pa_nil))) pa_nil))) pa_nil)))
    (pss_cons (ps_if (pt_cmpR op_eq (pe_c c_law_draw hr (by omega) rfl (pa_cons (pv 0) (pa_cons pe_int pa_nil))) pe_int (nomark _))
      (pss_one (ps_set (i := 7) sc_law_loop.nd rfl (by first | exact Or.inl rfl | exact Or.inr rfl) (pe_op (r := rCatA K) op_catA (pv 7) (pe_tup (pa_cons (pe_tup (pa_cons pe_str (pa_cons (pe_ix (r := rIxL K) ix_list (pv 1) pe_int (fun _ _ => rfl)) (pa_cons (pe_ix (r := rIxL K) ix_list (pv 2) (pe_c c_law_draw hr (by omega) rfl (pa_cons (pv 0) (pa_cons pe_int pa_nil))) (fun _ _ => rfl)) pa_nil)))) pa_nil)))))
      pss_nil)
    (pss_one (ps_ret (pe_lst (pa_cons (pv 7) (pa_cons (pv 5) pa_nil)))))))))))), ?_⟩
  match vs, a2 with
  | [v0, v1], ⟨p0, p1, _⟩ =>
  have W : ∀ {Γ : Gam (FG Pt x)}, Γ[1]? = some (some (.ol K H (wL x.ws))) → ∀ i : Nat, i < 11 → TyE (FG Pt x) H Γ (tOp (rIxL K) (tVar 1) (tC (.int (i : Nat)))) (.dt K tyW) := fun h i hi => ty_w x.ok (ls_ol (ty_var h) fun _ p => p) i hi
  have WX : ∀ {Γ : Gam (FG Pt x)}, Γ[1]? = some (some (.ol K H (wL x.ws))) → ∀ i : Nat, i < 11 → TyE (FG Pt x) H Γ (tOp (rIxL K) (tVar 1) (tC (.int (i : Nat)))) (.dt K (· = .str (wn x.ws i))) := fun h i hi => ty_wx x.ok (ls_ol (ty_var h) fun _ p => p) i hi
  refine ty_go (Γ := [some (.eq (.ref x.A)), some (.ol K H (wL x.ws)), none, none, none, none, none, none]) g ⟨⟨_, rfl, p0⟩, ⟨_, rfl, ol_of p1⟩, trivial⟩ ?_ hQ
  exact (tr_seq (tn_set (g_digits rfl ty_r24))
    (tr_seq (tn_set (ty_tell (lp := false) (W rfl 3 (by decide)) (ty_eL (de_cons (ty_name (W rfl 7 (by decide))) (de_cons (ty_dg (ls_nls (ty_var rfl) fun _ p => p) ty_int (i_c (n := 2) (by decide))) de_nil)) (ty_opC (χ := rg 0 (2 : Nat)) (ty_drawL 4 rfl) ty_int fun i j h1 h2 => by subst h2; exact ⟨⟨by decide, by decide⟩, by unfold rg at *; omega⟩) (fun _ h => h))))
    (tr_seq (tn_set (g_test rfl (ty_name (W rfl 7 (by decide))) (ty_name (W rfl 8 (by decide))) (ty_dg (ls_nls (ty_var rfl) fun _ p => p) ty_int (i_c (n := 2) (by decide)))))
    (tr_seq (tn_set (ty_blk (db_cons (ty_rep (lp := false) (ty_blk (db_cons (ty_lpS (g_picked (W rfl 7 (by decide)) (ls_nls (ty_var rfl) fun _ p => p))) (db_cons (ty_lpS (ty_var rfl)) (db_cons (ty_hear (lp := true) (W rfl 4 (by decide)) (W rfl 8 (by decide))) (db_cons (ty_lpS (ty_var rfl)) (db_nil (lp := true)))))))) (db_nil (lp := false)))))
    (tr_seq (tn_set (g_answers rfl (W rfl 4 (by decide)) ty_r24 (W rfl 9 (by decide)) (ls_nls (ty_var rfl) fun _ p => p)))
    (tr_seq (tn_set (ty_blk (db_cons (ty_rep (lp := false) (ty_blk (db_cons (ty_hear (lp := true) (W rfl 3 (by decide)) (W rfl 9 (by decide))) (db_cons (ty_oS (ty_opn (ty_catK (ty_lpK (ty_o1 (ty_var rfl))) (ty_blks (dk_cons (ty_blk (db_cons ty_leave (db_nil (lp := true)))) (dk_nil (lp := true))))))) (db_nil (lp := true)))))) (db_nil (lp := false)))))
    (tr_fork (tt_any (tt_eq (ty_drawL 2 rfl) ty_int)) (tn_set (ty_catB (ty_var rfl) (ty_blk (db_cons (ty_tell (lp := false) (W rfl 4 (by decide)) (ty_dg (ls_nls (ty_var rfl) fun _ p => p) (ty_drawL 2 rfl) (fun _ h => h))) (db_nil (lp := false))))))
    (tr_ret2 (ty_var rfl) (ty_var rfl))
    (tr_ret2 (ty_var rfl) (ty_var rfl)))))))))

end
end Oh
set_option maxHeartbeats 4000000
namespace Oh
open PySem PySem.Spec PyProof.Rows L2
open C8 (Cal Met Mak pe_c pe_mk pe_mt pe_mt0 pe_gc InsC call_isC tCut pss_cut fnBody fnArgs fnScope)
open LamX NdefX
structure Gy where
  x : Gx
  d : Nat
  m : Nat
abbrev FY (Pt : Addr) (y : Gy) : Fm := FG Pt y.x
section
variable {P : Program} {w : World} {K : PySem.W.Frag} {mg : Str → Option Value} {base : Heap} {A L Pt : Addr} {E : XK} {te ta tb tc : TE} {H0 : Hp}
theorem ty_digit {Γ : Gam (Fp A L Pt)} (h : Γ[0]? = some (some (.eq (.ref A)))) : TyE (Fp A L Pt) H0 Γ (tCall (spDig Pt) [] E (tCons (tVar 0) tNil)) (.int (rg 0 10)) := fun σ H e env =>
  ev_call (ea_cons (ty_var h σ H e env) ea_nil) fun vs H1 e1 p Q q => by
    match vs, p with
    | [x], ⟨p0, _⟩ =>
      obtain rfl : x = V.ref A := p0
      exact ⟨A, L, rfl, e1.good, fun r H' e hr => q _ _ e ⟨r, rfl, hr.1, by omega⟩⟩
abbrev TsTm (K : PySem.W.Frag) (Pt : Addr) (N : Nat) (y : Gy) : List (VP (FY Pt y)) := [.eq (.ref y.x.A), .ls K (wL y.x.ws), .int fun i => i = (y.d : Nat) ∧ y.d < N]
def spTerm (K : PySem.W.Frag) (Pt : Addr) (N : Nat) : Sp := spG (FY Pt) (TsTm K Pt N) (fun y _ => .dt K (tyE (y.d + 1)))
theorem g_term {x : Gx} {Γ : Gam (FG Pt x)} {N : Nat} (d : Nat) (h0 : Γ[0]? = some (some (.eq (.ref x.A)))) (h1 : TyE (FG Pt x) H0 Γ ta (.ls K (wL x.ws))) {φ : Int → Prop} (h2 : TyE (FG Pt x) H0 Γ tb (.int φ)) (w : ∀ i, φ i → i = (d : Nat) ∧ d < N) : TyE (FG Pt x) H0 Γ (tCall (spTerm K Pt N) [] E (tCons (tVar 0) (tCons ta (tCons tb tNil)))) (.dt K (tyE (d + 1))) :=
  ty_call (Fx := FY Pt) (Ts := TsTm K Pt N) ⟨x, d, 0⟩ (ta_cons (ty_var h0) (ta_cons h1 (ta_cons (ty_i h2 w) ta_nil))) fun v H H' e p => p
theorem sc_law_term : FnScope ["_law_pot_here", "_law_w", "_law_deep", "_law_kind", "_law_word_here"] ["_law_pot_here", "_law_w", "_law_deep"] (fnScope s_law_term) := ⟨rfl, rfl, rfl, by decide +kernel, rfl, by decide +kernel, by decide +kernel⟩
theorem term_step (T : Tx w K mg) (m N : Nat) (hm : 4 ≤ m) (c_law_term : Cal P w K mg base m "_law_term" (spTerm K Pt N) []) : Cal P w K mg base (m + 1) "_law_term" (spTerm K Pt (N + 1)) [] := by
  have c_law_draw := c_law_draw (P := P) (base := base) (Pt := Pt) T
  have c_law_digit := c_law_digit (P := P) (base := base) (Pt := Pt) T
  refine T.d_law_term.cal sc_law_term (fun F => ⟨[], .nil, F.bindsN fun _ _ _ _ _ _ us hl => match us, hl with | [_, _, _], _ => rfl⟩) (by rintro vs H Q E ⟨x, _, a2, _⟩; exact all2_len a2) fun f cdv Ar outer s H vs Q E hr h => ?_
  obtain ⟨⟨x, d, _⟩, g, a2, hQ⟩ := h
  refine ⟨_, (pss_cons (ps_set (i := 3) sc_law_term.nd rfl (by first | exact Or.inl rfl | exact Or.inr rfl) (pe_c c_law_draw hr (by omega) rfl (pa_cons (pv 0) (pa_cons pe_int pa_nil))))
    (pss_cons (ps_if (PW.pt (pw_or (pt_cmpR op_eq (pv 2) pe_int (nomark _)) (pw_or1 (pt_cmpR op_lt (pv 3) pe_int (nomark _)))))
      (pss_cons (ps_if (pt_cmpR op_eq (pe_op op_mod (pv 3) pe_int) pe_int (nomark _))
        (pss_one (ps_ret (pe_c c_law_digit hr (by omega) rfl (pa_cons (pv 0) pa_nil))))
        pss_nil)
      (pss_one (ps_ret (pe_tup (pa_cons pe_str (pa_cons (pe_ix (r := rIxL K) ix_list (pv 1) (pe_op op_add pe_int (pe_c c_law_draw hr (by omega) rfl (pa_cons (pv 0) (pa_cons pe_int pa_nil)))) (fun _ _ => rfl)) pa_nil))))))
      pss_nil)
    (pss_cons (ps_if (pt_cmpR op_eq (pv 3) pe_int (nomark _))
      (pss_one (ps_ret (pe_tup (pa_cons pe_str (pa_cons (pe_c c_law_term hr (by omega) rfl (pa_cons (pv 0) (pa_cons (pv 1) (pa_cons (pe_op op_sub (pv 2) pe_int) pa_nil)))) pa_nil)))))
      pss_nil)
    (pss_cons (ps_set (i := 4) sc_law_term.nd rfl (by first | exact Or.inl rfl | exact Or.inr rfl) (pe_ix (r := rIxL K) ix_list (pe_lst (pa_cons pe_str (pa_cons pe_str (pa_cons pe_str (pa_cons pe_str pa_nil))))) (pe_op op_mod (pe_op op_add (pv 3) (pe_c c_law_draw hr (by omega) rfl (pa_cons (pv 0) (pa_cons pe_int pa_nil)))) pe_int) (fun _ _ => rfl)))
    (pss_one (ps_ret (pe_tup (pa_cons (pv 4) (pa_cons (pe_c c_law_term hr (by omega) rfl (pa_cons (pv 0) (pa_cons (pv 1) (pa_cons (pe_op op_sub (pv 2) pe_int) pa_nil)))) (pa_cons (pe_c c_law_term hr (by omega) rfl (pa_cons (pv 0) (pa_cons (pv 1) (pa_cons (pe_op op_sub (pv 2) pe_int) pa_nil)))) pa_nil)))))))))), ?_⟩
  match vs, a2 with
  | [v0, v1, v2], ⟨p0, p1, p2, _⟩ =>
  refine ty_go (F := FG Pt x) (Γ := [some (.eq (.ref x.A)), some (.ol K H (wL x.ws)), some (.int fun i => i = (d : Nat) ∧ d < N + 1), none, none]) g ⟨⟨_, rfl, p0⟩, ⟨_, rfl, ol_of p1⟩, ⟨_, rfl, p2⟩, trivial⟩ ?_ hQ
  have WS : ∀ {Γ : Gam (FG Pt x)}, Γ[1]? = some (some (.ol K H (wL x.ws))) → TyE (FG Pt x) H Γ (tVar 1) (.ls K (wL x.ws)) := fun h => ls_ol (ty_var h) fun _ p => p
  have sub1 : ∀ {Γ : Gam (FG Pt x)}, d ≠ 0 → Γ[2]? = some (some (.int fun i => i = (d : Nat) ∧ d < N + 1)) → TyE (FG Pt x) H Γ (tOp (rI0 fun i j => .int (i - j)) (tVar 2) (tC (.int 1))) (.int fun i => i = ((d - 1 : Nat) : Int) ∧ d - 1 < N) := fun hd h => ty_op0 (ty_var h) ty_int fun i j h1 h2 => by
    subst h2
    have := h1.1
    have := h1.2
    omega
  refine tr_seq (tn_set (ty_drawL 8 rfl)) ?_
  refine tr_when (tt_orL (tt_eq (ty_var (T := .int fun i => i = (d : Nat) ∧ d < N + 1) rfl) ty_int) (tt_any (tt_cmp (ty_var rfl) ty_int))) (fun _ => ?_) fun hd => ?_
  · refine tr_when (tt_any (tt_eq (ty_opC (χ := fun _ => True) (ty_var rfl) ty_int fun i j _ h2 => ⟨by subst h2; decide, trivial⟩) ty_int)) (fun _ => ?_) fun _ => ?_
    · exact tr_ret (ty_eh (ty_iE (ty_digit rfl) fun i h => by unfold rg at h; omega) (by dsimp only; omega))
    · exact tr_ret (ty_eh (ty_name (ty_wi x.ok (WS rfl) (ty_addR 7 9 (ty_drawL 2 rfl)) fun i h => by unfold rg at h; omega)) (by dsimp only; omega))
  · have hd : d ≠ 0 := by
      obtain ⟨i, j, ⟨h1, _⟩, h2, h3⟩ := hd rfl
      intro z
      subst z
      rw [h1, h2] at h3
      exact absurd h3 (by decide)
    refine tr_when (tt_any (tt_eq (ty_var rfl) ty_int)) (fun _ => ?_) fun _ => ?_
    · exact tr_ret (ty_eh (ty_not (g_term (d - 1) rfl (WS rfl) (sub1 hd rfl) fun i h => h)) (by dsimp only; omega))
    · refine tr_seq (tn_set (T := .dt K fun d => ∃ o : Bo, d = .str o.s) (ty_ixL (τ := fun ds => ds = [.str "plus", .str "minus", .str "same", .str "less"]) (φ := rg 0 4) (ls_nls (ty_lst (tl_cons ty_str (tl_cons ty_str (tl_cons ty_str (tl_cons ty_str tl_nil)))) fun ds h => ?_) fun ds h => ?_) (ty_opC (ty_op0 (χ := fun _ => True) (ty_var (T := .int (rg 0 (8 : Nat))) rfl) (ty_drawL 2 rfl) fun _ _ _ _ => trivial) ty_int fun i j _ h2 => ⟨by subst h2; decide, by subst h2; unfold rg; omega⟩) fun ds i h1 h2 => ?_)) ?_
      · match ds, h with
        | [_, _, _, _], _ => simp
      · match ds, h with
        | [_, _, _, _], ⟨rfl, rfl, rfl, rfl, _⟩ => rfl
      · subst h1
        have : i = 0 ∨ i = 1 ∨ i = 2 ∨ i = 3 := by unfold rg at h2; omega
        rcases this with rfl | rfl | rfl | rfl
        · exact ⟨_, rfl, .plus, rfl⟩
        · exact ⟨_, rfl, .minus, rfl⟩
        · exact ⟨_, rfl, .same, rfl⟩
        · exact ⟨_, rfl, .less, rfl⟩
      · refine tr_ret (ty_tup (tl_cons (ty_var (T := .dt K fun d => ∃ o : Bo, d = .str o.s) rfl) (tl_cons (g_term (d - 1) rfl (WS rfl) (sub1 hd rfl) fun i h => h) (tl_cons (g_term (d - 1) rfl (WS rfl) (sub1 hd rfl) fun i h => h) tl_nil))) fun ds h => ?_)
        match ds, h with
        | [_, _, _], ⟨⟨o, rfl⟩, ⟨a, rfl, ha, hah⟩, ⟨b, rfl, hb, hbh⟩, _⟩ =>
          have := bin_ex (o := o) ha hah hb hbh
          exact ⟨by simp, .bin o a b, rfl, this.1, Nat.le_trans this.2 (by dsimp only; omega)⟩
theorem c_law_term0 (T : Tx w K mg) : Cal P w K mg base 4 "_law_term" (spTerm K Pt 0) [] := by
  refine T.d_law_term.cal sc_law_term (fun F => ⟨[], .nil, F.bindsN fun _ _ _ _ _ _ us hl => match us, hl with | [_, _, _], _ => rfl⟩) (by rintro vs H Q E ⟨x, _, a2, _⟩; exact all2_len a2) fun f cdv Ar outer s H vs Q E hr h => ?_
  obtain ⟨⟨x, d, _⟩, g, a2, hQ⟩ := h
  match vs, a2 with
  | [v0, v1, v2], ⟨p0, p1, ⟨i, _, _, hi⟩, _⟩ => exact absurd hi (by simp)
theorem c_law_term (T : Tx w K mg) : ∀ N, Cal P w K mg base (N + 5) "_law_term" (spTerm K Pt N) []
  | 0 => cal_mono (c_law_term0 T) (by omega) fun _ _ _ _ h => h
  | N + 1 => term_step T (N + 5) N (by omega) (c_law_term T N)
abbrev TsDl (K : PySem.W.Frag) (Pt : Addr) (x : Gx) : List (VP (FG Pt x)) := [.eq (.ref x.A), .ls K (wL x.ws)]
def spDealL (K : PySem.W.Frag) (Pt : Addr) : Sp := spG (FG Pt) (TsDl K Pt) (fun _ _ => .dt K (tyS false 0 1 0 true))
theorem g_deal {x : Gx} {Γ : Gam (FG Pt x)} (h0 : Γ[0]? = some (some (.eq (.ref x.A)))) (h1 : TyE (FG Pt x) H0 Γ ta (.ls K (wL x.ws))) : TyE (FG Pt x) H0 Γ (tCall (spDealL K Pt) [] E (tCons (tVar 0) (tCons ta tNil))) (.dt K (tyS false 0 1 0 true)) :=
  ty_call (Ts := TsDl K Pt) x (ta_cons (ty_var h0) (ta_cons h1 ta_nil)) fun v H H' e p => p
theorem sc_law_deal : FnScope ["_law_pot_here", "_law_w", "_law_port"] ["_law_pot_here", "_law_w"] (fnScope s_law_deal) := ⟨rfl, rfl, rfl, by decide +kernel, rfl, by decide +kernel, by decide +kernel⟩
theorem c_law_deal (T : Tx w K mg) : Cal P w K mg base 9 "_law_deal" (spDealL K Pt) [] := by
  have c_law_draw := c_law_draw (P := P) (base := base) (Pt := Pt) T
  have c_law_term := c_law_term (P := P) (base := base) (Pt := Pt) T 3
  refine T.d_law_deal.cal sc_law_deal (fun F => ⟨[], .nil, F.bindsN fun _ _ _ _ _ _ us hl => match us, hl with | [_, _], _ => rfl⟩) (by rintro vs H Q E ⟨x, _, a2, _⟩; exact all2_len a2) fun f cdv Ar outer s H vs Q E hr h => ?_
  obtain ⟨x, g, a2, hQ⟩ := h
  refine ⟨_, (pss_cons (ps_set (i := 2) sc_law_deal.nd rfl (by first | exact Or.inl rfl | exact Or.inr rfl) (pe_ix (r := rIxL K) ix_list (pv 1) (pe_op op_add pe_int (pe_c c_law_draw hr (by omega) rfl (pa_cons (pv 0) (pa_cons pe_int pa_nil)))) (fun _ _ => rfl)))
    (pss_cons (ps_if (pt_cmpR op_eq (pe_c c_law_draw hr (by omega) rfl (pa_cons (pv 0) (pa_cons pe_int pa_nil))) pe_int (nomark _))
      (pss_one (ps_ret (pe_tup (pa_cons pe_str (pa_cons (pv 2) (pa_cons (pe_c c_law_term hr (by omega) rfl (pa_cons (pv 0) (pa_cons (pv 1) (pa_cons pe_int pa_nil)))) pa_nil))))))
      pss_nil)
    (pss_one (ps_ret (pe_tup (pa_cons pe_str (pa_cons (pv 2) (pa_cons (pe_ix (r := rIxL K) ix_list (pv 1) (pe_op op_add pe_int (pe_c c_law_draw hr (by omega) rfl (pa_cons (pv 0) (pa_cons pe_int pa_nil)))) (fun _ _ => rfl)) pa_nil)))))))), ?_⟩
  match vs, a2 with
  | [v0, v1], ⟨p0, p1, _⟩ =>
  refine ty_go (Γ := [some (.eq (.ref x.A)), some (.ol K H (wL x.ws)), none]) g ⟨⟨_, rfl, p0⟩, ⟨_, rfl, ol_of p1⟩, trivial⟩ ?_ hQ
  have WS : ∀ {Γ : Gam (FG Pt x)}, Γ[1]? = some (some (.ol K H (wL x.ws))) → TyE (FG Pt x) H Γ (tVar 1) (.ls K (wL x.ws)) := fun h => ls_ol (ty_var h) fun _ p => p
  refine tr_seq (tn_set (ty_wi x.ok (WS rfl) (ty_addR 3 5 (ty_drawL 2 rfl)) fun i h => by unfold rg at h; omega)) ?_
  refine tr_when (tt_any (tt_eq (ty_drawL 2 rfl) ty_int)) (fun _ => ?_) fun _ => ?_
  · exact tr_ret (ty_tell (ty_var rfl) (g_term 1 rfl (WS rfl) ty_int fun i h => ⟨h, by decide⟩))
  · exact tr_ret (ty_hear (ty_var rfl) (ty_wi x.ok (WS rfl) (ty_addR 7 9 (ty_drawL 2 rfl)) fun i h => by unfold rg at h; omega))
end
end Oh
set_option maxHeartbeats 4000000
namespace Oh
open PySem PySem.Spec PyProof.Rows L2
open C8 (Cal Met Mak pe_c pe_mk pe_mt pe_mt0 pe_gc InsC call_isC tCut pss_cut fnBody fnArgs fnScope)
open LamX NdefX
def hD : Nat → Nat
  | 0 => 0
  | d + 1 => hD d + 2
def cD : Nat → Nat
  | 0 => 1
  | d + 1 => 6 * cD d + 1
def kD : Nat → Nat
  | 0 => 0
  | d + 1 => max (kD d + 1) (kU (kU (kD d)))
theorem cD_pos : ∀ d, 1 ≤ cD d
  | 0 => Nat.le_refl _
  | d + 1 => by simp [cD]
theorem kU_le : ∀ k, kU k ≤ k + 1
  | 0 => Nat.zero_le _
  | k + 1 => Nat.le_refl _
theorem kU_mono {a b : Nat} (h : a ≤ b) : kU a ≤ kU b := by
  cases a with
  | zero => exact Nat.zero_le _
  | succ a =>
    cases b with
    | zero => omega
    | succ b => show a + 2 ≤ b + 2; omega
theorem kU_kU (k : Nat) : kU k ≤ kU (kU k) := by
  cases k with
  | zero => exact Nat.zero_le _
  | succ k => show k + 2 ≤ k + 3; omega
section
variable {P : Program} {w : World} {K : PySem.W.Frag} {mg : Str → Option Value} {base : Heap} {A L Pt : Addr} {E : XK} {te ta tb tc td : TE} {H0 : Hp}
abbrev TsFr (K : PySem.W.Frag) (Pt : Addr) (N : Nat) (y : Gy) : List (VP (FY Pt y)) := [.eq (.ref y.x.A), .ls K (wL y.x.ws), .int fun i => i = (y.d : Nat) ∧ y.d < N, .int fun i => (0 ≤ i ∧ i ≤ (y.m : Nat)) ∧ y.m ≤ 3]
def spFree (K : PySem.W.Frag) (Pt : Addr) (N : Nat) : Sp := spG (FY Pt) (TsFr K Pt N) (fun y _ => .dt K (tyB false y.m (hD y.d) (y.m * cD y.d) (kD y.d) false))
theorem g_free {x : Gx} {Γ : Gam (FG Pt x)} {N : Nat} (d m : Nat) (h0 : Γ[0]? = some (some (.eq (.ref x.A)))) (h1 : TyE (FG Pt x) H0 Γ ta (.ls K (wL x.ws))) {φ ψ : Int → Prop} (h2 : TyE (FG Pt x) H0 Γ tb (.int φ)) (w : ∀ i, φ i → i = (d : Nat) ∧ d < N) (h3 : TyE (FG Pt x) H0 Γ tc (.int ψ)) (w3 : ∀ i, ψ i → (0 ≤ i ∧ i ≤ (m : Nat)) ∧ m ≤ 3) : TyE (FG Pt x) H0 Γ (tCall (spFree K Pt N) [] E (tCons (tVar 0) (tCons ta (tCons tb (tCons tc tNil))))) (.dt K (tyB false m (hD d) (m * cD d) (kD d) false)) :=
  ty_call (Fx := FY Pt) (Ts := TsFr K Pt N) ⟨x, d, m⟩ (ta_cons (ty_var h0) (ta_cons h1 (ta_cons (ty_i h2 w) (ta_cons (ty_i h3 w3) ta_nil)))) fun v H H' e p => p
theorem lB_le {lp : Bool} {n hg c k n1 h1 c1 k1 : Nat} {th : Bool} {ds : List PyData} (h : lB lp n hg c k th ds) (e0 : n ≤ n1) (e1 : hg ≤ h1) (e2 : c ≤ c1) (e3 : k ≤ k1) : lB lp n1 h1 c1 k1 false ds := let ⟨b, e, s⟩ := h; ⟨b, e, s.any.mono e0 e1 e2 e3⟩
theorem sc_law_free : FnScope ["_law_pot_here", "_law_w", "_law_deep", "_law_many", "_law_rows", "_law_k", "_law_kind", "_law_first", "_law_many_blocks", "_law_block", "_law_out"] ["_law_pot_here", "_law_w", "_law_deep", "_law_many"] (fnScope s_law_free) := ⟨rfl, rfl, rfl, by decide +kernel, rfl, by decide +kernel, by decide +kernel⟩
theorem free_step (T : Tx w K mg) (M N : Nat) (hM : 9 ≤ M) (c_law_free : Cal P w K mg base M "_law_free" (spFree K Pt N) []) : Cal P w K mg base (M + 1) "_law_free" (spFree K Pt (N + 1)) [] := by
  have c_law_draw := c_law_draw (P := P) (base := base) (Pt := Pt) T
  have c_law_term := c_law_term (P := P) (base := base) (Pt := Pt) T 3
  have c_law_deal := c_law_deal (P := P) (base := base) (Pt := Pt) T
  refine T.d_law_free.cal sc_law_free (fun F => ⟨[], .nil, F.bindsN fun _ _ _ _ _ _ us hl => match us, hl with | [_, _, _, _], _ => rfl⟩) (by rintro vs H Q E ⟨x, _, a2, _⟩; exact all2_len a2) fun f cdv Ar outer s H vs Q E hr h => ?_
  obtain ⟨⟨x, d, m⟩, g, a2, hQ⟩ := h
  refine ⟨_, (pss_cons (ps_set (i := 4) sc_law_free.nd rfl (by first | exact Or.inl rfl | exact Or.inr rfl) (pe_lst pa_nil))
    (pss_cons (ps_for PassesOwn.never rfl (pi_range1 rfl T.z_range (pa_cons (pv 3) pa_nil)) (pg_name (i := 5) sc_law_free.nd rfl (Or.inl rfl))
      (pss_cons (ps_set (i := 6) sc_law_free.nd rfl (by first | exact Or.inl rfl | exact Or.inr rfl) (pe_c c_law_draw hr (by omega) rfl (pa_cons (pv 0) (pa_cons pe_int pa_nil))))
      (pss_one (ps_if (pt_cmpR op_lt (pv 6) pe_int (nomark _))
        (pss_one (ps_expr (pe_bm PySem.F.plainAttrs_list PySem.F.slot_list_append PySem.F.type_list_append mt_append (pv 4) (pa_cons (pe_tup (pa_cons pe_str (pa_cons (pe_ix (r := rIxL K) ix_list (pv 1) (pe_op op_add pe_int (pe_c c_law_draw hr (by omega) rfl (pa_cons (pv 0) (pa_cons pe_int pa_nil)))) (fun _ _ => rfl)) (pa_cons (pe_c c_law_term hr (by omega) rfl (pa_cons (pv 0) (pa_cons (pv 1) (pa_cons pe_int pa_nil)))) pa_nil)))) pa_nil))))
        (pss_one (ps_if (PW.pt (pw_or (pt_cmpR op_lt (pv 6) pe_int (nomark _)) (pw_or1 (pt_cmpR op_eq (pv 2) pe_int (nomark _)))))
          (pss_one (ps_expr (pe_bm PySem.F.plainAttrs_list PySem.F.slot_list_append PySem.F.type_list_append mt_append (pv 4) (pa_cons (pe_c c_law_deal hr (by omega) rfl (pa_cons (pv 0) (pa_cons (pv 1) pa_nil))) pa_nil))))
          (pss_one (ps_if (pt_cmpR op_eq (pv 6) pe_int (nomark _))
            (pss_cons (ps_set (i := 7) sc_law_free.nd rfl (by first | exact Or.inl rfl | exact Or.inr rfl) (pe_c c_law_free hr (by omega) rfl (pa_cons (pv 0) (pa_cons (pv 1) (pa_cons (pe_op op_sub (pv 2) pe_int) (pa_cons (pe_c c_law_draw hr (by omega) rfl (pa_cons (pv 0) (pa_cons pe_int pa_nil))) pa_nil))))))
            (pss_one (ps_expr (pe_bm PySem.F.plainAttrs_list PySem.F.slot_list_append PySem.F.type_list_append mt_append (pv 4) (pa_cons (pe_tup (pa_cons pe_str (pa_cons (pe_c c_law_term hr (by omega) rfl (pa_cons (pv 0) (pa_cons (pv 1) (pa_cons pe_int pa_nil)))) (pa_cons (pv 7) (pa_cons (pe_c c_law_free hr (by omega) rfl (pa_cons (pv 0) (pa_cons (pv 1) (pa_cons (pe_op op_sub (pv 2) pe_int) (pa_cons (pe_c c_law_draw hr (by omega) rfl (pa_cons (pv 0) (pa_cons pe_int pa_nil))) pa_nil))))) pa_nil))))) pa_nil)))))
            (pss_one (ps_if (pt_cmpR op_lt (pv 6) pe_int (nomark _))
              (pss_cons (ps_set (i := 8) sc_law_free.nd rfl (by first | exact Or.inl rfl | exact Or.inr rfl) (pe_op op_add pe_int (pe_c c_law_draw hr (by omega) rfl (pa_cons (pv 0) (pa_cons pe_int pa_nil)))))
              (pss_one (ps_expr (pe_bm PySem.F.plainAttrs_list PySem.F.slot_list_append PySem.F.type_list_append mt_append (pv 4) (pa_cons (pe_tup (pa_cons pe_str (pa_cons (pe_callTy call_tuple_of rfl T.z_tuple (by decide +kernel) (pa_cons (pe_lc (own := [("_law_block", 9)]) (g := (gName 9)) (tt := tYes) rfl sc_law_free.nd (pi_range1 rfl T.z_range (pa_cons (pv 8) pa_nil)) (blkOk_by (own := [("_law_block", 9)]) (N := ["_law_pot_here", "_law_w", "_law_deep", "_law_many", "_law_rows", "_law_k", "_law_kind", "_law_first", "_law_many_blocks", "_law_block", "_law_out"]) (sc := fnScope s_law_free) (by decide +kernel)) (fun _ _ _ _ _ => (pg_name (i := 9) sc_law_free.nd rfl (Or.inl rfl))) (fun _ _ _ _ _ => pts_nil) (fun _ _ _ _ _ => (pe_c c_law_free hr (by omega) rfl (pa_cons (pv 0) (pa_cons (pv 1) (pa_cons (pe_op op_sub (pv 2) pe_int) (pa_cons (pe_c c_law_draw hr (by omega) rfl (pa_cons (pv 0) (pa_cons pe_int pa_nil))) pa_nil))))))) pa_nil)) pa_nil))) pa_nil)))))
              (pss_one (ps_if (pt_cmpR op_eq (pv 6) pe_int (nomark _))
                (pss_cons (ps_set (i := 7) sc_law_free.nd rfl (by first | exact Or.inl rfl | exact Or.inr rfl) (pe_tup (pa_cons (pe_ix (r := rIxL K) ix_list (pv 1) pe_int (fun _ _ => rfl)) (pa_cons (pe_ix (r := rIxL K) ix_list (pv 1) pe_int (fun _ _ => rfl)) (pa_cons (pe_c c_law_free hr (by omega) rfl (pa_cons (pv 0) (pa_cons (pv 1) (pa_cons (pe_op op_sub (pv 2) pe_int) (pa_cons (pe_c c_law_draw hr (by omega) rfl (pa_cons (pv 0) (pa_cons pe_int pa_nil))) pa_nil))))) pa_nil)))))
                (pss_one (ps_expr (pe_bm PySem.F.plainAttrs_list PySem.F.slot_list_append PySem.F.type_list_append mt_append (pv 4) (pa_cons (pe_tup (pa_cons pe_str (pa_cons (pe_tup (pa_cons (pv 7) (pa_cons (pe_tup (pa_cons (pe_ix (r := rIxL K) ix_list (pv 1) pe_int (fun _ _ => rfl)) (pa_cons (pe_ix (r := rIxL K) ix_list (pv 1) pe_int (fun _ _ => rfl)) (pa_cons (pe_c c_law_free hr (by omega) rfl (pa_cons (pv 0) (pa_cons (pv 1) (pa_cons (pe_op op_sub (pv 2) pe_int) (pa_cons (pe_c c_law_draw hr (by omega) rfl (pa_cons (pv 0) (pa_cons pe_int pa_nil))) pa_nil))))) pa_nil)))) pa_nil))) pa_nil))) pa_nil)))))
                (pss_one (ps_if (pt_cmpR op_eq (pv 6) pe_int (nomark _))
                  (pss_cons (ps_set (i := 10) sc_law_free.nd rfl (by first | exact Or.inl rfl | exact Or.inr rfl) (pe_tup (pa_cons pe_str (pa_cons (pe_c c_law_term hr (by omega) rfl (pa_cons (pv 0) (pa_cons (pv 1) (pa_cons pe_int pa_nil)))) (pa_cons (pe_tup (pa_cons (pe_tup (pa_cons pe_str pa_nil)) pa_nil)) (pa_cons (pe_c c_law_free hr (by omega) rfl (pa_cons (pv 0) (pa_cons (pv 1) (pa_cons (pe_op op_sub (pv 2) pe_int) (pa_cons (pe_c c_law_draw hr (by omega) rfl (pa_cons (pv 0) (pa_cons pe_int pa_nil))) pa_nil))))) pa_nil))))))
                  (pss_one (ps_expr (pe_bm PySem.F.plainAttrs_list PySem.F.slot_list_append PySem.F.type_list_append mt_append (pv 4) (pa_cons (pe_tup (pa_cons pe_str (pa_cons (pe_tup (pa_cons (pe_c c_law_deal hr (by omega) rfl (pa_cons (pv 0) (pa_cons (pv 1) pa_nil))) (pa_cons (pv 10) pa_nil))) pa_nil))) pa_nil)))))
                  (pss_one (ps_expr (pe_bm PySem.F.plainAttrs_list PySem.F.slot_list_append PySem.F.type_list_append mt_append (pv 4) (pa_cons (pe_ix (r := rIxL K) ix_list (pe_lst (pa_cons (pe_tup (pa_cons pe_str pa_nil)) (pa_cons (pe_tup (pa_cons pe_str pa_nil)) (pa_cons (pe_tup (pa_cons pe_str (pa_cons (pe_tup (pa_cons (pe_tup pa_nil) (pa_cons (pe_tup pa_nil) pa_nil))) pa_nil))) pa_nil)))) (pe_c c_law_draw hr (by omega) rfl (pa_cons (pv 0) (pa_cons pe_int pa_nil))) (fun _ _ => rfl)) pa_nil))))))))))))))))))
    (pss_one (ps_ret (pe_callTy call_tuple_of rfl T.z_tuple (by decide +kernel) (pa_cons (pv 4) pa_nil)))))), ?_⟩
  match vs, a2 with
  | [v0, v1, v2, v3], ⟨p0, p1, p2, p3, _⟩ =>
  have hm3 : m ≤ 3 := by obtain ⟨_, _, _, h⟩ := p3; exact h
  let tD : VP (FG Pt x) := .int fun i => i = (d : Nat) ∧ d < N + 1
  let tM : VP (FG Pt x) := .int fun i => (0 ≤ i ∧ i ≤ (m : Nat)) ∧ m ≤ 3
  refine ty_go (F := FG Pt x) (Γ := [some (.eq (.ref x.A)), some (.ol K H (wL x.ws)), some tD, some tM, none, none, none, none, none, none, none]) g ⟨⟨_, rfl, p0⟩, ⟨_, rfl, ol_of p1⟩, ⟨_, rfl, p2⟩, ⟨_, rfl, p3⟩, trivial⟩ ?_ hQ
  have WS : ∀ {Γ : Gam (FG Pt x)}, Γ[1]? = some (some (.ol K H (wL x.ws))) → TyE (FG Pt x) H Γ (tVar 1) (.ls K (wL x.ws)) := fun h => ls_ol (ty_var h) fun _ p => p
  have W : ∀ {Γ : Gam (FG Pt x)}, Γ[1]? = some (some (.ol K H (wL x.ws))) → ∀ i : Nat, i < 11 → TyE (FG Pt x) H Γ (tOp (rIxL K) (tVar 1) (tC (.int (i : Nat)))) (.dt K tyW) := fun h i hi => ty_w x.ok (WS h) i hi
  have WX : ∀ {Γ : Gam (FG Pt x)}, Γ[1]? = some (some (.ol K H (wL x.ws))) → ∀ i : Nat, i < 11 → TyE (FG Pt x) H Γ (tOp (rIxL K) (tVar 1) (tC (.int (i : Nat)))) (.dt K (· = .str (wn x.ws i))) := fun h i hi => ty_wx x.ok (WS h) i hi
  have id' : ∀ {T : VP (FG Pt x)}, ∀ v H, T.p v H → T.p v H := fun _ _ h => h
  refine tr_lst (K := K) (db_nil (lp := false)) (fun ds hb => by obtain ⟨b, e, z⟩ := hb; rw [e, bd_len]; exact Nat.le_trans z.len (by decide)) fun a ha _ => ?_
  let R : Nat → VP (FG Pt x) := fun i => .at K a (lB false i (hD d) (i * cD d) (kD d) false)
  let Γi : Nat → Gam (FG Pt x) := fun i => [some (.eq (.ref x.A)), some (.ol K H (wL x.ws)), some tD, some tM, some (R i), none, none, none, none, none, none]
  refine tr_seq (Γ' := Γi m) (tn_forR (m := 3) (ty_var (T := tM) rfl) (fun n hn => by have := hn.1; omega) (by decide) Γi
    (.so id' (.so id' (.so id' (.so id' (.so (fun v H ⟨xs, ds, h1, h3, h4, h5, h6⟩ => ⟨xs, ds, h1, h3, h4, h5, lB_le h6 (Nat.zero_le _) (Nat.zero_le _) (Nat.zero_le _) (Nat.zero_le _)⟩) (.no (.no (.no (.no (.no (.no .nil))))))))))) (fun i hi => ?_) fun n hn => ?_) ?_
  · let G : Option (VP (FG Pt x)) → Option (VP (FG Pt x)) → Option (VP (FG Pt x)) → Gam (FG Pt x) := fun o7 o8 o10 => [some (.eq (.ref x.A)), some (.ol K H (wL x.ws)), some tD, some tM, some (R i), some (.int (· = (i : Nat))), some (.int (rg 0 (12 : Nat))), o7, o8, none, o10]
    have go : ∀ {o7 o8 o10 : Option (VP (FG Pt x))} {te : TE} {h c k : Nat} {th : Bool}, StbA a 4 (G o7 o8 o10) → TyE (FG Pt x) H (G o7 o8 o10) te (.dt K (tyS false h c k th)) → h ≤ hD d → c ≤ cD d → k ≤ kD d → TyN (FG Pt x) H (G o7 o8 o10) (tDrop (tBM K "list" rAppend (tVar 4) (tCons te tNil))) (Γi (i + 1)) := fun sb h e1 e2 e3 =>
      tn_sub (tn_app (K := K) (a := a) (τ := lB false i (hD d) (i * cD d) (kD d) false) (τ' := lB false (i + 1) (hD d) ((i + 1) * cD d) (kD d) false) ha rfl (show (11 : Nat) ≤ 900 by decide) h sb fun ds d h1 h2 => ⟨by obtain ⟨b, e, s⟩ := h1; rw [e, bd_len]; have := s.len; omega, lB_le (lb_app h1 h2) (Nat.le_refl _) (by omega) (by rw [Nat.succ_mul]; omega) (by omega)⟩)
        (.so id' (.so id' (.so id' (.so id' (.so id' (.no (.no (.no (.no (.no (.no .nil)))))))))))
    have sb0 : StbA a 4 (G none none none) := ⟨stb_eq, stb_ol ha, stb_int, stb_int, stb_int, stb_int, trivial⟩
    refine tn_seq (Γ' := G none none none) (tn_set (ty_drawL 12 rfl)) (tn_if (tt_any (tt_cmp (ty_var rfl) ty_int)) (fun _ => ?_) fun _ => tn_if (tt_orR (tt_any (tt_cmp (ty_var rfl) ty_int)) (tt_eq (ty_var (T := tD) rfl) ty_int)) (fun _ => ?_) fun hd => ?_)
    · exact go sb0 (ty_set (ty_wi x.ok (WS rfl) (ty_addR 7 9 (ty_drawL 2 rfl)) fun i h => by unfold rg at h; omega) (g_term 2 rfl (WS rfl) ty_int fun i h => ⟨h, by decide⟩)) (Nat.zero_le _) (cD_pos d) (Nat.zero_le _)
    · exact go sb0 (g_deal rfl (WS rfl)) (Nat.zero_le _) (cD_pos d) (Nat.zero_le _)
    · have hd : d ≠ 0 := by
        obtain ⟨i, j, ⟨h1, _⟩, h2, h3⟩ := hd rfl
        intro z
        subst z
        rw [h1, h2] at h3
        exact absurd h3 (by decide)
      obtain ⟨e, rfl⟩ : ∃ e, d = e + 1 := ⟨d - 1, by omega⟩
      have sub1 : ∀ {Γ : Gam (FG Pt x)}, Γ[2]? = some (some tD) → TyE (FG Pt x) H Γ (tOp (rI0 fun i j => .int (i - j)) (tVar 2) (tC (.int 1))) (.int fun i => i = (e : Nat) ∧ e < N) := fun h => ty_op0 (ty_var h) ty_int fun i j h1 h2 => by
        subst h2
        have := h1.1
        have := h1.2
        omega
      have fr : ∀ {Γ : Gam (FG Pt x)} (n : Nat) (hn : 1 ≤ n ∧ n ≤ 4), Γ[0]? = some (some (.eq (.ref x.A))) → Γ[1]? = some (some (.ol K H (wL x.ws))) → Γ[2]? = some (some tD) → TyE (FG Pt x) H Γ (tCall (spFree K Pt N) [] C8.E0 (tCons (tVar 0) (tCons (tVar 1) (tCons (tOp (rI0 fun i j => .int (i - j)) (tVar 2) (tC (.int 1))) (tCons (tCall (spDraw Pt) [] C8.E0 (tCons (tVar 0) (tCons (tC (.int (n : Nat))) tNil))) tNil))))) (.dt K (tyB false (n - 1) (hD e) ((n - 1) * cD e) (kD e) false)) := fun n hn h0 h1 h2 =>
        g_free e (n - 1) h0 (WS h1) (sub1 h2) (fun i h => h) (ty_drawL n h0 (by omega)) fun i h => by unfold rg at h; omega
      have cp := cD_pos e
      have ke := kU_kU (kD e)
      have kl := kU_le (kD e)
      have e1 : hD (e + 1) = hD e + 2 := rfl
      have e2 : cD (e + 1) = 6 * cD e + 1 := rfl
      have e3 : kD (e + 1) = max (kD e + 1) (kU (kU (kD e))) := rfl
      refine tn_if (tt_any (tt_eq (ty_var rfl) ty_int)) (fun _ => ?_) fun _ => tn_if (tt_any (tt_cmp (ty_var rfl) ty_int)) (fun _ => ?_) fun _ => tn_if (tt_any (tt_eq (ty_var rfl) ty_int)) (fun _ => ?_) fun _ => tn_if (tt_any (tt_eq (ty_var rfl) ty_int)) (fun _ => ?_) fun _ => ?_
      · exact tn_seq (Γ' := G (some (.dt K (tyB false 2 (hD e) (2 * cD e) (kD e) false))) none none) (tn_set (fr 3 (by decide) rfl rfl rfl)) (go ⟨stb_eq, stb_ol ha, stb_int, stb_int, stb_int, stb_int, stb_dt, trivial⟩ (ty_iff (g_term 2 rfl (WS rfl) ty_int fun i h => ⟨h, by decide⟩) (ty_var (T := .dt K (tyB false 2 (hD e) (2 * cD e) (kD e) false)) rfl) (fr 2 (by decide) rfl rfl rfl)) (by omega) (by omega) (by rw [Nat.max_self]; omega))
      · refine tn_seq (Γ' := G none (some (.int (rg 1 4))) none) (tn_set (ty_addR 1 4 (ty_drawL 3 rfl))) (go (h := hD e + 1) (c := 3 * (2 * cD e) + 1) (k := kD e + 1) (th := false) ⟨stb_eq, stb_ol ha, stb_int, stb_int, stb_int, stb_int, stb_int, trivial⟩ (ty_oS (m := 1) (M := 3) (n := 2) (hg := hD e) (c := 2 * cD e) (k := kD e) (ty_opn (ty_tupK (ls_nls (ty_lcR (m := 3) rfl (ty_var (T := .int (rg 1 4)) rfl) (fun n hn => by unfold rg at hn; omega) (by decide) (fun _ => tyB false 2 (hD e) (2 * cD e) (kD e) false) fun i hi => fr 3 (by decide) rfl rfl rfl) fun es ⟨n, hn, hl, hp⟩ => ?_)))) (by omega) (by omega) (by omega))
        obtain ⟨ks, rfl, hk⟩ := all_bbd es fun d hd => by
          obtain ⟨i, hi⟩ := List.getElem?_of_mem hd
          exact hp i d hi
        rw [bbd_len] at hl
        unfold rg at hn
        exact ⟨ks, rfl, by omega, hk⟩
      · refine tn_seq (Γ' := G (some (.dt K (tyRow false (wn x.ws 3) 1 (hD e) (1 * cD e) (kD e)))) none none) (tn_set (ty_row (WX rfl 3 (by decide)) (x.ok.at (by decide)).2 (W rfl 7 (by decide)) (fr 2 (by decide) rfl rfl rfl))) (go ⟨stb_eq, stb_ol ha, stb_int, stb_int, stb_int, stb_int, stb_dt, trivial⟩ (ty_wait (m := 2) (ty_rows (dr_cons (ty_var (T := .dt K (tyRow false (wn x.ws 3) 1 (hD e) (1 * cD e) (kD e))) rfl) (dr_cons (ty_row (WX rfl 4 (by decide)) (x.ok.at (by decide)).2 (W rfl 8 (by decide)) (fr 2 (by decide) rfl rfl rfl)) (dr_nil (lp := false))))) (nd2 (x.ok.ne (by decide) (by decide) (by decide)))) ?_ ?_ ?_)
        · omega
        · omega
        · rw [show max (kD e) (max (kD e) 0) = kD e by omega]; omega
      · refine tn_seq (Γ' := G none none (some (.dt K (tyS true (max 0 (hD e) + 1) (2 * max 1 (1 * cD e) + 1) (kU (max 0 (kD e))) false)))) (tn_set (ty_iff (g_term 1 rfl (WS rfl) ty_int fun i h => ⟨h, by decide⟩) (ty_subB (n' := 1) (hg' := 0) (c' := 1) (k' := 0) (ty_blk (db_cons ty_leave (db_nil (lp := true))))) (ty_lpB (fr 2 (by decide) rfl rfl rfl)))) (go ⟨stb_eq, stb_ol ha, stb_int, stb_int, stb_int, stb_int, stb_dt, trivial⟩ (ty_rep (lp := false) (ty_blk (db_cons (ty_lpS (g_deal rfl (WS rfl))) (db_cons (ty_var (T := .dt K (tyS true (max 0 (hD e) + 1) (2 * max 1 (1 * cD e) + 1) (kU (max 0 (kD e))) false)) rfl) (db_nil (lp := true)))))) ?_ ?_ ?_)
        · omega
        · omega
        · rw [show max 0 (max (kU (max 0 (kD e))) 0) = kU (kD e) by rw [Nat.zero_max, Nat.zero_max, Nat.max_zero]]; omega
      · refine go (h := 1) (c := 1) (k := 1) (th := false) sb0 (ty_ixL (τ := fun ds => ds.length = 3 ∧ ∀ d ∈ ds, tyS false 1 1 1 false d) (ls_nls (ty_lst (tl_cons (ty_subS (hg' := 1) (c' := 1) (k' := 1) (ty_home (lp := false))) (tl_cons (ty_subS (hg' := 1) (c' := 1) (k' := 1) (ty_fail (lp := false))) (tl_cons (ty_subS (hg' := 1) (c' := 1) (k' := 1) (ty_oS (ty_opn (ty_blks (dk_cons (ty_blk (db_nil (lp := false))) (dk_cons (ty_blk (db_nil (lp := false))) (dk_nil (lp := false)))))))) tl_nil))) fun ds h => ?_) fun ds h => ?_) (ty_drawL 3 rfl) fun ds i h1 h2 => ?_) (by omega) (by omega) (by omega)
        · match ds, h with
          | [_, _, _], _ => simp
        · match ds, h with
          | [_, _, _], ⟨h1, h2, h3, _⟩ =>
            refine ⟨rfl, fun d hd => ?_⟩
            rcases List.mem_cons.mp hd with rfl | hd
            · exact h1
            rcases List.mem_cons.mp hd with rfl | hd
            · exact h2
            · obtain rfl := List.mem_singleton.mp hd
              exact h3
        · unfold rg at h2
          obtain ⟨z, h3, h4⟩ := atI_lt (xs := ds) (i := i) (by omega)
          exact ⟨z, h3, h1.2 z h4⟩
  · refine .so id' (.so id' (.so id' (.so id' (.so (fun v H ⟨xs, ds, h1, h3, h4, h5, h6⟩ => ⟨xs, ds, h1, h3, h4, h5, lB_le h6 (by omega) (Nat.le_refl _) (Nat.mul_le_mul_right _ (by omega)) (Nat.le_refl _)⟩) (.no (.no (.no (.no (.no (.no .nil))))))))))
  · exact tr_ret (ty_tupB (ls_at (ty_var (T := R m) rfl) fun _ p => p))
theorem c_law_free0 (T : Tx w K mg) : Cal P w K mg base 9 "_law_free" (spFree K Pt 0) [] := by
  refine T.d_law_free.cal sc_law_free (fun F => ⟨[], .nil, F.bindsN fun _ _ _ _ _ _ us hl => match us, hl with | [_, _, _, _], _ => rfl⟩) (by rintro vs H Q E ⟨x, _, a2, _⟩; exact all2_len a2) fun f cdv Ar outer s H vs Q E hr h => ?_
  obtain ⟨⟨x, d, _⟩, g, a2, hQ⟩ := h
  match vs, a2 with
  | [v0, v1, v2, v3], ⟨p0, p1, ⟨i, _, _, hi⟩, _⟩ => exact absurd hi (by simp)
theorem c_law_free (T : Tx w K mg) : ∀ N, Cal P w K mg base (N + 9) "_law_free" (spFree K Pt N) []
  | 0 => c_law_free0 T
  | N + 1 => free_step T (N + 9) N (by omega) (c_law_free T N)
end
end Oh
set_option maxHeartbeats 4000000
namespace Oh
open PySem PySem.Spec PyProof.Rows L2
open C8 (Cal Met Mak pe_c pe_mk pe_mt pe_mt0 pe_gc InsC call_isC tCut pss_cut fnBody fnArgs fnScope)
open LamX NdefX
section
variable {P : Program} {w : World} {K : PySem.W.Frag} {mg : Str → Option Value} {base : Heap} {A L Pt : Addr} {E : XK} {te ta tb tc td : TE} {H0 : Hp}
theorem g_gen {x : Gx} {Γ : Gam (FG Pt x)} (h0 : Γ[0]? = some (some (.eq (.ref x.A)))) (h1 : TyE (FG Pt x) H0 Γ ta (.ls K (wL x.ws))) : TyE (FG Pt x) H0 Γ (tCall (spGen K Pt) [] E (tCons (tVar 0) (tCons ta tNil))) (.nls K H0 gL) :=
  ty_call (Ts := TsG K Pt) x (ta_cons (ty_var h0) (ta_cons h1 ta_nil)) fun v H H' e p => nls_back e p
theorem gl_frees {es : List PyData} {ks : List (List T)} (e : es = bbd ks) (hl : 2 ≤ ks.length ∧ ks.length ≤ 3) (hk : ∀ b ∈ ks, BkOk false 3 (hD 2) (3 * cD 2) (kD 2) false b) : gL es := by
  match ks, hl with
  | b :: bs, hl =>
    refine ⟨b, bs, by rw [e, bbd_eq, List.map_cons], by simp at hl; omega, (hk b (List.mem_cons_self ..)).mono (by decide) (by decide) (by decide) (by decide), fun c hc => (hk c (List.mem_cons_of_mem _ hc)).mono (by decide) (by decide) (by decide) (by decide)⟩
theorem sc_law_blocks : FnScope ["_law_pot_here", "_law_w", "_law_kind", "_law_many", "_law_k"] ["_law_pot_here", "_law_w"] (fnScope s_law_blocks) := ⟨rfl, rfl, rfl, by decide +kernel, rfl, by decide +kernel, by decide +kernel⟩
theorem c_law_blocks (T : Tx w K mg) : Cal P w K mg base 13 "_law_blocks" (spGen K Pt) [] := by
  have c_law_draw := c_law_draw (P := P) (base := base) (Pt := Pt) T
  have c_law_free := c_law_free (P := P) (base := base) (Pt := Pt) T 3
  have c_law_guess := c_law_guess (P := P) (base := base) (Pt := Pt) T
  have c_law_keys := c_law_keys (P := P) (base := base) (Pt := Pt) T
  have c_law_hide := c_law_hide (P := P) (base := base) (Pt := Pt) T
  have c_law_switch := c_law_switch (P := P) (base := base) (Pt := Pt) T
  have c_law_count := c_law_count (P := P) (base := base) (Pt := Pt) T
  have c_law_stuck := c_law_stuck (P := P) (base := base) (Pt := Pt) T
  have c_law_echo := c_law_echo (P := P) (base := base) (Pt := Pt) T
  have c_law_others := c_law_others (P := P) (base := base) (Pt := Pt) T
  have c_law_loop := c_law_loop (P := P) (base := base) (Pt := Pt) T
  refine T.d_law_blocks.cal sc_law_blocks (fun F => ⟨[], .nil, F.bindsN fun _ _ _ _ _ _ us hl => match us, hl with | [_, _], _ => rfl⟩) (by rintro vs H Q E ⟨x, _, a2, _⟩; exact all2_len a2) fun f cdv Ar outer s H vs Q E hr h => ?_
  obtain ⟨x, g, a2, hQ⟩ := h
  refine ⟨_, (pss_cons (ps_set (i := 2) sc_law_blocks.nd rfl (by first | exact Or.inl rfl | exact Or.inr rfl) (pe_c c_law_draw hr (by omega) rfl (pa_cons (pv 0) (pa_cons pe_int pa_nil))))
    (pss_cons (ps_if (pt_cmpR op_lt (pv 2) pe_int (nomark _))
      (pss_one (ps_ret (pe_ifExp (pt_cmpR op_eq (pv 2) pe_int (nomark _)) (pe_c c_law_guess hr (by omega) rfl (pa_cons (pv 0) (pa_cons (pv 1) pa_nil))) (pe_c c_law_keys hr (by omega) rfl (pa_cons (pv 0) (pa_cons (pv 1) pa_nil))))))
      pss_nil)
    (pss_cons (ps_if (pt_cmpR op_lt (pv 2) pe_int (nomark _))
      (pss_one (ps_ret (pe_ifExp (pt_cmpR op_eq (pv 2) pe_int (nomark _)) (pe_c c_law_hide hr (by omega) rfl (pa_cons (pv 0) (pa_cons (pv 1) pa_nil))) (pe_c c_law_switch hr (by omega) rfl (pa_cons (pv 0) (pa_cons (pv 1) pa_nil))))))
      pss_nil)
    (pss_cons (ps_if (pt_cmpR op_lt (pv 2) pe_int (nomark _))
      (pss_one (ps_ret (pe_ifExp (pt_cmpR op_eq (pv 2) pe_int (nomark _)) (pe_c c_law_count hr (by omega) rfl (pa_cons (pv 0) (pa_cons (pv 1) pa_nil))) (pe_c c_law_stuck hr (by omega) rfl (pa_cons (pv 0) (pa_cons (pv 1) pa_nil))))))
      pss_nil)
    (pss_cons (ps_if (pt_cmpR op_lt (pv 2) pe_int (nomark _))
      (pss_one (ps_ret (pe_ifExp (pt_cmpR op_eq (pv 2) pe_int (nomark _)) (pe_c c_law_echo hr (by omega) rfl (pa_cons (pv 0) (pa_cons (pv 1) pa_nil))) (pe_c c_law_others hr (by omega) rfl (pa_cons (pv 0) (pa_cons (pv 1) pa_nil))))))
      pss_nil)
    (pss_cons (ps_if (pt_cmpR op_eq (pv 2) pe_int (nomark _))
      (pss_one (ps_ret (pe_c c_law_loop hr (by omega) rfl (pa_cons (pv 0) (pa_cons (pv 1) pa_nil)))))
      pss_nil)
    (pss_cons (ps_set (i := 3) sc_law_blocks.nd rfl (by first | exact Or.inl rfl | exact Or.inr rfl) (pe_op op_add pe_int (pe_c c_law_draw hr (by omega) rfl (pa_cons (pv 0) (pa_cons pe_int pa_nil)))))
    (pss_one (ps_ret (pe_lc (own := [("_law_k", 4)]) (g := (gName 4)) (tt := tYes) rfl sc_law_blocks.nd (pi_range1 rfl T.z_range (pa_cons (pe_op op_add pe_int (pe_op op_fdiv (pe_c c_law_draw hr (by omega) rfl (pa_cons (pv 0) (pa_cons pe_int pa_nil))) pe_int)) pa_nil)) (blkOk_by (own := [("_law_k", 4)]) (N := ["_law_pot_here", "_law_w", "_law_kind", "_law_many", "_law_k"]) (sc := fnScope s_law_blocks) (by decide +kernel)) (fun _ _ _ _ _ => (pg_name (i := 4) sc_law_blocks.nd rfl (Or.inl rfl))) (fun _ _ _ _ _ => pts_nil) (fun _ _ _ _ _ => (pe_c c_law_free hr (by omega) rfl (pa_cons (pv 0) (pa_cons (pv 1) (pa_cons pe_int (pa_cons (pv 3) pa_nil)))))))))))))))), ?_⟩
  match vs, a2 with
  | [v0, v1], ⟨p0, p1, _⟩ =>
  refine ty_go (Γ := [some (.eq (.ref x.A)), some (.ol K H (wL x.ws)), none, none, none]) g ⟨⟨_, rfl, p0⟩, ⟨_, rfl, ol_of p1⟩, trivial⟩ ?_ hQ
  have WS : ∀ {Γ : Gam (FG Pt x)}, Γ[1]? = some (some (.ol K H (wL x.ws))) → TyE (FG Pt x) H Γ (tVar 1) (.ls K (wL x.ws)) := fun h => ls_ol (ty_var h) fun _ p => p
  have two : ∀ {Γ : Gam (FG Pt x)} {c : Int}, Γ[0]? = some (some (.eq (.ref x.A))) → Γ[1]? = some (some (.ol K H (wL x.ws))) → Γ[2]? = some (some (.int (rg 0 (10 : Nat)))) → TyE (FG Pt x) H Γ (tIf (tTest (tOp rEq (tVar 2) (tC (.int c)))) (tCall (spGen K Pt) [] C8.E0 (tCons (tVar 0) (tCons (tVar 1) tNil))) (tCall (spGen K Pt) [] C8.E0 (tCons (tVar 0) (tCons (tVar 1) tNil)))) (.nls K H gL) := fun h0 h1 h2 =>
    ty_if (tt_any (tt_eq (ty_var h2) ty_int)) (g_gen h0 (WS h1)) (g_gen h0 (WS h1))
  refine tr_seq (tn_set (ty_drawL 10 rfl)) ?_
  refine tr_when (tt_any (tt_cmp (ty_var rfl) ty_int)) (fun _ => tr_ret (two rfl rfl rfl)) fun _ => ?_
  refine tr_when (tt_any (tt_cmp (ty_var rfl) ty_int)) (fun _ => tr_ret (two rfl rfl rfl)) fun _ => ?_
  refine tr_when (tt_any (tt_cmp (ty_var rfl) ty_int)) (fun _ => tr_ret (two rfl rfl rfl)) fun _ => ?_
  refine tr_when (tt_any (tt_cmp (ty_var rfl) ty_int)) (fun _ => tr_ret (two rfl rfl rfl)) fun _ => ?_
  refine tr_when (tt_any (tt_eq (ty_var rfl) ty_int)) (fun _ => tr_ret (g_gen rfl (WS rfl))) fun _ => ?_
  refine tr_seq (tn_set (ty_addR 1 4 (ty_drawL 3 rfl))) ?_
  refine tr_ret (nls_sub (ty_lcR (m := 3) (φ := rg 2 4) rfl (ty_op0 (χ := rg 2 4) ty_int (ty_opC (χ := rg 0 2) (ty_drawL 4 rfl) ty_int fun i j h1 h2 => by subst h2; exact ⟨⟨by decide, by decide⟩, by unfold rg at *; omega⟩) fun i j h1 h2 => by subst h1; unfold rg at *; omega) (fun n hn => by unfold rg at hn; omega) (by decide) (fun _ => tyB false 3 (hD 2) (3 * cD 2) (kD 2) false) fun i hi => g_free 2 3 rfl (WS rfl) ty_int (fun i h => ⟨h, by decide⟩) (ty_var (T := .int (rg 1 4)) rfl) fun i h => by unfold rg at h; omega) fun es ⟨n, hn, hl, hp⟩ => ?_)
  obtain ⟨ks, e, hk⟩ := all_bbd es fun d hd => by
    obtain ⟨i, hi⟩ := List.getElem?_of_mem hd
    exact hp i d hi
  unfold rg at hn
  refine gl_frees e ?_ hk
  rw [e, bbd_len] at hl
  omega
end
end Oh
set_option maxHeartbeats 4000000
namespace Oh
open PySem PySem.Spec PyProof.Rows L2
open C8 (Cal Met Mak pe_c pe_mk pe_mt pe_mt0 pe_gc InsC call_isC tCut pss_cut fnBody fnArgs fnScope)
open LamX NdefX
/-! ### words: some variant of the last letter is free -/
theorem nodup_sub {α : Type} [BEq α] [LawfulBEq α] : ∀ {l m : List α}, l.Nodup → (∀ x ∈ l, x ∈ m) → l.length ≤ m.length
  | [], _, _, _ => Nat.zero_le _
  | a :: l, m, nd, h => by
    obtain ⟨n1, n2⟩ := List.nodup_cons.mp nd
    have ha := h a (List.mem_cons_self ..)
    have := nodup_sub (l := l) (m := m.erase a) n2 fun x hx => (List.mem_erase_of_ne fun e => n1 (by rw [← e]; exact hx)).mpr (h x (List.mem_cons_of_mem _ hx))
    rw [List.length_erase_of_mem ha] at this
    have := List.length_pos_of_mem ha
    simp only [List.length_cons]
    omega
def lt1 (z : Int) : Str := ⟨#[97 + z.toNat]⟩
def wdS (zs : List Int) : Str := ⟨(zs.map fun z => 97 + z.toNat).toArray⟩
theorem wdS_tl (zs : List Int) : (wdS zs).cps.toList = zs.map fun z => 97 + z.toNat := by simp [wdS]
theorem joinL_nil : ∀ L : List (List Nat), TL.joinL [] L = L.flatten
  | [] => rfl
  | [p] => by simp [TL.joinL]
  | p :: q :: r => by simp only [TL.joinL, joinL_nil (q :: r), List.flatten_cons, List.nil_append]
theorem join_wd (zs : List Int) : Txt.join ("" : Str) (zs.map lt1) = wdS zs := by
  have e : TL.tl (Txt.join ("" : Str) (zs.map lt1)) = TL.tl (wdS zs) := by
    rw [TL.join_eq, TL.tl_join, show TL.tl ("" : Str) = [] by decide, joinL_nil, List.map_map]
    show _ = (wdS zs).cps.toList
    rw [wdS_tl]
    induction zs with
    | nil => rfl
    | cons z zs ih =>
      rw [List.map_cons, List.flatten_cons, ih]
      rfl
  exact TL.ext_tl e
def LtOk (zs : List Int) : Prop := ∀ z ∈ zs, 0 ≤ z ∧ z < 26
theorem kept_few (pre : List Nat) : (keptS.filter fun k => k.cps.toList.dropLast == pre).length ≤ 15 := by
  cases h : keptS.filter fun k => k.cps.toList.dropLast == pre with
  | nil => exact Nat.zero_le _
  | cons k0 ks =>
    have hk : k0 ∈ keptS.filter fun k => k.cps.toList.dropLast == pre := by rw [h]; exact List.mem_cons_self ..
    obtain ⟨h1, h2⟩ := List.mem_filter.mp hk
    have e := eq_of_beq h2
    rw [← h, ← e]
    have : ∀ k0 ∈ keptS, (keptS.filter fun k => k.cps.toList.dropLast == k0.cps.toList.dropLast).length ≤ 15 := by decide +kernel
    exact this k0 h1
theorem some_free {pre : List Int} {z : Int} {us : List Str} (hu : us.length ≤ 10) : ∃ i : Nat, i < 26 ∧ (keptS ++ us).contains (wdS (pre ++ [(z + i) % 26])) = false := by
  by_cases h : ∃ i : Nat, i < 26 ∧ (keptS ++ us).contains (wdS (pre ++ [(z + i) % 26])) = false
  · exact h
  · exfalso
    have all : ∀ i : Nat, i < 26 → wdS (pre ++ [(z + i) % 26]) ∈ keptS ++ us := fun i hi => by
      cases hc : (keptS ++ us).contains (wdS (pre ++ [(z + i) % 26])) with
      | true => exact List.contains_iff_mem.mp hc
      | false => exact absurd ⟨i, hi, hc⟩ h
    have tlw : ∀ i : Nat, (wdS (pre ++ [(z + i) % 26])).cps.toList = (pre.map fun z => 97 + z.toNat) ++ [97 + ((z + i) % 26).toNat] := fun i => by rw [wdS_tl, List.map_append]; rfl
    have nd : ((List.range 26).map fun i : Nat => wdS (pre ++ [(z + i) % 26])).Nodup := by
      refine List.Pairwise.map _ (R := fun i j : Nat => i < j ∧ j < 26) ?_ ?_
      · intro i j hij e
        have e := congrArg (fun s : Str => s.cps.toList) e
        have e := (tlw _).symm.trans (e.trans (tlw _))
        have := List.cons.inj (List.append_cancel_left e) |>.1
        omega
      · have : ∀ n, (List.range n).Pairwise fun i j => i < j ∧ j < n := fun n => by
          refine (List.pairwise_lt_range (n := n)).imp_of_mem fun {a b} ha hb h => ⟨h, List.mem_range.mp hb⟩
        exact this 26
    have := nodup_sub (m := (keptS.filter fun k => k.cps.toList.dropLast == (pre.map fun z => 97 + z.toNat)) ++ us) nd fun x hx => by
      obtain ⟨i, hi, rfl⟩ := List.mem_map.mp hx
      rcases List.mem_append.mp (all i (List.mem_range.mp hi)) with hm | hm
      · refine List.mem_append_left _ (List.mem_filter.mpr ⟨hm, ?_⟩)
        rw [tlw, List.dropLast_concat]
        exact beq_self_eq_true _
      · exact List.mem_append_right _ hm
    rw [List.length_map, List.length_range, List.length_append] at this
    have := kept_few (pre.map fun z => 97 + z.toNat)
    omega
theorem wd_name {zs : List Int} {us : List Str} (h : LtOk zs) (hl : 1 ≤ zs.length ∧ zs.length ≤ 8) (hc : (keptS ++ us).contains (wdS zs) = false) : NameOk (wdS zs) ∧ wdS zs ∉ us := by
  have hc' : wdS zs ∉ keptS ++ us := fun hm => by rw [List.contains_iff_mem.mpr hm] at hc; cases hc
  refine ⟨⟨?_, fun c hm => ?_, ?_⟩, fun hm => hc' (List.mem_append_right _ hm)⟩
  · show 1 ≤ (wdS zs).cps.size ∧ (wdS zs).cps.size ≤ 8
    rw [← Array.length_toList, wdS_tl, List.length_map]
    exact hl
  · rw [wdS_tl] at hm
    obtain ⟨z, hz, rfl⟩ := List.mem_map.mp hm
    have := h z hz
    omega
  · cases hk : keptS.contains (wdS zs) with
    | false => rfl
    | true => exact absurd (List.mem_append_left _ (List.contains_iff_mem.mp hk)) hc'
section
variable {P : Program} {w : World} {K : PySem.W.Frag} {mg : Str → Option Value} {base : Heap} {A L Pt : Addr} {E : XK} {te ta tb tc td : TE} {H0 : Hp}
theorem ty_catL {F : Fm} {Γ : Gam F} {τ τ' : List PyData → Prop} (ha : TyE F H0 Γ ta (.ls K τ)) (hb : TyE F H0 Γ tb (.ls K τ')) (hl : ∀ as bs, τ as → τ' bs → as.length + bs.length ≤ 1000) : TyE F H0 Γ (tOp rCat ta tb) (.nls K H0 fun ds => ∃ as bs, ds = as ++ bs ∧ τ as ∧ τ' bs) := fun σ H e env =>
  ev_op (ha σ H e env) (hb σ H e env) fun x y H1 e1 ⟨a, xs, ds, h1, h3, h4, h5, h6⟩ ⟨b, ys, es, g1, g3, g4, g5, g6⟩ Q q => by
    refine ⟨a, b, xs, ys, h1, g1, h4, g4, by rw [h5.len, g5.len]; exact Nat.le_trans (hl ds es h6 g6) (by decide), fun p hp => ?_⟩
    have en : F.L H1 (upd H1 p (.lst (xs ++ ys))) := .new e1.good hp
    exact q _ _ en ⟨p, _, ds ++ es, rfl, L_back (e.trans e1) hp, Fm.nosp e1.good hp, upd_same, (h5.tl (en.tl e1.good)).append (g5.tl (en.tl e1.good)), ds, es, rfl, h6, g6⟩
theorem ty_sub_ls {F : Fm} {Γ : Gam F} {a : Addr} {τ : List PyData → Prop} {i : Nat} (h : Γ[i]? = some (some (.at K a τ))) : TyE F H0 Γ (tVar i) (.ls K τ) := ls_at (ty_var h) fun _ p => p
/-- on with a statement -/
theorem go_seq {F : Fm} {Γ Γ' : Gam F} {ts tw : TS} {σ : L2.St} {H : Hp} {D : Ends} (e : F.L H0 H) (env : Env Γ σ H) (h : TyN F H0 Γ ts Γ') (k : ∀ σ' H', F.L H0 H' → Env Γ' σ' H' → tw D σ' H') : tSeq ts tw D σ H := h σ H e env { D with nx := tw D } k
theorem go_new {F : Fm} {Γ : Gam F} {tw : TS} {σ : L2.St} {H : Hp} {D : Ends} {τ : List PyData → Prop} {i : Nat} (e : F.L H0 H) (env : Env Γ σ H) (h : TyE F H0 Γ te (.nls K H0 τ)) (k : ∀ a σ' H', H0 a = none → F.L H0 H' → Env (Γ.set i (some (.at K a τ))) σ' H' → tw D σ' H') : tSeq (tAsg te (gName i)) tw D σ H :=
  h σ H e env H (.refl e.good) _ fun v H1 e1 ⟨a, xs, ds, h1, h2, h3, h4, h5, h6⟩ => k a _ H1 h2 (e.trans e1) ((env.st e.good e1).set i ⟨xs, ds, h1, h3, h4, h5, h6⟩)
def spWord (Pt : Addr) : Sp := fun vs H Q _ => ∃ (A L u : Addr) (us : List Str), vs = [.ref A, .ref u] ∧ (Fp A L Pt).G H ∧ ¬ (Fp A L Pt).sp u ∧ H u = some (.lst (us.map V.str)) ∧ us.length ≤ 10 ∧
  ∀ x H', (∀ b o, H b = some o → ¬ (Fp A L Pt).sp b → b ≠ u → H' b = some o) → (Fp A L Pt).G H' → H' u = some (.lst ((us ++ [x]).map V.str)) → NameOk x ∧ x ∉ us → Q (.str x) H'
theorem tda_strsD : ∀ us : List Str, TdA K H0 (us.map V.str) (us.map .str)
  | [] => .nil
  | x :: us => .cons (.str x) (tda_strsD us)
theorem atI_az {z : Int} (h : 0 ≤ z ∧ z < 26) : atI ("abcdefghijklmnopqrstuvwxyz" : Str).cps.toList z = some (97 + z.toNat) := by
  have e : ("abcdefghijklmnopqrstuvwxyz" : Str).cps.toList = (List.range 26).map (97 + ·) := by decide +kernel
  obtain ⟨n, rfl⟩ := Int.eq_ofNat_of_zero_le h.1
  rw [e]
  exact atI_nat (by rw [List.getElem?_map, List.getElem?_range (by omega)]; rfl)
theorem dt_ints {p : Int → Prop} : ∀ {es : List PyData}, (∀ d ∈ es, ∃ z, d = .int z ∧ p z) → ∃ zs : List Int, es = zs.map .int ∧ ∀ z ∈ zs, p z
  | [], _ => ⟨[], rfl, fun z hz => by cases hz⟩
  | e :: es, h => by
    obtain ⟨z, rfl, hz⟩ := h e (List.mem_cons_self ..)
    obtain ⟨zs, rfl, hzs⟩ := dt_ints (es := es) fun d hd => h d (List.mem_cons_of_mem _ hd)
    exact ⟨z :: zs, rfl, fun y hy => (List.mem_cons.mp hy).elim (fun e => e ▸ hz) (hzs y)⟩
theorem lt1_sum : ∀ zs : List Int, ((zs.map lt1).map (·.length)).sum = zs.length
  | [] => rfl
  | z :: zs => by simp only [List.map_cons, List.sum_cons, lt1_sum zs, List.length_cons]; rw [show (lt1 z).length = 1 from rfl]; omega
theorem ev_lcStr {F : Fm} {σ : L2.St} {H : Hp} {i j : Nat} {l : Addr} {zs : List Int} (g : F.G H) (hi : σ[i]? = some (some (.ref l))) (hl : H l = some (.lst (zs.map V.int))) (sp : ¬ F.sp l) (ok : LtOk zs) (hn : zs.length ≤ 1000) (hj : j < σ.length) :
    Ev F (tLc (iList K (tVar i)) (gName j) tYes (tOp rIxS (tC (.str "abcdefghijklmnopqrstuvwxyz")) (tVar j)) [j]) σ H (.nls K H fun ds => ds = (zs.map lt1).map .str) := fun H1 e1 Q q => by
  refine ⟨_, hi, l, rfl, ⟨_, .of (e1.1 _ _ hl sp)⟩, fun Dd hD => ?_⟩
  have g1 := e1.good
  have hl1 := e1.1 _ _ hl sp
  refine lc_any (F := F) (K := K) (n := (zs.map V.int).length) g1 (walk_list.mono (fun H' e => SqL.of (e.1 _ _ hl1 sp)) fun _ _ _ _ _ _ y => y) hD (by rw [List.length_map]; omega) (fun i d => ∃ z, zs[i]? = some z ∧ d = .str (lt1 z)) ?_ ?_
  · rintro i' y H8 H9 hi' e8 ⟨rfl, hy⟩
    rw [List.getElem?_map] at hy
    cases hzi : zs[i']? with
    | none => rw [hzi] at hy; cases hy
    | some zi =>
      rw [hzi] at hy
      obtain rfl : V.int zi = y := Option.some.inj hy
      refine ⟨.refl e8.good, fun R hR => hR _ (wipe_one _ j _) fun H10 e10 Q q => ?_⟩
      have hjw : ((wipe σ [j]).set j (some (V.int zi)))[j]? = some (some (V.int zi)) := List.getElem?_set_self (by rw [wipe_length]; exact hj)
      exact ⟨_, hjw, _, zi, _, rfl, rfl, by decide, atI_az (ok zi (List.mem_of_getElem? hzi)), q _ _ (.refl e10.good) ⟨.str (lt1 zi), ⟨zi, rfl, rfl⟩, .str _⟩⟩
  · intro H8 ys es e8 hD8 htd hlen hp
    refine q _ _ e8 ⟨Dd, ys, es, rfl, L_back e1 hD, Fm.nosp g1 hD, hD8, htd, List.ext_getElem? fun i => ?_⟩
    rw [List.getElem?_map, List.getElem?_map]
    cases hzi : zs[i]? with
    | none =>
      rw [List.length_map] at hlen
      rw [List.getElem?_eq_none_iff] at hzi
      exact List.getElem?_eq_none (by omega)
    | some zi =>
      have hlt : i < es.length := by
        rw [hlen, List.length_map]
        exact (List.getElem?_eq_some_iff.mp hzi).1
      obtain ⟨z', hz1, hz2⟩ := hp i es[i] (List.getElem?_eq_getElem hlt)
      rw [hzi] at hz1
      cases hz1
      rw [List.getElem?_eq_getElem hlt, hz2]
      rfl
theorem sc_law_word : FnScope ["_law_pot_here", "_law_used", "_law_kept_here", "_law_many", "_law_letters", "_law_k", "_law_word_here", "_law_at"] ["_law_pot_here", "_law_used"] (fnScope s_law_word) := ⟨rfl, rfl, rfl, by decide +kernel, rfl, by decide +kernel, by decide +kernel⟩
theorem c_law_word (T : Tx w K mg) : Cal P w K mg base 4 "_law_word" (spWord Pt) [] := by
  have c_law_draw := c_law_draw (P := P) (base := base) (Pt := Pt) T
  refine T.d_law_word.cal sc_law_word (fun F => ⟨[], .nil, F.bindsN fun _ _ _ _ _ _ us hl => match us, hl with | [_, _], _ => rfl⟩) (by rintro vs H Q E ⟨A, L, u, us, rfl, _⟩; rfl) fun f cdv Ar outer s H vs Q E hr h => ?_
  obtain ⟨A, L, u, us, rfl, g, hsp, hu, hu10, hQ⟩ := h
  refine ⟨_, (pss_cons (ps_set (i := 2) sc_law_word.nd rfl (by first | exact Or.inl rfl | exact Or.inr rfl) (pe_lst (pa_cons pe_str (pa_cons pe_str (pa_cons pe_str (pa_cons pe_str (pa_cons pe_str (pa_cons pe_str (pa_cons pe_str (pa_cons pe_str (pa_cons pe_str (pa_cons pe_str (pa_cons pe_str (pa_cons pe_str (pa_cons pe_str (pa_cons pe_str pa_nil))))))))))))))))
    (pss_cons (ps_set (i := 2) sc_law_word.nd rfl (by first | exact Or.inl rfl | exact Or.inr rfl) (pe_op op_cat (pe_op op_cat (pv 2) (pe_lst (pa_cons pe_str (pa_cons pe_str (pa_cons pe_str (pa_cons pe_str (pa_cons pe_str (pa_cons pe_str (pa_cons pe_str (pa_cons pe_str pa_nil)))))))))) (pv 1)))
    (pss_cons (ps_set (i := 3) sc_law_word.nd rfl (by first | exact Or.inl rfl | exact Or.inr rfl) (pe_op op_add pe_int (pe_c c_law_draw hr (by omega) rfl (pa_cons (pv 0) (pa_cons pe_int pa_nil)))))
    (pss_cons (ps_if (pt_cmpR op_eq (pe_c c_law_draw hr (by omega) rfl (pa_cons (pv 0) (pa_cons pe_int pa_nil))) pe_int (nomark _))
      (pss_one (ps_set (i := 3) sc_law_word.nd rfl (by first | exact Or.inl rfl | exact Or.inr rfl) (pe_op op_add pe_int (pe_c c_law_draw hr (by omega) rfl (pa_cons (pv 0) (pa_cons pe_int pa_nil))))))
      pss_nil)
    (pss_cons (ps_setLc (i := 4) (own := [("_law_k", 5)]) (g := (gName 5)) (tt := tYes) rfl sc_law_word.nd rfl rfl (sw_true rfl rfl rfl (by decide +kernel)) (pi_range1 rfl T.z_range (pa_cons (pv 3) pa_nil)) (blkOk_by (own := [("_law_k", 5)]) (N := ["_law_pot_here", "_law_used", "_law_kept_here", "_law_many", "_law_letters", "_law_k", "_law_word_here", "_law_at"]) (sc := fnScope s_law_word) (by decide +kernel)) (fun _ _ _ _ _ => (pg_name (i := 5) sc_law_word.nd rfl (Or.inl rfl))) (fun _ _ _ _ _ => pts_nil) (fun _ _ _ _ _ => (pe_c c_law_draw hr (by omega) rfl (pa_cons (pv 0) (pa_cons pe_int pa_nil)))))
    (pss_cons (ps_set (i := 6) sc_law_word.nd rfl (by first | exact Or.inl rfl | exact Or.inr rfl) pe_str)
    (pss_cons (ps_for PassesOwn.never rfl (pi_range1 rfl T.z_range (pa_cons pe_int pa_nil)) (pg_name (i := 5) sc_law_word.nd rfl (Or.inl rfl))
      (pss_cons (ps_set (i := 6) sc_law_word.nd rfl (by first | exact Or.inl rfl | exact Or.inr rfl) (pe_join pe_str (pe_lc (own := [("_law_at", 7)]) (g := (gName 7)) (tt := tYes) rfl sc_law_word.nd (pi_list (pv 4)) (blkOk_by (own := [("_law_at", 7)]) (N := ["_law_pot_here", "_law_used", "_law_kept_here", "_law_many", "_law_letters", "_law_k", "_law_word_here", "_law_at"]) (sc := fnScope s_law_word) (by decide +kernel)) (fun _ _ _ _ _ => (pg_name (i := 7) sc_law_word.nd rfl (Or.inl rfl))) (fun _ _ _ _ _ => pts_nil) (fun _ _ _ _ _ => (pe_ix ix_str pe_str (pv 7) (fun _ _ => rfl))))))
      (pss_cons (ps_if (pt_cmpR op_notIn_seq (pv 6) (pv 2) rfl)
        (pss_one ps_break)
        pss_nil)
      (pss_one (ps_asg (pe_op op_mod (pe_op op_add (pe_ix (r := rIxL K) ix_list (pv 4) (pe_op op_sub (pv 3) pe_int) (fun _ _ => rfl)) pe_int) pe_int) (pg_sub (pv 4) (pe_op op_sub (pv 3) pe_int) set_list))))))
    (pss_cons (ps_expr (pe_bm PySem.F.plainAttrs_list PySem.F.slot_list_append PySem.F.type_list_append mt_append (pv 1) (pa_cons (pv 6) pa_nil)))
    (pss_one (ps_ret (pv 6))))))))))), ?_⟩
  have env0 : Env (F := Fp A L Pt) [some (.eq (.ref A)), some (.at K u (· = us.map .str)), none, none, none, none, none, none] (L2.start ["_law_pot_here", "_law_used", "_law_kept_here", "_law_many", "_law_letters", "_law_k", "_law_word_here", "_law_at"] [.ref A, .ref u]) H := ⟨⟨_, rfl, rfl⟩, ⟨_, rfl, _, _, rfl, hsp, hu, tda_strsD us, rfl⟩, trivial⟩
  refine go_seq (H0 := H) (.refl g) env0 (tn_set (T := .ls K (· = (keptS.take 14).map .str)) (ls_nls (ty_lst (tl_cons ty_str (tl_cons ty_str (tl_cons ty_str (tl_cons ty_str (tl_cons ty_str (tl_cons ty_str (tl_cons ty_str (tl_cons ty_str (tl_cons ty_str (tl_cons ty_str (tl_cons ty_str (tl_cons ty_str (tl_cons ty_str (tl_cons ty_str tl_nil)))))))))))))) fun ds h => ?_) fun ds h => ?_)) fun σ1 H1 e1 env1 => ?_
  · rw [allD_eq (ds := (keptS.take 14).map .str) h]; decide
  · exact allD_eq (ds := (keptS.take 14).map .str) h
  refine go_seq e1 env1 (tn_set (T := .ls K (· = (keptS ++ us).map .str)) (ls_nls (ty_catL (τ := (· = keptS.map .str)) (ls_nls (ty_catL (τ' := (· = (keptS.drop 14).map .str)) (ty_var (T := .ls K (· = (keptS.take 14).map .str)) rfl) (ls_nls (ty_lst (tl_cons ty_str (tl_cons ty_str (tl_cons ty_str (tl_cons ty_str (tl_cons ty_str (tl_cons ty_str (tl_cons ty_str (tl_cons ty_str tl_nil)))))))) fun ds h => ?_) fun ds h => ?_) fun as bs h1 h2 => ?_) fun ds h => ?_) (ty_sub_ls rfl) fun as bs h1 h2 => ?_) fun ds h => ?_)) fun σ2 H2 e2 env2 => ?_
  · rw [allD_eq (ds := (keptS.drop 14).map .str) h]; decide
  · exact allD_eq (ds := (keptS.drop 14).map .str) h
  · rw [h1, h2]; decide
  · obtain ⟨as, bs, rfl, rfl, rfl⟩ := h
    rw [← List.map_append, List.take_append_drop]
  · rw [h1, h2, List.length_map, List.length_map, show keptS.length = 22 by decide]; omega
  · obtain ⟨as, bs, rfl, rfl, rfl⟩ := h
    rw [List.map_append]
  refine go_seq e2 env2 (tn_set (ty_addR 1 4 (ty_drawL 3 rfl))) fun σ3 H3 e3 env3 => ?_
  refine go_seq e3 env3 (tn_if (Γ' := [some (.eq (.ref A)), some (.at K u (· = us.map .str)), some (.ls K (· = (keptS ++ us).map .str)), some (.int (rg 1 9)), none, none, none, none]) (tt_any (tt_eq (ty_drawL 6 rfl) ty_int)) (fun _ => tn_set (ty_i (ty_addR 4 9 (ty_drawL 5 rfl)) fun i h => by unfold rg at *; omega)) fun _ => tn_next (.so (fun _ _ h => h) (.so (fun _ _ h => h) (.so (fun _ _ h => h) (.so (fun v H ⟨i, e, p⟩ => ⟨i, e, by unfold rg at *; omega⟩) (.refl _)))))) fun σ4 H4 e4 env4 => ?_
  match σ4, env4 with
  | [_, _, _, _, s4, s5, s6, s7], ⟨⟨_, rfl, rfl⟩, ⟨_, rfl, xu, du, rfl, _, hu4, tdu, hdu⟩, ⟨_, rfl, kk, xk, dk, rfl, spk, hk4, tdk, hdk⟩, ⟨_, rfl, m, rfl, hm⟩, _⟩ =>
  obtain rfl : du = us.map .str := hdu
  obtain rfl : dk = (keptS ++ us).map .str := hdk
  have g4 := e4.good
  have hus := tda_strs tdu
  subst hus
  have hks := tda_strs tdk
  subst hks
  have envB : Env (F := Fp A L Pt) [some (.eq (.ref A)), some (.eq (.ref u)), some (.eq (.ref kk)), some (.int (· = m)), none, none, none, none] [some (.ref A), some (.ref u), some (.ref kk), some (.int m), s4, s5, s6, s7] H4 := ⟨⟨_, rfl, rfl⟩, ⟨_, rfl, rfl⟩, ⟨_, rfl, rfl⟩, ⟨_, rfl, m, rfl, rfl⟩, trivial⟩
  unfold rg at hm
  refine go_new (K := K) (H0 := H4) (.refl g4) envB (nls_sub (τ' := fun ds => ∃ zs : List Int, ds = zs.map .int ∧ LtOk zs ∧ (zs.length : Int) = m) (ty_lcR (φ := (· = m)) (m := 8) rfl (ty_var rfl) (fun n hn => by subst hn; omega) (by decide) (fun _ d => ∃ z, d = .int z ∧ 0 ≤ z ∧ z < 26) fun i hi => ty_iD (ty_drawL 26 rfl) fun i h => ⟨i, rfl, h⟩) fun es ⟨n, hn, hl, hp⟩ => ?_) fun l σ5 H5 hl4 e5 env5 => ?_
  · obtain ⟨zs, rfl, hz⟩ := dt_ints fun d hd => by
      obtain ⟨i, hi⟩ := List.getElem?_of_mem hd
      exact hp i d hi
    rw [List.length_map] at hl
    exact ⟨zs, rfl, hz, by omega⟩
  match σ5, env5 with
  | [_, _, _, _, _, s5, s6, s7], ⟨⟨_, rfl, rfl⟩, ⟨_, rfl, rfl⟩, ⟨_, rfl, rfl⟩, ⟨_, rfl, m', rfl, hm'⟩, ⟨_, rfl, xl, dl, rfl, spl, hl5, tdl, hdl⟩, _⟩ =>
  obtain rfl : m' = m := hm'
  obtain ⟨zs, rfl, hz, hzl⟩ := hdl
  have hxl := tda_ints tdl
  subst hxl
  have nkl : kk ≠ l := fun z => by rw [z, hl4] at hk4; cases hk4
  have nul : u ≠ l := fun z => by rw [z, hl4] at hu4; cases hu4
  obtain ⟨pre, z, rfl⟩ : ∃ pre z, zs = pre ++ [z] := by
    cases h : zs.reverse with
    | nil => rw [List.reverse_eq_nil_iff] at h; subst h; simp at hzl; omega
    | cons z r => exact ⟨r.reverse, z, by rw [← List.reverse_reverse zs, h, List.reverse_cons]⟩
  have hpl : (pre.length : Int) + 1 = m' := by rw [← hzl]; simp
  have hz0 := hz z (by simp)
  have lok : ∀ i : Nat, LtOk (pre ++ [(z + i) % 26]) := fun i y hy => by
    rcases List.mem_append.mp hy with hy | hy
    · exact hz y (List.mem_append_left _ hy)
    · obtain rfl := List.mem_singleton.mp hy
      omega
  let F := Fp A L Pt
  let St : Nat → L2.St → Hp → Prop := fun i σ' H' => F.L H4 H' ∧ H' l = some (.lst ((pre ++ [(z + i) % 26]).map V.int)) ∧ (∃ s5 s6 s7, σ' = [some (.ref A), some (.ref u), some (.ref kk), some (.int m'), some (.ref l), s5, s6, s7]) ∧ ∀ j : Nat, j < i → (keptS ++ us).contains (wdS (pre ++ [(z + j) % 26])) = true
  refine ⟨26, rfl, by decide, by decide, for_it walk_range St ⟨e5, ?_, ⟨_, _, _, rfl⟩, fun j hj => absurd hj (by omega)⟩ (fun i σ' H' _ _ => trivial) ?_ ?_⟩
  · rw [show (z + (0 : Nat)) % 26 = z by omega]
    exact hl5
  · rintro i x σ' H6 H7 hi ⟨e6, hl6, ⟨t5, t6, t7, rfl⟩, hkept⟩ ⟨rfl, hx⟩
    generalize hzs : pre ++ [(z + (i : Nat)) % 26] = zs at hl6
    have hzok : LtOk zs := hzs ▸ lok i
    have hzlen : (zs.length : Int) = m' := by rw [← hzs]; simp; omega
    refine ⟨⟨"", rfl⟩, ev_lcStr (F := F) (K := K) (zs := zs) (i := 4) (j := 7) (σ := [some (.ref A), some (.ref u), some (.ref kk), some (.int m'), some (.ref l), some x, t6, t7]) e6.good rfl hl6 spl hzok (by omega) (by simp) H7 (.refl e6.good) _ fun y H8 e8 ⟨Dd, ys, ds, hy, _, _, hD8, htd, hds⟩ => ?_⟩
    · subst hy
      rw [show ds = _ from hds] at htd
      have hys := tda_strs htd
      subst hys
      refine ⟨"", Dd, zs.map lt1, rfl, rfl, .inl (.of hD8), ?_, ?_⟩
      · rw [lt1_sum, show ("" : Str).length = 0 by decide]; omega
      rw [join_wd]
      have e68 := e6.trans e8
      have hk8 := e68.1 _ _ hk4 spk
      refine ⟨_, rfl, _, rfl, kk, _, rfl, .inl (.of hk8), rfl, by simp [flatV], ?_⟩
      rw [inV_strs]
      cases hc : (keptS ++ us).contains (wdS zs) with
      | false =>
        refine ⟨true, rfl, ?_⟩
        simp only [↓reduceIte]
        have hu8 := e68.1 _ _ hu4 hsp
        refine ⟨.ref u, rfl, (.inl ⟨rfl, _, .of hu8⟩), _, rfl, u, _, _, rfl, rfl, hu8, ?_, _, rfl, ?_⟩
        · rw [List.length_map]; exact lt_sl (by omega)
        · have e08 := e4.trans e68
          refine hQ (wdS zs) _ (fun b o hb ns nb => ?_) (F.chg _ _ _ _ e68.good hsp hu8 (.inl ⟨_, rfl⟩)) ?_ (wd_name hzok (by omega) hc)
          · rw [upd_ne nb]
            exact e08.1 b o hb ns
          · rw [upd_same, List.map_append]; rfl
      | true =>
        refine ⟨false, rfl, ?_⟩
        simp only [Bool.false_eq_true, ↓reduceIte]
        have hl8 := e8.1 _ _ hl6 spl
        have hpn : (m' - 1 : Int) = (pre.length : Nat) := by omega
        have hat : atI (zs.map V.int) (m' - 1) = some (.int ((z + (i : Nat)) % 26)) := by
          rw [hpn, ← hzs]
          exact atI_nat (by simp)
        have hix : ixN (zs.map V.int).length (m' - 1) = some pre.length := by
          unfold ixN
          rw [hpn, List.length_map, if_pos (by omega), if_pos (by omega)]
          simp
        have hset : (zs.map V.int).set pre.length (.int (((z + (i : Nat)) % 26 + 1) % 26)) = (pre ++ [(z + ((i + 1 : Nat) : Int)) % 26]).map V.int := by
          rw [← hzs, List.map_append, List.set_append_right _ _ (by simp), List.length_map, Nat.sub_self, List.map_append, show ((z + (i : Nat)) % 26 + 1) % 26 = (z + ((i + 1 : Nat) : Int)) % 26 by omega]
          rfl
        refine ⟨.ref l, rfl, .int m', rfl, m', 1, rfl, rfl, l, _, m' - 1, _, rfl, rfl, .of hl8, hat, _, 1, rfl, rfl, _, 26, rfl, rfl, (show (0 : Int) < 26 by decide), ?_⟩
        refine ⟨.ref l, rfl, .int m', rfl, m', 1, rfl, rfl, l, _, m' - 1, pre.length, rfl, rfl, hl8, hix, ?_⟩
        rw [hset]
        refine ⟨L_upd g4 e68 hl4 hl8, upd_same, ⟨_, _, _, rfl⟩, fun j hj => ?_⟩
        rcases Nat.lt_or_ge j i with q | q
        · exact hkept j q
        · obtain rfl : j = i := by omega
          rw [hzs]
          exact hc
  · rintro σ' H' ⟨e6, hl6, _, hkept⟩
    obtain ⟨i, hi, hc⟩ := some_free (pre := pre) (z := z) hu10
    rw [hkept i hi] at hc
    cases hc
end
end Oh
set_option maxHeartbeats 4000000
namespace Oh
open PySem PySem.Spec PyProof.Rows L2
open C8 (Cal Met Mak pe_c pe_mk pe_mt pe_mt0 pe_gc InsC call_isC tCut pss_cut fnBody fnArgs fnScope)
open LamX NdefX
section
variable {P : Program} {w : World} {K : PySem.W.Frag} {mg : Str → Option Value} {base : Heap} {A L Pt : Addr} {E : XK} {te ta tb tc td : TE} {H0 : Hp}
theorem ty_sliceL {F : Fm} {Γ : Gam F} {τ ρ : List PyData → Prop} {tl th : TO} {φ ψ : Option Int → Prop} (h : TyE F H0 Γ te (.ls K τ)) (hl : TyO (H0 := H0) Γ tl φ) (hh : TyO (H0 := H0) Γ th ψ)
    (w : ∀ ds lo hi, τ ds → φ lo → ψ hi → ρ ((ds.drop (HT.sIx ds.length 0 lo)).take (HT.sIx ds.length ds.length hi - HT.sIx ds.length 0 lo))) : TyE F H0 Γ (tSl (rSlL K) te tl th) (.nls K H0 ρ) := fun σ H e env H1 e1 Q q =>
  h σ H e env H1 e1 _ fun v H2 e2 ⟨a, xs, ds, hv, hsp, ha, td, hd⟩ => hl σ H e env H2 (e1.trans e2) _ fun lo H3 e3 plo => hh σ H e env H3 ((e1.trans e2).trans e3) _ fun hi H4 e4 phi => by
    have hr := w ds lo hi hd plo phi
    have e24 := e3.trans e4
    have hx4 := td.tl (e24.tl e2.good)
    rw [← td.len] at hr
    refine ⟨a, xs, hv, .of (e24.1 _ _ ha hsp), fun p hp => ?_⟩
    have en : F.L H4 (upd H4 p (.lst (cutV xs lo hi))) := .new e4.good hp
    exact q _ _ ((e2.trans e24).trans en) ⟨p, _, _, rfl, L_back (((e.trans e1).trans e2).trans e24) hp, Fm.nosp e4.good hp, upd_same, tda_take (tda_drop (hx4.tl (en.tl e4.good)) _) _, hr⟩
theorem to_sub {F : Fm} {Γ : Gam F} {to : TO} {φ ψ : Option Int → Prop} (h : TyO (H0 := H0) Γ to φ) (w : ∀ o, φ o → ψ o) : TyO (H0 := H0) Γ to ψ := fun σ H e env H1 e1 Q q => h σ H e env H1 e1 Q fun o H2 e2 p => q o H2 e2 (w o p)
theorem to_c {F : Fm} {Γ : Gam F} {n : Int} : TyO (H0 := H0) Γ (tPart (tC (.int n))) fun o => o = some n := to_sub (to_some ty_int) fun o ⟨i, e, p⟩ => by rw [e, p]
def spCast (Pt : Addr) : Sp := fun vs H Q _ => ∃ A L : Addr, vs = [.ref A] ∧ (Fp A L Pt).G H ∧ ∀ p ws H', (Fp A L Pt).L H H' → H p = none → H' p = some (.lst (ws.map V.str)) → WOk ws → Q (.ref p) H'
theorem wok_all {us : List Str} (hl : us.length = 11) (nm : ∀ x ∈ us, NameOk x) (nd : us.Nodup) : WOk us := ⟨hl, nm, nd.sublist (List.take_sublist _ _)⟩
theorem wok_two {us : List Str} (hl : us.length = 11) (nm : ∀ x ∈ us, NameOk x) (nd : us.Nodup) : WOk (us.take 3 ++ us.drop 7 ++ us.drop 7) := by
  refine ⟨by simp [hl], fun x hx => ?_, ?_⟩
  · rcases List.mem_append.mp hx with hx | hx
    · rcases List.mem_append.mp hx with hx | hx
      · exact nm x (List.mem_of_mem_take hx)
      · exact nm x (List.mem_of_mem_drop hx)
    · exact nm x (List.mem_of_mem_drop hx)
  · rw [List.take_append_of_le_length (by simp [hl]), List.take_of_length_le (by simp [hl])]
    refine nd.sublist ?_
    have : (us.take 3 ++ us.drop 7).Sublist (us.take 3 ++ us.drop 3) := (List.Sublist.refl _).append (by rw [show us.drop 7 = (us.drop 3).drop 4 by rw [List.drop_drop]]; exact List.drop_sublist _ _)
    rwa [List.take_append_drop] at this
theorem cut_none_hi {α : Type} (xs : List α) (n : Nat) : (xs.drop (HT.sIx xs.length 0 none)).take (HT.sIx xs.length xs.length (some (n : Nat)) - HT.sIx xs.length 0 none) = xs.take n := by
  rw [sIx_nat, show HT.sIx xs.length 0 none = 0 from rfl, List.drop_zero, Nat.sub_zero]
  rcases Nat.le_total n xs.length with h | h
  · rw [Nat.min_eq_left h]
  · rw [Nat.min_eq_right h, List.take_length, List.take_of_length_le h]
theorem cut_lo_none {α : Type} (xs : List α) (n : Nat) : (xs.drop (HT.sIx xs.length 0 (some (n : Nat)))).take (HT.sIx xs.length xs.length none - HT.sIx xs.length 0 (some (n : Nat))) = xs.drop n := by
  rw [sIx_nat, show HT.sIx xs.length xs.length none = xs.length from rfl]
  rcases Nat.le_total n xs.length with h | h
  · rw [Nat.min_eq_left h, List.take_of_length_le (by simp)]
  · rw [Nat.min_eq_right h, List.drop_length, Nat.sub_self, List.take_zero, List.drop_of_length_le h]
theorem sc_law_cast : FnScope ["_law_pot_here", "_law_words", "_law_k"] ["_law_pot_here"] (fnScope s_law_cast) := ⟨rfl, rfl, rfl, by decide +kernel, rfl, by decide +kernel, by decide +kernel⟩
theorem c_law_cast (T : Tx w K mg) : Cal P w K mg base 5 "_law_cast" (spCast Pt) [] := by
  have c_law_draw := c_law_draw (P := P) (base := base) (Pt := Pt) T
  have c_law_word := c_law_word (P := P) (base := base) (Pt := Pt) T
  refine T.d_law_cast.cal sc_law_cast (fun F => ⟨[], .nil, F.bindsN fun _ _ _ _ _ _ us hl => match us, hl with | [_], _ => rfl⟩) (by rintro vs H Q E ⟨A, L, rfl, _⟩; rfl) fun f cdv Ar outer s H vs Q E hr h => ?_
  obtain ⟨A, L, rfl, g, hQ⟩ := h
  refine ⟨_, (pss_cons (ps_set (i := 1) sc_law_cast.nd rfl (by first | exact Or.inl rfl | exact Or.inr rfl) (pe_lst pa_nil))
    (pss_cons (ps_for PassesOwn.never rfl (pi_range1 rfl T.z_range (pa_cons pe_int pa_nil)) (pg_name (i := 2) sc_law_cast.nd rfl (Or.inl rfl))
      (pss_one (ps_expr (pe_c c_law_word hr (by omega) rfl (pa_cons (pv 0) (pa_cons (pv 1) pa_nil))))))
    (pss_cons (ps_if (pt_cmpR op_eq (pe_c c_law_draw hr (by omega) rfl (pa_cons (pv 0) (pa_cons pe_int pa_nil))) pe_int (nomark _))
      (pss_one (ps_ret (pe_op op_cat (pe_op op_cat (pe_slice sl_list (pv 1) po_none (po_some pe_int)) (pe_slice sl_list (pv 1) (po_some pe_int) po_none)) (pe_slice sl_list (pv 1) (po_some pe_int) po_none))))
      pss_nil)
    (pss_one (ps_ret (pv 1)))))), ?_⟩
  have env0 : Env (F := Fp A L Pt) [some (.eq (.ref A)), none, none] (L2.start ["_law_pot_here", "_law_words", "_law_k"] [.ref A]) H := ⟨⟨_, rfl, rfl⟩, trivial⟩
  refine go_new (K := K) (H0 := H) (.refl g) env0 (ty_lst (tl_nil (K := K)) fun ds h => ?_) fun u σ1 H1 hu e1 env1 => ?_
  · match ds, h with
    | [], _ => simp
  match σ1, env1 with
  | [_, _, s2], ⟨⟨_, rfl, rfl⟩, ⟨_, rfl, xu, du, rfl, spu, hu1, tdu, hdu⟩, _⟩ =>
  obtain rfl : xu = [] := by
    match du, hdu, xu, tdu with
    | [], _, [], _ => rfl
  let F := Fp A L Pt
  let St : Nat → L2.St → Hp → Prop := fun i σ' H' => F.L H H' ∧ (∃ s2, σ' = [some (.ref A), some (.ref u), s2]) ∧ ∃ us : List Str, H' u = some (.lst (us.map V.str)) ∧ us.length = i ∧ (∀ x ∈ us, NameOk x) ∧ us.Nodup
  refine ⟨11, rfl, by decide, by decide, for_it walk_range St ⟨e1, ⟨_, rfl⟩, [], hu1, rfl, (fun x hx => by cases hx), List.nodup_nil⟩ (fun i σ' H' _ _ => trivial) ?_ ?_⟩
  · rintro i x σ' H2 H3 hi ⟨e2, ⟨t2, rfl⟩, us, hu2, hl, nm, nd⟩ ⟨rfl, hx⟩
    refine ⟨_, rfl, _, rfl, A, L, u, us, rfl, e2.good, spu, hu2, ?_, fun z H4 hf hg hu4 hz => ?_⟩
    · have hi : i < 11 := hi
      omega
    · refine ⟨⟨fun b o hb ns => hf b o (e2.1 _ _ hb ns) ns (ne_of_none hb hu), hg⟩, ⟨_, rfl⟩, us ++ [z], hu4, by simp [hl], fun y hy => ?_, ?_⟩
      · rcases List.mem_append.mp hy with hy | hy
        · exact nm y hy
        · obtain rfl := List.mem_singleton.mp hy
          exact hz.1
      · exact List.nodup_append.mpr ⟨nd, by simp, fun a ha b hb => by
          obtain rfl := List.mem_singleton.mp hb
          exact fun e => hz.2 (e ▸ ha)⟩
  · rintro σ' H2 ⟨e2, ⟨t2, rfl⟩, us, hu2, hl, nm, nd⟩
    have hl : us.length = 11 := hl
    have env2 : Env (F := F) [some (.eq (.ref A)), some (.nls K H (· = us.map .str)), none] [some (.ref A), some (.ref u), t2] H2 := ⟨⟨_, rfl, rfl⟩, ⟨_, rfl, u, _, _, rfl, hu, spu, hu2, tda_strsD us, rfl⟩, trivial⟩
    have R : ∀ {Γ : Gam F} {ts : TS}, TyR F H Γ ts (.nls K H fun ds => ∃ ws, ds = ws.map .str ∧ WOk ws) → Env Γ [some (.ref A), some (.ref u), t2] H2 → ∀ D : Ends, (∀ v H', (∃ p ws, v = .ref p ∧ F.L H H' ∧ H p = none ∧ H' p = some (.lst (ws.map V.str)) ∧ WOk ws) → D.rt v H') → ts D [some (.ref A), some (.ref u), t2] H2 := fun h env D q => h _ H2 e2 env D fun v H3 e3 ⟨p, xs, ds, hv, hp, _, hp3, td, ws, hds, ok⟩ => q v H3 ⟨p, ws, hv, e3, hp, by
      subst hds
      rw [hp3, tda_strs td], ok⟩
    refine R (tr_when (tt_any (tt_eq (ty_drawL 4 rfl) ty_int)) (fun _ => tr_ret ?_) fun _ => tr_ret ?_) env2 _ fun v H' ⟨p, ws, hv, e3, hp, hp3, ok⟩ => by rw [hv]; exact hQ p ws H' e3 hp hp3 ok
    · have cut7 : TyE F H [some (.eq (.ref A)), some (.nls K H (· = us.map .str)), none] (tSl (rSlL K) (tVar 1) (tPart (tC (.int 7))) tNoPart) (.nls K H (· = (us.drop 7).map .str)) := ty_sliceL (ls_nls (ty_var rfl) fun _ p => p) to_c to_none fun ds lo hi h1 h2 h3 => by
        subst h1 h2 h3
        rw [show (some (7 : Int)) = some ((7 : Nat) : Int) from rfl, cut_lo_none, List.map_drop]
      have cut3 : TyE F H [some (.eq (.ref A)), some (.nls K H (· = us.map .str)), none] (tSl (rSlL K) (tVar 1) tNoPart (tPart (tC (.int 3)))) (.nls K H (· = (us.take 3).map .str)) := ty_sliceL (ls_nls (ty_var rfl) fun _ p => p) to_none to_c fun ds lo hi h1 h2 h3 => by
        subst h1 h2 h3
        rw [show (some (3 : Int)) = some ((3 : Nat) : Int) from rfl, cut_none_hi, List.map_take]
      refine nls_sub (ty_catL (ls_nls (ty_catL (ls_nls cut3 fun _ p => p) (ls_nls cut7 fun _ p => p) fun as bs h1 h2 => ?_) fun _ p => p) (ls_nls cut7 fun _ p => p) fun as bs h1 h2 => ?_) fun ds h => ?_
      · subst h1 h2
        simp [hl]
      · obtain ⟨a, b, rfl, rfl, rfl⟩ := h1
        subst h2
        simp [hl]
      · obtain ⟨as, bs, rfl, ⟨a, b, rfl, rfl, rfl⟩, rfl⟩ := h
        exact ⟨_, by rw [List.map_append, List.map_append], wok_two hl nm nd⟩
    · exact nls_sub (ty_var rfl) fun ds h => ⟨us, h, wok_all hl nm nd⟩
end
end Oh
set_option maxHeartbeats 4000000
namespace Oh
open PySem PySem.Spec PyProof.Rows L2
open C8 (Cal Met Mak pe_c pe_mk pe_mt pe_mt0 pe_gc InsC call_isC tCut pss_cut fnBody fnArgs fnScope)
open LamX NdefX
/-- what the law makes of a game -/
structure GameOk (ns : List Str) (bs : List (List T)) (over : List Str) : Prop where
  len : ns.length = bs.length
  ge : 2 ≤ bs.length
  le : bs.length ≤ 3
  nd : ns.Nodup
  nm : ∀ x ∈ ns, NameOk x
  bk : ∀ b ∈ bs, BOk b
  own : ∀ b, bs[0]? = some b → b.length ≤ 8 ∧ ∀ t ∈ b, OpD 2 t
  ov : (∀ z ∈ over, NameOk z) ∧ AscFrom [] over
theorem ascFrom_of : ∀ {ys : List Str} {l : List Nat}, AscL ys → ys.Nodup → (∀ y ∈ ys, l < y.cps.toList) → AscFrom l ys
  | [], _, _, _, _ => trivial
  | y :: ys, l, ha, nd, h => by
    obtain ⟨a1, a2⟩ := List.pairwise_cons.mp ha
    obtain ⟨n1, n2⟩ := List.nodup_cons.mp nd
    refine ⟨h y (List.mem_cons_self ..), ascFrom_of a2 n2 fun z hz => ?_⟩
    by_cases q : y.cps.toList < z.cps.toList
    · exact q
    · exact absurd (show y = z from TL.ext_tl (List.le_antisymm (List.not_lt.mp (a1 z hz)) (List.not_lt.mp q))) fun e => n1 (e ▸ hz)
def gL2 : List PyData → Prop := fun ds => ∃ (b : List T) (bs : List (List T)), ds = (b :: bs).map blkD ∧ (1 ≤ bs.length ∧ bs.length ≤ 2) ∧ BkOk false 8 10 3000 3 false b ∧ ∀ c ∈ bs, BkOk false 12 9 1500 50 false c
theorem BkOk.bok {n h c k : Nat} {th : Bool} {b : List T} (s : BkOk false n h c k th b) (e0 : n ≤ 12) (e1 : h ≤ 11) (e2 : c ≤ 6000) : BOk b := ⟨Nat.le_trans s.len e0, s.ok, Nat.le_trans s.ht e1, Nat.le_trans s.cnt e2⟩
section
variable {P : Program} {w : World} {K : PySem.W.Frag} {mg : Str → Option Value} {base : Heap} {A L Pt : Addr} {E : XK} {te ta tb tc td : TE} {H0 : Hp}
structure GameAt (F : Fm) (K : PySem.W.Frag) (H : Hp) (g : Addr) (ns : List Str) (bs : List (List T)) (over : List Str) : Prop where
  ex : ∃ (n b r : Addr) (ov : V) (xs : List V), H g = some (.lst [.ref n, .ref b, ov, .ref r]) ∧ H n = some (.lst (ns.map V.str)) ∧ (H b = some (.lst xs) ∧ TdA K H xs (bs.map blkD)) ∧ Td K H ov (.tuple (over.map .str)) ∧ ¬ F.sp g ∧ ¬ F.sp n ∧ ¬ F.sp b
theorem GameAt.st {F : Fm} {H H' : Hp} {g : Addr} {ns : List Str} {bs : List (List T)} {over : List Str} (h : GameAt F K H g ns bs over) (gd : F.G H) (e : F.L H H') : GameAt F K H' g ns bs over := by
  obtain ⟨n, b, r, ov, xs, h1, h2, ⟨h3, h4⟩, h5, s1, s2, s3⟩ := h.ex
  exact ⟨n, b, r, ov, xs, e.1 _ _ h1 s1, e.1 _ _ h2 s2, ⟨e.1 _ _ h3 s3, h4.tl (e.tl gd)⟩, h5.tl (e.tl gd), s1, s2, s3⟩
theorem tn_put0 {F : Fm} {Γ : Gam F} {i : Nat} {a : Addr} {τ τ' : List PyData → Prop} {ρ : DT} (hn : H0 a = none) (hi : Γ[i]? = some (some (.at K a τ))) (hl : Γ.length ≤ 900) (h : TyE F H0 Γ te (.dt K ρ)) (s : StbA a i Γ) (w : ∀ ds d, τ ds → ρ d → 1 ≤ ds.length ∧ τ' (ds.set 0 d)) :
    TyN F H0 Γ (tAsg te (gSub (tVar i) (tC (.int 0)) rSetL)) (Γ.set i (some (.at K a τ'))) := fun σ H e env D q =>
  h σ H e env H (.refl e.good) _ fun y H1 e1 ⟨d, hd, td⟩ => by
    obtain ⟨v, hv, xs0, ds0, rfl, hsp, ha0, htd0, hτ0⟩ := env.get hi
    have ha1 : H1 a = some (.lst xs0) := e1.1 _ _ ha0 hsp
    have htd1 := htd0.tl (e1.tl e.good)
    obtain ⟨hl0, hw⟩ := w ds0 d hτ0 hd
    have hx : ixN xs0.length 0 = some 0 := by
      have := htd1.len
      unfold ixN
      rw [if_pos (by omega), if_pos (by omega)]
      rfl
    refine ⟨_, hv, a, xs0, 0, 0, rfl, rfl, ha1, hx, ?_⟩
    have tu : TL H1 (upd H1 a (.lst (xs0.set 0 y))) := tl_upd ha1
    have e01 := e.trans e1
    have eN : F.L H0 (upd H1 a (.lst (xs0.set 0 y))) := ⟨fun b u hb n => by rw [upd_ne (ne_of_none hb hn)]; exact e01.1 b u hb n, F.chg _ _ _ _ e01.2 hsp ha1 (.inl ⟨_, rfl⟩)⟩
    refine q _ _ eN (s.env ha1 hl (env.st e.good e1) ⟨_, _, rfl, hsp, upd_same, ?_, hw⟩ (.inl hv))
    have := htd1.tl tu
    match xs0, ds0, hl0, this with
    | _ :: _, _ :: _, _, .cons _ t => exact .cons (td.tl tu) t
/-- [x for x in list if ..] -/
theorem ty_lcF {F : Fm} {Γ : Gam F} {j : Nat} {tt : TT} {l : List PyData} (hj : Γ[j]? = some none) (hl : l.length ≤ 1000) (h : TyE F H0 Γ ta (.ls K (· = l))) (c : TyT F H0 (Γ.set j (some (.dt K (· ∈ l)))) tt fun _ => True) :
    TyE F H0 Γ (tLc (iList K ta) (gName j) tt (tVar j) [j]) (.nls K H0 fun es => es.Sublist l) := fun σ H e env H1 e1 Q q =>
  h σ H e env H1 e1 _ fun v H2 e2 ⟨a, xs, ds, ev, hsp, ha, hx, hτ⟩ => by
    subst ev
    obtain rfl : ds = l := hτ
    have e02 := (e.trans e1).trans e2
    refine ⟨a, rfl, ⟨xs, .of ha⟩, fun D hD => ?_⟩
    have hspD : ¬ F.sp D := Fm.nosp e2.good hD
    refine lc_it (walk_list (xs := xs)) (fun i H3 => F.L H2 H3 ∧ ∃ ys es, H3 D = some (.lst ys) ∧ TdA K H3 ys es ∧ es.Sublist (ds.take i)) ⟨.new e2.good hD, [], [], upd_same, .nil, List.nil_sublist _⟩ (fun i H3 _ z => SqL.of (z.1.1 _ _ ha hsp)) ?_ ?_
    · rintro i x H3 H4 hi ⟨e3, ys, es, hD3, htd, hsub⟩ ⟨rfl, hxi⟩
      obtain ⟨d, hd, td⟩ := hx.getV hxi
      refine ⟨wipe_one σ j x, ?_⟩
      have env3 := env.st e.good ((e1.trans e2).trans e3)
      have tdd := td.tl (e3.tl e2.good)
      have env4 : Env (Γ.set j (some (.dt K (· ∈ ds)))) ((wipe σ [j]).set j (some x)) H4 := (Env.none (Γ := Γ) (σ := σ) j hj env3).set j ⟨d, List.mem_of_getElem? hd, tdd⟩
      refine c _ H4 (e02.trans e3) env4 H4 (.refl e3.good) _ fun b H5 e5 _ => ?_
      have e35 := e3.trans e5
      have hD5 := e5.1 _ _ hD3 hspD
      have htd5 := htd.tl (e5.tl e3.good)
      have htake : ds.take (i + 1) = ds.take i ++ [d] := take_snoc hd
      cases b with
      | false =>
        simp only [Bool.false_eq_true, ↓reduceIte]
        exact ⟨e35, ys, es, hD5, htd5, by rw [htake]; exact hsub.trans (List.sublist_append_left _ _)⟩
      | true =>
        simp only [↓reduceIte]
        have hjl : j < σ.length := by
          rw [env.len]
          exact (List.getElem?_eq_some_iff.mp hj).1
        refine ⟨x, List.getElem?_set_self (by rw [wipe_length]; exact hjl), ys, hD5, ?_, ?_⟩
        · rw [htd5.len]
          have := hsub.length_le
          rw [List.length_take] at this
          exact lt_sl (by omega)
        · refine ⟨.late e2.good e35 hD hD5 (.inl ⟨_, rfl⟩), ys ++ [x], es ++ [d], upd_same, (htd5.append (.cons (tdd.tl (e5.tl e3.good)) .nil)).tl (tl_upd hD5), ?_⟩
          rw [htake]
          exact hsub.append (List.Sublist.refl _)
    · rintro H3 ⟨e3, ys, es, hD3, htd, hsub⟩
      rw [hx.len, List.take_length] at hsub
      exact q _ _ (e2.trans e3) ⟨D, ys, es, rfl, L_back e02 hD, hspD, hD3, htd, hsub⟩
theorem sub_strs : ∀ {l : List Str} {es : List PyData}, es.Sublist (l.map .str) → ∃ ss : List Str, es = ss.map .str ∧ ss.Sublist l := fun {l es} h => by
  obtain ⟨l', h1, h2⟩ := List.sublist_map_iff.mp h
  exact ⟨l', h2, h1⟩
theorem ty_sortS {F : Fm} {Γ : Gam F} {φ : List Str → Prop} (h : TyE F H0 Γ te (.ls K fun ds => ∃ ss : List Str, ds = ss.map .str ∧ φ ss)) : TyE F H0 Γ (tCB (rSortedSt K) (tCons te tNil)) (.nls K H0 fun ds => ∃ ys ss : List Str, ds = ys.map .str ∧ φ ss ∧ ys.Perm ss ∧ AscL ys) := fun σ H e env =>
  ev_cb (ea_cons (h σ H e env) ea_nil) fun vs H1 e1 p Q q => by
    match vs, p with
    | [x], ⟨⟨a, xs, ds, h1, h3, h4, h5, ss, hds, hφ⟩, _⟩ =>
      subst hds
      have := tda_strs h5
      subst this
      refine ⟨a, ss, by rw [h1], .of h4, fun ys p hp ha hn => ?_⟩
      have en : F.L H1 (upd H1 p (.lst (ys.map V.str))) := .new e1.good hn
      exact q _ _ en ⟨p, _, _, rfl, L_back (e.trans e1) hn, Fm.nosp e1.good hn, upd_same, tda_strsD ys, ys, ss, rfl, hφ, hp, ha⟩
def spGame (K : PySem.W.Frag) (Pt : Addr) : Sp := fun vs H Q _ => ∃ A L : Addr, vs = [.ref A] ∧ (Fp A L Pt).G H ∧ ∀ p ns bs over H', (Fp A L Pt).L H H' → GameAt (Fp A L Pt) K H' p ns bs over → GameOk ns bs over → Q (.ref p) H'
theorem sc_law_game : FnScope ["_law_pot_here", "_law_w", "_law_blocks_here", "_law_chance", "_law_over", "_law_port"] ["_law_pot_here"] (fnScope s_law_game) := ⟨rfl, rfl, rfl, by decide +kernel, rfl, by decide +kernel, by decide +kernel⟩
theorem c_law_game (T : Tx w K mg) : Cal P w K mg base 14 "_law_game" (spGame K Pt) [] := by
  have c_law_draw := c_law_draw (P := P) (base := base) (Pt := Pt) T
  have c_law_cast := c_law_cast (P := P) (base := base) (Pt := Pt) T
  have c_law_blocks := c_law_blocks (P := P) (base := base) (Pt := Pt) T
  have c_law_free := c_law_free (P := P) (base := base) (Pt := Pt) T 3
  refine T.d_law_game.cal sc_law_game (fun F => ⟨[], .nil, F.bindsN fun _ _ _ _ _ _ us hl => match us, hl with | [_], _ => rfl⟩) (by rintro vs H Q E ⟨A, L, rfl, _⟩; rfl) fun f cdv Ar outer s H vs Q E hr h => ?_
  obtain ⟨A, L, rfl, g, hQ⟩ := h
  refine ⟨_, (pss_cons (ps_set (i := 1) sc_law_game.nd rfl (by first | exact Or.inl rfl | exact Or.inr rfl) (pe_c c_law_cast hr (by omega) rfl (pa_cons (pv 0) pa_nil)))
    (pss_cons (ps_set (i := 2) sc_law_game.nd rfl (by first | exact Or.inl rfl | exact Or.inr rfl) (pe_c c_law_blocks hr (by omega) rfl (pa_cons (pv 0) (pa_cons (pv 1) pa_nil))))
    (pss_cons (ps_if (pt_cmpR op_eq (pe_c c_law_draw hr (by omega) rfl (pa_cons (pv 0) (pa_cons pe_int pa_nil))) pe_int (nomark _))
      (pss_one (ps_asg (pe_op (r := rCatA K) op_catA (pe_ix (r := rIxL K) ix_list (pv 2) pe_int (fun _ _ => rfl)) (pe_tup (pa_cons (pe_tup (pa_cons pe_str (pa_cons (pe_tup (pa_cons (pe_c c_law_free hr (by omega) rfl (pa_cons (pv 0) (pa_cons (pv 1) (pa_cons pe_int (pa_cons (pe_c c_law_draw hr (by omega) rfl (pa_cons (pv 0) (pa_cons pe_int pa_nil))) pa_nil))))) (pa_cons (pe_c c_law_free hr (by omega) rfl (pa_cons (pv 0) (pa_cons (pv 1) (pa_cons pe_int (pa_cons pe_int pa_nil))))) pa_nil))) pa_nil))) pa_nil))) (pg_sub (pv 2) pe_int set_list)))
      pss_nil)
    (pss_cons (ps_set (i := 3) sc_law_game.nd rfl (by first | exact Or.inl rfl | exact Or.inr rfl) (pe_op op_add pe_int (pe_op op_mul pe_int (pe_c c_law_draw hr (by omega) rfl (pa_cons (pv 0) (pa_cons pe_int pa_nil))))))
    (pss_cons (ps_set (i := 4) sc_law_game.nd rfl (by first | exact Or.inl rfl | exact Or.inr rfl) (pe_callTy call_tuple_of rfl T.z_tuple (by decide +kernel) (pa_cons (pe_callB cr_sortedSt rfl T.z_sorted (by decide +kernel) (pa_cons (pe_lc (own := [("_law_port", 5)]) (g := (gName 5)) rfl sc_law_game.nd (pi_list (pe_slice sl_list (pv 1) (po_some pe_int) (po_some pe_int))) (blkOk_by (own := [("_law_port", 5)]) (N := ["_law_pot_here", "_law_w", "_law_blocks_here", "_law_chance", "_law_over", "_law_port"]) (sc := fnScope s_law_game) (by decide +kernel)) (fun _ _ _ _ _ => (pg_name (i := 5) sc_law_game.nd rfl (Or.inl rfl))) (fun _ _ _ _ _ => (pts_one (pt_cmpR op_eq (pe_c c_law_draw hr (by omega) rfl (pa_cons (pv 0) (pa_cons (pv 3) pa_nil))) pe_int (nomark _)))) (fun _ _ _ _ _ => (pv 5))) pa_nil)) pa_nil)))
    (pss_one (ps_ret (pe_lst (pa_cons (pe_slice sl_list (pv 1) po_none (po_some (pe_callB (r := rLenQ K) call_len_seq rfl T.z_len PySem.boot_len (pa_cons (pv 2) pa_nil)))) (pa_cons (pv 2) (pa_cons (pv 4) (pa_cons (pe_slice sl_list (pv 1) (po_some pe_int) po_none) pa_nil)))))))))))), ?_⟩
  refine ⟨_, rfl, A, L, rfl, g, fun wa ws H1 e1 hwa hwa1 ok => ?_⟩
  let x : Gx := ⟨A, L, ws, ok⟩
  have spw : ¬ (FG Pt x).sp wa := Fm.nosp (F := FG Pt x) g hwa
  have WS : ∀ {H0 : Hp} {Γ : Gam (FG Pt x)}, Γ[1]? = some (some (.ol K H0 (wL ws))) → TyE (FG Pt x) H0 Γ (tVar 1) (.ls K (wL ws)) := fun h => ls_ol (ty_var h) fun _ p => p
  have env1 : Env (F := FG Pt x) [some (.eq (.ref A)), some (.ol K H1 (wL ws)), none, none, none, none] ((L2.start ["_law_pot_here", "_law_w", "_law_blocks_here", "_law_chance", "_law_over", "_law_port"] [.ref A]).set 1 (some (.ref wa))) H1 := ⟨⟨_, rfl, rfl⟩, ⟨_, rfl, wa, _, _, rfl, by rw [hwa1]; exact fun z => (by cases z), spw, hwa1, tda_strsD ws, rfl⟩, trivial⟩
  refine go_new (K := K) (H0 := H1) (.refl e1.good) env1 (g_gen (x := x) rfl (WS rfl)) fun b σ2 H2 hb e2 env2 => ?_
  refine go_seq (H0 := H1) e2 env2 (tn_if (Γ' := [some (.eq (.ref A)), some (.ol K H1 (wL ws)), some (.at K b gL2), none, none, none]) (tt_any (tt_eq (ty_drawL 5 rfl) ty_int)) (fun _ => tn_put0 (ρ := tyB false 8 10 3000 3 false) hb rfl (by show (6 : Nat) ≤ 900; decide) (ty_subB (ty_catB (n := 7) (hg := 9) (c := 1500) (k := 3) (th := false) (ty_ixL (τ := gL) (ty_sub_ls rfl) ty_int ?_) (ty_blk (db_cons (ty_oS (ty_opn (ty_blks (dk_cons (g_free (x := x) 1 1 rfl (WS rfl) ty_int (fun i h => ⟨h, by decide⟩) (ty_drawL 2 rfl) fun i h => by unfold rg at h; omega) (dk_cons (g_free (x := x) 0 1 rfl (WS rfl) ty_int (fun i h => ⟨h, by decide⟩) ty_int fun i h => by subst h; decide) (dk_nil (lp := false))))))) (db_nil (lp := false)))))) ⟨stb_eq, stb_ol hb, trivial⟩ ?_) fun _ => tn_next (.so (fun _ _ h => h) (.so (fun _ _ h => h) (.so (fun v H ⟨xs, ds, h1, h3, h4, h5, h6⟩ => ⟨xs, ds, h1, h3, h4, h5, ?_⟩) (.refl _))))) fun σ3 H3 e3 env3 => ?_
  · intro ds i ⟨c, cs, h1, h2, h3, _⟩ hi
    subst hi
    subst h1
    exact ⟨_, atI_nat (show ((c :: cs).map blkD)[0]? = some (blkD c) from rfl), c, rfl, h3⟩
  · intro ds d ⟨c, cs, h1, h2, h3, h4⟩ ⟨c', h5, h6⟩
    subst h1
    subst h5
    exact ⟨by simp, c', cs, by simp, h2, h6, h4⟩
  · obtain ⟨c, cs, h1, h2, h3, h4⟩ := h6
    exact ⟨c, cs, h1, h2, h3.mono (by decide) (by decide) (by decide) (by decide), h4⟩
  refine go_seq e3 env3 (tn_set (ty_op0 (χ := rg 2 7) ty_int (ty_opC (χ := rg 0 5) ty_int (ty_drawL 2 rfl) fun i j h1 h2 => ?_) fun i j h1 h2 => ?_)) fun σ4 H4 e4 env4 => ?_
  · subst h1
    exact ⟨.inl (by decide), by unfold rg at *; omega⟩
  · subst h1
    unfold rg at *
    omega
  refine go_seq e4 env4 (tn_set (ty_tupL (ρ := fun d => ∃ ov : List Str, d = .tuple (ov.map .str) ∧ (∀ z ∈ ov, NameOk z) ∧ AscFrom [] ov) (ls_nls (ty_sortS (φ := fun ss => ss.Sublist ((ws.drop 3).take 4)) (ls_nls (ty_lcF (l := ((ws.drop 3).take 4).map .str) rfl (by simp; omega) (ls_nls (ty_sliceL (τ := wL ws) (WS rfl) to_c to_c fun ds lo hi h1 h2 h3 => ?_) fun _ p => p) (tt_any (tt_eq (ty_draw (φ := rg 2 7) (χ := fun _ => True) (ty_var rfl) (ty_var rfl) fun n hn => ⟨by unfold rg at hn; omega, fun _ _ => trivial⟩) ty_int))) fun ds h => sub_strs h)) fun _ p => p) fun ds h => ?_)) fun σ5 H5 e5 env5 => ?_
  · rw [show ds = _ from h1, h2, h3, show (some (3 : Int)) = some ((3 : Nat) : Int) from rfl, show (some (7 : Int)) = some ((7 : Nat) : Int) from rfl, sIx_nat, sIx_nat, List.length_map, ok.len, List.map_take, List.map_drop]
    rfl
  · obtain ⟨ys, ss, h1, h2, h3, h4⟩ := h
    subst h1
    have hsub : ss.Sublist (ws.take 7) := h2.trans (by
      rw [show (ws.drop 3).take 4 = (ws.take 7).drop 3 by rw [List.drop_take]]
      exact List.drop_sublist _ _)
    have hnm : ∀ z ∈ ys, NameOk z := fun z hz => ok.nm z (List.mem_of_mem_take (hsub.mem (h3.mem_iff.mp hz)))
    refine ⟨ys, rfl, hnm, ascFrom_of h4 (h3.nodup_iff.mpr (ok.nd.sublist hsub)) fun y hy => ?_⟩
    have := (hnm y hy).1.1
    have hl : y.cps.toList.length = y.length := by simp [Str.length]
    match hy2 : y.cps.toList with
    | [] => rw [hy2] at hl; simp at hl; omega
    | c :: cs => exact List.Lex.nil
  match σ5, env5 with
  | [_, _, _, _, _, s5], ⟨⟨_, rfl, rfl⟩, ⟨_, rfl, wa', _, _, rfl, hw0, spw', hw5, tdw, hdw⟩, ⟨_, rfl, xb, db, rfl, spb, hb5, tdb, hdb⟩, ⟨_, rfl, ci, rfl, hci⟩, ⟨ov, rfl, dov, hov, tdo⟩, _⟩ =>
  obtain rfl : _ = ws.map PyData.str := hdw
  obtain ⟨b0, bs, rfl, hbl, hb0, hbs⟩ := hdb
  obtain ⟨over, rfl, hov1, hov2⟩ := hov
  have g5 := e5.good
  have env6 : Env (F := FG Pt x) [some (.eq (.ref A)), some (.ls K (· = ws.map .str)), some (.at K b (· = (b0 :: bs).map blkD)), none, some (.dt K (· = .tuple (over.map .str))), none] [some (.ref A), some (.ref wa'), some (.ref b), some (.int ci), some ov, s5] H5 := ⟨⟨_, rfl, rfl⟩, ⟨_, rfl, wa', _, _, rfl, spw', hw5, tdw, rfl⟩, ⟨_, rfl, xb, _, rfl, spb, hb5, tdb, rfl⟩, ⟨ov, rfl, _, rfl, tdo⟩, trivial⟩
  have tw : TyE (FG Pt x) H5 [some (.eq (.ref A)), some (.ls K (· = ws.map .str)), some (.at K b (· = (b0 :: bs).map blkD)), none, some (.dt K (· = .tuple (over.map .str))), none] (tVar 1) (.ls K (· = ws.map .str)) := ty_var rfl
  have tb : TyE (FG Pt x) H5 [some (.eq (.ref A)), some (.ls K (· = ws.map .str)), some (.at K b (· = (b0 :: bs).map blkD)), none, some (.dt K (· = .tuple (over.map .str))), none] (tVar 2) (.at K b (· = (b0 :: bs).map blkD)) := ty_var rfl
  have tl : TyE (FG Pt x) H5 [some (.eq (.ref A)), some (.ls K (· = ws.map .str)), some (.at K b (· = (b0 :: bs).map blkD)), none, some (.dt K (· = .tuple (over.map .str))), none] _ (.int (· = (((b0 :: bs).length : Nat) : Int))) := ty_lenL (K := K) (ls_at tb fun _ p => p) fun ds h => by rw [h, List.length_map]
  have to : TyE (FG Pt x) H5 [some (.eq (.ref A)), some (.ls K (· = ws.map .str)), some (.at K b (· = (b0 :: bs).map blkD)), none, some (.dt K (· = .tuple (over.map .str))), none] (tVar 4) (.dt K (· = .tuple (over.map .str))) := ty_var rfl
  have ret := ta_cons (ty_sliceL (K := K) (ρ := (· = (ws.take (b0 :: bs).length).map .str)) tw to_none (to_some tl) fun ds lo hi h1 h2 h3 => by
      obtain ⟨_, rfl, rfl⟩ := h3
      rw [h1, h2, cut_none_hi, List.map_take])
    (ta_cons tb (ta_cons to (ta_cons (ty_sliceL (K := K) (ρ := fun _ => True) tw (to_c (n := 7)) to_none fun _ _ _ _ _ _ => trivial) ta_nil)))
  unfold tRet tLst
  refine ret _ H5 (.refl g5) env6 H5 (.refl g5) _ fun vs H6 e6 all => ?_
  match vs, all with
  | [_, _, vo, _], ⟨⟨n, xn, dn, rfl, _, spn, hn, tdn, hdn⟩, ⟨xb', db', rfl, _, hb6, tdb', hdb'⟩, ⟨do', hdo, tdo'⟩, ⟨r, xr, dr, rfl, _, spr, hr6, _, _⟩, _⟩ =>
  obtain rfl : dn = (ws.take (b0 :: bs).length).map .str := hdn
  obtain rfl : db' = (b0 :: bs).map blkD := hdb'
  obtain rfl : do' = .tuple (over.map .str) := hdo
  refine ⟨by show (4 : Nat) ≤ sizeLine; decide, fun p hp => ?_⟩
  have e56 : (Fp A L Pt).L H5 H6 := e6
  have en : (Fp A L Pt).L H6 (upd H6 p (.lst [.ref n, .ref b, vo, .ref r])) := .new e56.good hp
  have e15 : (Fp A L Pt).L H1 H5 := e5
  have spp : ¬ (Fp A L Pt).sp p := Fm.nosp e56.good hp
  have hw7 := ok.len
  have hxn := tda_strs tdn
  subst hxn
  have h3 : (b0 :: bs).length ≤ 3 := by simp; omega
  refine hQ p _ _ over _ (((e1.trans e15).trans e56).trans en) ⟨n, b, r, vo, xb', upd_same, en.1 _ _ hn spn, ⟨en.1 _ _ hb6 spb, tdb'.tl (en.tl e56.good)⟩, tdo'.tl (en.tl e56.good), spp, spn, spb⟩ ?_
  have htk : ws.take (b0 :: bs).length = (ws.take 7).take (b0 :: bs).length := by rw [List.take_take, Nat.min_eq_left (by omega)]
  refine ⟨by rw [List.length_take]; omega, by simp; omega, h3, by rw [htk]; exact ok.nd.sublist (List.take_sublist _ _), fun z hz => ok.nm z (List.mem_of_mem_take hz), fun c hc => ?_, fun c hc => ?_, hov1, hov2⟩
  · rcases List.mem_cons.mp hc with rfl | hc
    · exact hb0.bok (by decide) (by decide) (by decide)
    · exact (hbs c hc).bok (by decide) (by decide) (by decide)
  · obtain rfl : b0 = c := Option.some.inj hc
    exact ⟨hb0.len, hb0.op⟩
end
end Oh
set_option maxHeartbeats 4000000
namespace Oh
open PySem PySem.Spec PyProof.Rows L2
open C8 (Cal Met Mak pe_c pe_mk pe_mt pe_mt0 pe_gc InsC call_isC tCut pss_cut fnBody fnArgs fnScope)
open LamX NdefX
/-! ### the law's own lines -/
def opL (rows : List (List Int × T)) : List (List Int × Nat) := (rows.filter (·.2.isOpn)).map fun r => (r.1, r.2.kids.length)
theorem opL_app (a b : List (List Int × T)) : opL (a ++ b) = opL a ++ opL b := by unfold opL; rw [List.filter_append, List.map_append]
def hdN : Hd → Str
  | .set _ _ => "set"
  | .tell _ _ => "tell"
  | .hear _ _ => "hear"
  | .leave => "leave"
  | .home => "home"
  | .fail => "fail"
  | .wait _ => "wait"
  | .opn => "open"
  | .iff _ => "if"
  | .rep => "repeat"
def RowL (H : Hp) (x : V) (p : List Int × Nat) : Prop := ∃ c pb, x = .ref c ∧ H c = some (.tup [.ref pb, .int (p.2 : Nat)]) ∧ H pb = some (.tup (p.1.map V.int))
section
variable {P : Program} {w : World} {K : PySem.W.Frag} {mg : Str → Option Value} {base : Heap} {te tb ta tc : TE} {σ : L2.St} {H H' : Hp} {E : XK} {ds es : List PyData}
theorem RowL.up {x : V} {p : List Int × Nat} (h : RowL H x p) (k : ∀ a xs, H a = some (.tup xs) → H' a = some (.tup xs)) : RowL H' x p := by
  obtain ⟨c, pb, h1, h2, h3⟩ := h
  exact ⟨c, pb, h1, k _ _ h2, k _ _ h3⟩
theorem RowL.same {x : V} {p : List Int × Nat} (h : RowL H x p) (e : Same H H') : RowL H' x p := h.up fun _ _ => e _ _
theorem tup_upd {l : Addr} {xs : List V} {o : HO} (hl : H l = some (.lst xs)) : ∀ a ys, H a = some (.tup ys) → upd H l o a = some (.tup ys) := fun a ys z => by
  rw [upd_ne fun e => by rw [e, hl] at z; cases z]
  exact z
theorem RowL.lst {x : V} {p : List Int × Nat} {l : Addr} {xs : List V} {o : HO} (h : RowL H x p) (hl : H l = some (.lst xs)) : RowL (upd H l o) x p := h.up (tup_upd hl)
theorem take_go {t : TT} {tu rest : TS} {D : Ends} (h : EvB F0 t σ H true) (k : ∀ H1, Same H H1 → tu { D with nx := rest D } σ H1) : tSeq (tIfS t tu tNext) rest D σ H := h H (.refl trivial) _ fun b H1 e p => by
  rw [show b = true from p]
  exact k H1 e.same
theorem hd_first {hd : Hd} {ks : List PyData} : ∃ ds, hdD hd ks = .tuple (.str (hdN hd) :: ds) := by
  cases hd <;> exact ⟨_, rfl⟩
/-- row[0] == word -/
theorem evb_hd {i : Nat} {hd : Hd} {ks : List PyData} {v : V} {x : Str} {b : Bool} (hi : σ[i]? = some (some v)) (td : Td K H v (hdD hd ks)) (hb : decide (hdN hd = x) = b) : EvB F0 (tTest (tOp rEq (tOp (rIxT K) (tVar i) (tC (.int 0))) (tC (.str x)))) σ H b := by
  obtain ⟨ds, e⟩ := hd_first (hd := hd) (ks := ks)
  rw [e] at td
  have h := evv_eq (F := F0) (evd_s (evd_ix (K := K) (d := .str (hdN hd)) (z := 0) trivial (evd_var trivial hi td) (evv_c trivial) (show atI (.str (hdN hd) :: ds) ((0 : Nat) : Int) = some (.str (hdN hd)) from atI_nat rfl))) (evv_c (v := V.str x) trivial) rfl
  refine et_test (evv_is h ?_)
  rw [← hb]
  exact congrArg V.bl (Bool.eq_iff_iff.mpr (by simp))
def spLines (K : PySem.W.Frag) (n : Nat) : Sp := fun vs H Q _ => ∃ v b av, ∃ ns : List Int, vs = [v, av] ∧ (∀ t ∈ b, ∃ lp, T.Ok lp t) ∧ (bHt b + 1 ≤ n ∧ bCnt b ≤ 6000) ∧ Td K H v (blkD b) ∧ (Td K H av (.tuple (ns.map .int)) ∧ ns.length + 2 * n ≤ 100) ∧
  ∀ p xs H', H p = none → Same H H' → H' p = some (.lst xs) → Paired (RowL H') xs (opL (bLst ns 0 b)) → Q (.ref p) H'
theorem opL_len (rows : List (List Int × T)) : (opL rows).length ≤ rows.length := by unfold opL; rw [List.length_map]; exact List.length_filter_le _ _
theorem atI_1 {α : Type} {a b : α} {l : List α} : atI (a :: b :: l) 1 = some b := atI_nat (xs := a :: b :: l) (j := 1) rfl
theorem atI_2 {α : Type} {a b c : α} {l : List α} : atI (a :: b :: c :: l) 2 = some c := atI_nat (xs := a :: b :: c :: l) (j := 2) rfl
theorem atI_3 {α : Type} {a b c d : α} {l : List α} : atI (a :: b :: c :: d :: l) 3 = some d := atI_nat (xs := a :: b :: c :: d :: l) (j := 3) rfl
/-- the blocks in the rows of a wait -/
theorem rows_at : ∀ {rs : List (Str × Str)} {ks : List PyData} {i : Nat} {d : PyData}, rs.length = ks.length → (rowsD rs ks)[i]? = some d → ∃ p x k, d = .tuple [.str p, .str x, k] ∧ ks[i]? = some k
  | [], [], i, d, _, h => by simp [rowsD] at h
  | r :: rs, k :: ks, 0, d, _, h => by
    simp [rowsD] at h
    exact ⟨r.1, r.2, k, h.symm, rfl⟩
  | r :: rs, k :: ks, i + 1, d, hl, h => by
    obtain ⟨p, x, k', h1, h2⟩ := rows_at (rs := rs) (ks := ks) (i := i) (by simpa using hl) (by simpa [rowsD] using h)
    exact ⟨p, x, k', h1, by simpa using h2⟩
theorem hd_cases {hd : Hd} {ks : List (List T)} (o : okH hd ks) : (hd.isOpn = false ∧ ks = [] ∧ decide (hdN hd = "open") = false ∧ decide (hdN hd = "if") = false ∧ decide (hdN hd = "repeat") = false ∧ decide (hdN hd = "wait") = false ∧ ∀ ch p, selK hd ch p = p) ∨ (∃ rows, hd = .wait rows) ∨ hd = .opn ∨ (∃ e, hd = .iff e) ∨ hd = .rep := by
  cases hd with
  | set x e => exact .inl ⟨rfl, o.2, rfl, rfl, rfl, rfl, fun _ _ => rfl⟩
  | tell x e => exact .inl ⟨rfl, o.2, rfl, rfl, rfl, rfl, fun _ _ => rfl⟩
  | hear x e => exact .inl ⟨rfl, o.2, rfl, rfl, rfl, rfl, fun _ _ => rfl⟩
  | leave => exact .inl ⟨rfl, o, rfl, rfl, rfl, rfl, fun _ _ => rfl⟩
  | home => exact .inl ⟨rfl, o, rfl, rfl, rfl, rfl, fun _ _ => rfl⟩
  | fail => exact .inl ⟨rfl, o, rfl, rfl, rfl, rfl, fun _ _ => rfl⟩
  | wait rows => exact .inr (.inl ⟨rows, rfl⟩)
  | opn => exact .inr (.inr (.inl rfl))
  | iff e => exact .inr (.inr (.inr (.inl ⟨e, rfl⟩)))
  | rep => exact .inr (.inr (.inr (.inr rfl)))
theorem sc_law_lines : FnScope ["_law_block", "_law_above", "_law_found", "_law_i", "_law_row", "_law_path", "_law_parts", "_law_part", "_law_k"] ["_law_block", "_law_above"] (fnScope s_law_lines) := ⟨rfl, rfl, rfl, by decide +kernel, rfl, by decide +kernel, by decide +kernel⟩
theorem lines_step (T : Tx w K mg) (m n : Nat) (hm : 1 ≤ m) (c_law_lines : Cal P w K mg base m "_law_lines" (spLines K n) []) : Cal P w K mg base (m + 1) "_law_lines" (spLines K (n + 1)) [] := by
  refine T.d_law_lines.cal sc_law_lines (fun F => ⟨[], .nil, F.bindsN fun _ _ _ _ _ _ us hl => match us, hl with | [_, _], _ => rfl⟩) (by rintro vs H Q E ⟨v, b, av, ns, rfl, _⟩; rfl) fun f cdv A outer s H vs Q E hr h => ?_
  obtain ⟨v, b, av, ns, rfl, ok, ⟨hn, hcnt⟩, td, ⟨ta, hns⟩, hQ⟩ := h
  refine ⟨_, (pss_cons (ps_set (i := 2) sc_law_lines.nd rfl (by first | exact Or.inl rfl | exact Or.inr rfl) (pe_lst pa_nil))
    (pss_cons (ps_for PassesOwn.never rfl (pi_range1 rfl T.z_range (pa_cons (pe_callB (r := rLenQ K) call_len_seq rfl T.z_len PySem.boot_len (pa_cons (pv 0) pa_nil)) pa_nil)) (pg_name (i := 3) sc_law_lines.nd rfl (Or.inl rfl))
      (pss_cons (ps_set (i := 4) sc_law_lines.nd rfl (by first | exact Or.inl rfl | exact Or.inr rfl) (pe_ix (r := rIxT K) ix_tup (pv 0) (pv 3) (fun _ _ => rfl)))
      (pss_cons (ps_set (i := 5) sc_law_lines.nd rfl (by first | exact Or.inl rfl | exact Or.inr rfl) (pe_op (r := rCatA K) op_catA (pv 1) (pe_tup (pa_cons (pv 3) pa_nil))))
      (pss_cons (ps_set (i := 6) sc_law_lines.nd rfl (by first | exact Or.inl rfl | exact Or.inr rfl) (pe_lst pa_nil))
      (pss_cons (ps_if (pt_cmpR op_eq (pe_ix (r := rIxT K) ix_tup (pv 4) pe_int (fun _ _ => rfl)) pe_str (nomark _))
        (pss_cons (ps_expr (pe_bm PySem.F.plainAttrs_list PySem.F.slot_list_append PySem.F.type_list_append mt_append (pv 2) (pa_cons (pe_tup (pa_cons (pv 5) (pa_cons (pe_callB (r := rLenQ K) call_len_seq rfl T.z_len PySem.boot_len (pa_cons (pe_ix (r := rIxT K) ix_tup (pv 4) pe_int (fun _ _ => rfl)) pa_nil)) pa_nil))) pa_nil)))
        (pss_one (ps_set (i := 6) sc_law_lines.nd rfl (by first | exact Or.inl rfl | exact Or.inr rfl) (pe_callTy call_list_of rfl T.z_list (by decide +kernel) (pa_cons (pe_ix (r := rIxT K) ix_tup (pv 4) pe_int (fun _ _ => rfl)) pa_nil)))))
        pss_nil)
      (pss_cons (ps_if (pt_cmpR op_eq (pe_ix (r := rIxT K) ix_tup (pv 4) pe_int (fun _ _ => rfl)) pe_str (nomark _))
        (pss_one (ps_set (i := 6) sc_law_lines.nd rfl (by first | exact Or.inl rfl | exact Or.inr rfl) (pe_lst (pa_cons (pe_ix (r := rIxT K) ix_tup (pv 4) pe_int (fun _ _ => rfl)) (pa_cons (pe_ix (r := rIxT K) ix_tup (pv 4) pe_int (fun _ _ => rfl)) pa_nil)))))
        pss_nil)
      (pss_cons (ps_if (pt_cmpR op_eq (pe_ix (r := rIxT K) ix_tup (pv 4) pe_int (fun _ _ => rfl)) pe_str (nomark _))
        (pss_one (ps_set (i := 6) sc_law_lines.nd rfl (by first | exact Or.inl rfl | exact Or.inr rfl) (pe_lst (pa_cons (pe_ix (r := rIxT K) ix_tup (pv 4) pe_int (fun _ _ => rfl)) pa_nil))))
        pss_nil)
      (pss_cons (ps_if (pt_cmpR op_eq (pe_ix (r := rIxT K) ix_tup (pv 4) pe_int (fun _ _ => rfl)) pe_str (nomark _))
        (pss_one (ps_setLc (i := 6) (own := [("_law_part", 7)]) (g := (gName 7)) (tt := tYes) rfl sc_law_lines.nd rfl rfl (sw_true rfl rfl rfl (by decide +kernel)) (pi_tup (pe_ix (r := rIxT K) ix_tup (pv 4) pe_int (fun _ _ => rfl))) (blkOk_by (own := [("_law_part", 7)]) (N := ["_law_block", "_law_above", "_law_found", "_law_i", "_law_row", "_law_path", "_law_parts", "_law_part", "_law_k"]) (sc := fnScope s_law_lines) (by decide +kernel)) (fun _ _ _ _ _ => (pg_name (i := 7) sc_law_lines.nd rfl (Or.inl rfl))) (fun _ _ _ _ _ => pts_nil) (fun _ _ _ _ _ => (pe_ix (r := rIxT K) ix_tup (pv 7) pe_int (fun _ _ => rfl)))))
        pss_nil)
      (pss_one (ps_for PassesOwn.never rfl (pi_range1 rfl T.z_range (pa_cons (pe_callB (r := rLenQ K) call_len_seq rfl T.z_len PySem.boot_len (pa_cons (pv 6) pa_nil)) pa_nil)) (pg_name (i := 8) sc_law_lines.nd rfl (Or.inl rfl))
        (pss_one (ps_set (i := 2) sc_law_lines.nd rfl (by first | exact Or.inl rfl | exact Or.inr rfl) (pe_op op_cat (pv 2) (pe_c c_law_lines hr (by omega) rfl (pa_cons (pe_ix (r := rIxL K) ix_list (pv 6) (pv 8) (fun _ _ => rfl)) (pa_cons (pe_op (r := rCatA K) op_catA (pv 5) (pe_tup (pa_cons (pv 8) pa_nil))) pa_nil))))))))))))))))
    (pss_one (ps_ret (pv 2))))), ?_⟩
  obtain ⟨a, xs, rfl, hs, hx⟩ := td.tupE
  have hxl : xs.length = b.length := by rw [hx.len, bd_len]
  have hb12 : b.length ≤ 6000 := by
    have : ∀ b : List Oh.T, b.length ≤ bCnt b := fun b => by
      induction b with
      | nil => exact Nat.le_refl _
      | cons t b ih =>
        obtain ⟨h, ks⟩ := t
        simp only [List.length_cons, bCnt, Oh.T.cnt]
        omega
    exact Nat.le_trans (this b) hcnt
  refine ⟨by decide, fun l0 hl0 => ?_⟩
  let LS : Nat → L2.St → Hp → Prop := fun i σ H2 => Same H H2 ∧ ∃ l ys s3 s4 s5 s6 s7 s8, σ = [some (.ref a), some av, some (.ref l), s3, s4, s5, s6, s7, s8] ∧ H l = none ∧ H2 l = some (.lst ys) ∧ Paired (RowL H2) ys (opL (bLst ns 0 (b.take i)))
  refine ⟨.ref a, rfl, a, xs, rfl, .inr (Same.sqt (same_new hl0) hs), (xs.length : Nat), rfl, by omega, by omega, for_it walk_range LS ⟨same_new hl0, l0, [], _, _, _, _, _, _, rfl, hl0, upd_same, .nil⟩ (fun i σ H2 _ _ => trivial) ?_ ?_⟩
  · rintro i x σ _ H2 hi ⟨e2, l, ys, s3, s4, s5, s6, s7, s8, rfl, hl, hl2, hys⟩ ⟨rfl, hx0⟩
    obtain rfl : x = V.int (i : Nat) := by rw [hx0]; simp
    have hib : i < b.length := by
      have hi : i < ((xs.length : Nat) : Int).toNat := hi
      omega
    have hbi : b[i]? = some b[i] := List.getElem?_eq_getElem hib
    generalize b[i] = t at hbi
    have hm' := List.mem_of_getElem? hbi
    have hht := ht_mem hm'
    have htc := cnt_mem hm'
    obtain ⟨lp, okt⟩ := ok _ hm'
    obtain ⟨hd, ks⟩ := t
    obtain ⟨oh, o12, oall, olv, orep⟩ := okt.inv
    have hyl : ys.length ≤ 6000 := by
      have h1 := cnt_take b i
      have h2 := opL_len (bLst ns 0 (b.take i))
      rw [bLst_len] at h2
      rw [Paired.length hys]
      omega
    refine evd_ix (F := F0) (K := K) (d := hdD hd (bbd ks)) (z := (i : Nat)) trivial (evd_var (i := 0) trivial rfl (.tup (Same.sqt e2 hs) (hx.same e2))) (evv_var (i := 3) trivial rfl) (atI_nat (by rw [bd_get, hbi]; rfl)) H2 (.refl trivial) _ fun rv H3 e3 ⟨_, hdd, tr⟩ => ?_
    subst hdd
    refine ev_pth (F := F0) (K := K) (ns := ns) (m := (i : Nat)) (evd_var (i := 1) trivial rfl ((ta.same e2).same e3.same)) (evv_var (i := 3) trivial rfl) (by omega) H3 (.refl trivial) _ fun pv H4 e4 ⟨pb, hpv, hpb⟩ => ?_
    subst hpv
    refine ⟨by decide, fun q0 hq0 => ?_⟩
    have e34 := e3.same.trans e4.same
    have e35 := e34.trans (same_new (o := .lst []) hq0)
    have tr5 := tr.same (e4.same.trans (same_new (o := .lst []) hq0))
    have hpb5 := same_new (o := .lst []) hq0 _ _ hpb
    have hl5 := e35 _ _ hl2
    have hys5 : Paired (RowL (upd H4 q0 (.lst []))) ys (opL (bLst ns 0 (b.take i))) := Paired.mapP hys fun x p r => r.same e35
    have hq5 : (upd H4 q0 (.lst [])) q0 = some (.lst []) := upd_same
    have e5 := e2.trans e35
    have hqH : H q0 = none := fresh_back (e2.trans e34) hq0
    generalize upd H4 q0 (.lst []) = H5 at e5 tr5 hpb5 hl5 hys5 hq5
    -- the parts
    have fin : ∀ (H6 : Hp) (s7 : Option V) (q : Addr) (zs : List V) (ys' : List V) (D : Ends), Same H H6 → H6 pb = some (.tup ((ns ++ [(i : Int)]).map V.int)) → H6 q = some (.lst zs) → TdA K H6 zs (bbd ks) → H6 l = some (.lst ys') → Paired (RowL H6) ys' (opL (bLst ns 0 (b.take i) ++ [(ns ++ [(i : Int)], Oh.T.mk hd ks)])) →
        (∀ σ' H', LS (i + 1) σ' H' → D.nx σ' H') →
        tFor (iRng1 (tCons (tCB (rLenQ K) (tCons (tVar 6) tNil)) tNil)) (gName 8) (tAsg (tOp rCat (tVar 2) (tCall (spLines K n) [] C8.E0 (tCons (tOp (rIxL K) (tVar 6) (tVar 8)) (tCons (tOp (rCatA K) (tVar 5) (tTup (tCons (tVar 8) tNil))) tNil)))) (gName 2)) D
          [some (.ref a), some av, some (.ref l), some (.int (i : Nat)), some rv, some (.ref pb), some (.ref q), s7, s8] H6 := by
      intro H6 s7 q zs ys' D e6 hpb6 hq6 hzs6 hl6 hys6 hD
      have hzl : zs.length = ks.length := by rw [hzs6.len, bbd_len]
      have hk4 := okH_len oh
      let LI : Nat → L2.St → Hp → Prop := fun k σ H7 => Same H H7 ∧ ∃ l ys s8, σ = [some (.ref a), some av, some (.ref l), some (.int (i : Nat)), some rv, some (.ref pb), some (.ref q), s7, s8] ∧ H7 pb = some (.tup ((ns ++ [(i : Int)]).map V.int)) ∧ H7 q = some (.lst zs) ∧ TdA K H7 zs (bbd ks) ∧ H l = none ∧ H7 l = some (.lst ys) ∧
        Paired (RowL H7) ys (opL (bLst ns 0 (b.take i) ++ ((ns ++ [(i : Int)], Oh.T.mk hd ks) :: bbLst (ns ++ [(i : Int)]) 0 (ks.take k))))
      refine ⟨.ref q, rfl, q, zs, rfl, .inl (.of hq6), (zs.length : Nat), rfl, by omega, by omega, for_it walk_range LI ⟨e6, l, ys', _, rfl, hpb6, hq6, hzs6, hl, hl6, hys6⟩ (fun k σ H7 _ _ => trivial) ?_ ?_⟩
      · rintro k x σ _ H7 hk ⟨e7, l, us, s8, rfl, hpb7, hq7, hzs7, hl, hl7, hus⟩ ⟨rfl, hx0⟩
        obtain rfl : x = V.int (k : Nat) := by rw [hx0]; simp
        have hkk : k < ks.length := by
          have hk : k < ((zs.length : Nat) : Int).toNat := hk
          omega
        have hbk : ks[k]? = some ks[k] := List.getElem?_eq_getElem hkk
        generalize ks[k] = c2 at hbk
        have hmc := List.mem_of_getElem? hbk
        have hc2 : bHt c2 + 1 ≤ (Oh.T.mk hd ks).ht := bht_mem hmc
        have hcc := bcnt_mem hmc
        have hc3 : bbCnt ks + 1 ≤ bCnt b := htc
        obtain ⟨z2, hz2, tz2⟩ := hzs7.get (i := k) (d := blkD c2) (by rw [bbd_get, hbk]; rfl)
        refine ⟨.ref l, rfl, .ref q, rfl, .int (k : Nat), rfl, q, zs, (k : Nat), z2, rfl, rfl, .of hq7, atI_nat hz2, ?_⟩
        refine ev_pth (F := F0) (K := K) (ns := ns ++ [(i : Int)]) (m := (k : Nat)) (evd_var (i := 5) trivial rfl (pth_td (F := F0) ⟨pb, rfl, hpb7⟩)) (evv_var (i := 8) trivial rfl) (by simp; omega) H7 (.refl trivial) _ fun pv2 H8 e8 hp2 => ?_
        refine ⟨z2, c2, pv2, ns ++ [(i : Int)] ++ [(k : Int)], rfl, fun t ht => ⟨_, oall c2 hmc t ht⟩, ⟨by omega, by omega⟩, tz2.same e8.same, ⟨pth_td hp2, by simp; omega⟩, fun p2 vs2 H9 hp2' e9 hl9 hvs => ?_⟩
        have e79 := e8.same.trans e9
        have hl79 := e79 _ _ hl7
        have hul : us.length ≤ 12000 := by
          have g1 := cnt_take b i
          have g2 := bcnt_take ks k
          have g3 := opL_len (bLst ns 0 (b.take i) ++ ((ns ++ [(i : Int)], Oh.T.mk hd ks) :: bbLst (ns ++ [(i : Int)]) 0 (ks.take k)))
          rw [List.length_append, List.length_cons, bLst_len, bbLst_len] at g3
          rw [Paired.length hus]
          omega
        have hwl : vs2.length ≤ 6000 := by
          have g3 := opL_len (bLst (ns ++ [(i : Int)] ++ [(k : Int)]) 0 c2)
          rw [bLst_len] at g3
          rw [Paired.length hvs]
          omega
        refine ⟨l, p2, us, vs2, rfl, rfl, hl79, hl9, le_sl (by omega), fun p3 hp3 => ?_⟩
        have e10 := e79.trans (same_new (o := .lst (us ++ vs2)) hp3)
        refine ⟨e7.trans e10, p3, us ++ vs2, _, rfl, e10 _ _ hpb7, e10 _ _ hq7, hzs7.same e10, fresh_back (e7.trans e79) hp3, upd_same, ?_⟩
        have g : bLst ns 0 (b.take i) ++ ((ns ++ [(i : Int)], Oh.T.mk hd ks) :: bbLst (ns ++ [(i : Int)]) 0 (ks.take (k + 1))) = (bLst ns 0 (b.take i) ++ ((ns ++ [(i : Int)], Oh.T.mk hd ks) :: bbLst (ns ++ [(i : Int)]) 0 (ks.take k))) ++ bLst (ns ++ [(i : Int)] ++ [(k : Int)]) 0 c2 := by
          rw [bbLst_take hbk]
          simp
        rw [g, opL_app]
        exact paired_append (Paired.mapP hus fun x p r => r.same e10) (Paired.mapP hvs fun x p r => r.same (same_new hp3))
      · rintro σ H7 ⟨e7, l, us, s8, rfl, hpb7, hq7, hzs7, hl, hl7, hus⟩
        refine hD _ _ ⟨e7, l, us, _, _, _, _, _, _, rfl, hl, hl7, ?_⟩
        rw [bLst_take hbi]
        rw [show ((zs.length : Nat) : Int).toNat = ks.length by rw [hzl]; simp, List.take_length] at hus
        exact hus
    have one : ∀ o : Bool, o = hd.isOpn → opL [(ns ++ [(i : Int)], Oh.T.mk hd ks)] = if o then [(ns ++ [(i : Int)], ks.length)] else [] := fun o ho => by
      subst ho
      unfold opL
      rw [List.filter_cons]
      show List.map _ (if hd.isOpn = true then _ else _) = _
      split <;> rfl
    have skip : ∀ {s8' : Option V} {H6 : Hp} {w : Str} {tu rest : TS} {D : Ends} {q : V}, decide (hdN hd = w) = false → Same H5 H6 → (∀ H7, Same H6 H7 → rest D [some (.ref a), some av, some (.ref l), some (.int (i : Nat)), some rv, some (.ref pb), some q, s8', s8] H7) → tSeq (tIfS (tTest (tOp rEq (tOp (rIxT K) (tVar 4) (tC (.int 0))) (tC (.str w)))) tu tNext) rest D [some (.ref a), some av, some (.ref l), some (.int (i : Nat)), some rv, some (.ref pb), some q, s8', s8] H6 := fun hw e k => skip_go (evb_hd rfl (tr5.same e) hw) k
    have take : ∀ {s8' : Option V} {H6 : Hp} {w : Str} {tu rest : TS} {D : Ends} {q : V}, decide (hdN hd = w) = true → Same H5 H6 → (∀ H7, Same H6 H7 → tu { D with nx := rest D } [some (.ref a), some av, some (.ref l), some (.int (i : Nat)), some rv, some (.ref pb), some q, s8', s8] H7) → tSeq (tIfS (tTest (tOp rEq (tOp (rIxT K) (tVar 4) (tC (.int 0))) (tC (.str w)))) tu tNext) rest D [some (.ref a), some av, some (.ref l), some (.int (i : Nat)), some rv, some (.ref pb), some q, s8', s8] H6 := fun hw e k => take_go (evb_hd rfl (tr5.same e) hw) k
    rcases hd_cases oh with ⟨h0, hk, h1, h2, h3, h4, _⟩ | ⟨rows, rfl⟩ | rfl | ⟨e, rfl⟩ | rfl
    · refine skip h1 (.refl _) fun H6 e6 => skip h2 e6 fun H7 e7 => skip h3 (e6.trans e7) fun H8 e8 => skip h4 ((e6.trans e7).trans e8) fun H9 e9 => ?_
      have e59 := ((e6.trans e7).trans e8).trans e9
      refine fin H9 s7 q0 [] ys _ (e5.trans e59) (e59 _ _ hpb5) (e59 _ _ hq5) (by rw [hk]; exact .nil) (e59 _ _ hl5) ?_ fun σ' H' h => h
      rw [opL_app, one false h0.symm]
      simpa using Paired.mapP hys5 fun x p r => r.same e59
    · -- wait
      refine skip rfl (.refl _) fun H6 e6 => skip rfl e6 fun H7 e7 => skip rfl (e6.trans e7) fun H8 e8 => take rfl ((e6.trans e7).trans e8) fun H9 e9 => ?_
      have e59 := ((e6.trans e7).trans e8).trans e9
      have tr9 := tr5.same e59
      have hrl : (rowsD rows (bbd ks)).length = ks.length := by rw [rowsB_len _ _ oh.1]
      have hk4 := okH_len oh
      have row1 : EvD F0 K (tOp (rIxT K) (tVar 4) (tC (.int 1))) [some (.ref a), some av, some (.ref l), some (.int (i : Nat)), some rv, some (.ref pb), some (.ref q0), s7, s8] H9 (.tuple (rowsD rows (bbd ks))) := evd_ix (z := 1) trivial (evd_var (i := 4) trivial rfl tr9) (evv_c trivial) atI_1
      refine ev_lcT (F := F0) (K := K) (j := 7) row1 (by omega) (fun i d => (bbd ks)[i]? = some d) (fun k d x H10 hk e10 td => ?_) H9 (.refl trivial) _ fun qv H10 e10 ⟨q, zs, ds, hqv, _, _, hq, hzs, hlen, hp⟩ => ?_
      · obtain ⟨p, y, z, rfl, hz⟩ := rows_at (by rw [bbd_len]; exact oh.1) hk
        exact (evd_ix (F := F0) (K := K) (d := z) (z := 2) trivial (evd_var (i := 7) trivial (by simp [wipe]) td) (evv_c trivial) atI_2).sub fun v H11 _ ⟨d, hd, tdd⟩ => ⟨d, by rw [hd]; exact hz, tdd⟩
      · subst hqv
        obtain rfl : ds = bbd ks := List.ext_getElem? fun k => by
          rcases Nat.lt_or_ge k ds.length with h | h
          · rw [hp k ds[k] (List.getElem?_eq_getElem h), List.getElem?_eq_getElem h]
          · rw [List.getElem?_eq_none h, List.getElem?_eq_none (by rw [bbd_len]; omega)]
        have e14 := e59.trans e10.same
        refine fin H10 s7 q zs ys _ (e5.trans e14) (e14 _ _ hpb5) hq hzs (e14 _ _ hl5) ?_ fun σ' H' h => h
        rw [opL_app, one false rfl]
        simpa using Paired.mapP hys5 fun x p r => r.same e14
    · -- open
      refine take rfl (.refl _) fun H6 e6 => ?_
      have tr6 := tr5.same e6
      refine ⟨.ref l, rfl, .inl ⟨rfl, _, .of (e6 _ _ hl5)⟩, .ref pb, rfl, ?_⟩
      refine evd_ix (F := F0) (K := K) (d := .tuple (bbd ks)) (z := 1) trivial (evd_var (i := 4) trivial rfl tr6) (evv_c trivial) atI_1 H6 (.refl trivial) _ fun kv H7 e7 ⟨_, hdd, tk⟩ => ?_
      subst hdd
      obtain ⟨ka, kx, rfl, hks, htk⟩ := tk.tupE
      have hkl : kx.length = ks.length := by rw [htk.len, bbd_len]
      refine ⟨ka, kx, rfl, .inr hks, (show 2 ≤ sizeLine by decide), fun c hc => ?_⟩
      have e57 := e6.trans e7.same
      have e58 := e57.trans (same_new (o := .tup [.ref pb, .int (kx.length : Nat)]) hc)
      have hl8 := e58 _ _ hl5
      have hcl : c ≠ l := fun z => by rw [z] at hc; rw [e57 _ _ hl5] at hc; cases hc
      refine ⟨l, ys, .ref c, rfl, rfl, hl8, lt_sl (by omega), ?_⟩
      have e9 : Same H (upd (upd H7 c (.tup [.ref pb, .int (kx.length : Nat)])) l (.lst (ys ++ [.ref c]))) := Same.late (e5.trans e58) hl
      have tup9 := tup_upd (o := .lst (ys ++ [.ref c])) hl8
      have tl9 : TL (upd H7 c (.tup [.ref pb, .int (kx.length : Nat)])) (upd (upd H7 c (.tup [.ref pb, .int (kx.length : Nat)])) l (.lst (ys ++ [.ref c]))) := tl_upd hl8
      have hpb9 := tup9 _ _ (e58 _ _ hpb5)
      have hc9 := tup9 c _ upd_same
      have hys9 : Paired (RowL (upd (upd H7 c (.tup [.ref pb, .int (kx.length : Nat)])) l (.lst (ys ++ [.ref c])))) (ys ++ [.ref c]) (opL (bLst ns 0 (b.take i)) ++ [(ns ++ [(i : Int)], ks.length)]) := paired_append (Paired.mapP hys5 fun x p r => (r.same e58).lst hl8) (.cons ⟨c, pb, rfl, by rw [← hkl]; exact hc9, hpb9⟩ .nil)
      have tr9 := (tr5.same e58).tl tl9
      have hl9 : (upd (upd H7 c (.tup [.ref pb, .int (kx.length : Nat)])) l (.lst (ys ++ [.ref c]))) l = some (.lst (ys ++ [.ref c])) := upd_same
      generalize (upd (upd H7 c (.tup [.ref pb, .int (kx.length : Nat)])) l (.lst (ys ++ [.ref c]))) = H9 at e9 hpb9 hys9 tr9 hl9
      refine evd_ix (F := F0) (K := K) (d := .tuple (bbd ks)) (z := 1) trivial (evd_var (i := 4) trivial rfl tr9) (evv_c trivial) atI_1 H9 (.refl trivial) _ fun kv H10 e10 ⟨_, hdd, tk⟩ => ?_
      subst hdd
      obtain ⟨ka2, kx2, rfl, hks2, htk2⟩ := tk.tupE
      refine ⟨ka2, kx2, rfl, .inr hks2, fun q hq => ?_⟩
      have e11 := e10.same.trans (same_new (o := .lst kx2) hq)
      have hq11 : upd H10 q (.lst kx2) q = some (.lst kx2) := upd_same
      have htk11 := htk2.same (same_new (o := .lst kx2) hq)
      generalize upd H10 q (.lst kx2) = H11 at e11 hq11 htk11
      have row4 : (Td K H11 rv (hdD .opn (bbd ks))) := tr9.same e11
      refine skip_go (evb_hd (i := 4) rfl row4 rfl) fun H12 e12 => skip_go (evb_hd (i := 4) rfl (row4.same e12) rfl) fun H13 e13 => skip_go (evb_hd (i := 4) rfl ((row4.same e12).same e13) rfl) fun H14 e14 => ?_
      have e15 := (e12.trans e13).trans e14
      have e16 := e11.trans e15
      refine fin H14 s7 q kx2 (ys ++ [.ref c]) _ (e9.trans e16) (e16 _ _ hpb9) (e15 _ _ hq11) (htk11.same e15) (e16 _ _ hl9) ?_ fun σ' H' h => h
      rw [opL_app, one true rfl]
      exact Paired.mapP hys9 fun x p r => r.same e16
    · -- if
      refine skip rfl (.refl _) fun H6 e6 => take rfl e6 fun H7 e7 => ?_
      have e57 := e6.trans e7
      have tr7 := tr5.same e57
      obtain ⟨k1, k2, rfl⟩ : ∃ k1 k2, ks = [k1, k2] := by
        match ks, oh.2 with
        | [k1, k2], _ => exact ⟨k1, k2, rfl⟩
      refine evd_ix (F := F0) (K := K) (d := blkD k1) (z := 2) trivial (evd_var (i := 4) trivial rfl tr7) (evv_c trivial) atI_2 H7 (.refl trivial) _ fun v1 H8 e8 ⟨_, hd1, t1⟩ => ?_
      subst hd1
      refine evd_ix (F := F0) (K := K) (d := blkD k2) (z := 3) trivial (evd_var (i := 4) trivial rfl (tr7.same e8.same)) (evv_c trivial) atI_3 H8 (.refl trivial) _ fun v2 H9 e9 ⟨_, hd2, t2⟩ => ?_
      subst hd2
      refine ⟨(show 2 ≤ sizeLine by decide), fun q hq => ?_⟩
      have en := same_new (o := .lst [v1, v2]) hq
      have e10 := (e57.trans (e8.same.trans e9.same)).trans en
      have hq10 : upd H9 q (.lst [v1, v2]) q = some (.lst [v1, v2]) := upd_same
      have htd : TdA K (upd H9 q (.lst [v1, v2])) [v1, v2] (bbd [k1, k2]) := .cons ((t1.same e9.same).same en) (.cons (t2.same en) .nil)
      generalize upd H9 q (.lst [v1, v2]) = H10 at e10 hq10 htd
      refine skip rfl e10 fun H11 e11 => skip rfl (e10.trans e11) fun H12 e12 => ?_
      have e13 := e11.trans e12
      have e14 := e10.trans e13
      refine fin H12 s7 q [v1, v2] ys _ (e5.trans e14) (e14 _ _ hpb5) (e13 _ _ hq10) (htd.same e13) (e14 _ _ hl5) ?_ fun σ' H' h => h
      rw [opL_app, one false rfl]
      simpa using Paired.mapP hys5 fun x p r => r.same e14
    · -- repeat
      refine skip rfl (.refl _) fun H6 e6 => skip rfl e6 fun H7 e7 => take rfl (e6.trans e7) fun H8 e8 => ?_
      have e57 := (e6.trans e7).trans e8
      have tr7 := tr5.same e57
      obtain ⟨k1, rfl⟩ : ∃ k1, ks = [k1] := by
        match ks, oh with
        | [k1], _ => exact ⟨k1, rfl⟩
      refine evd_ix (F := F0) (K := K) (d := blkD k1) (z := 1) trivial (evd_var (i := 4) trivial rfl tr7) (evv_c trivial) atI_1 H8 (.refl trivial) _ fun v1 H9 e9 ⟨_, hd1, t1⟩ => ?_
      subst hd1
      refine ⟨(show 1 ≤ sizeLine by decide), fun q hq => ?_⟩
      have en := same_new (o := .lst [v1]) hq
      have e10 := (e57.trans e9.same).trans en
      have hq10 : upd H9 q (.lst [v1]) q = some (.lst [v1]) := upd_same
      have htd : TdA K (upd H9 q (.lst [v1])) [v1] (bbd [k1]) := .cons (t1.same en) .nil
      generalize upd H9 q (.lst [v1]) = H10 at e10 hq10 htd
      refine skip rfl e10 fun H11 e11 => ?_
      have e14 := e10.trans e11
      refine fin H11 s7 q [v1] ys _ (e5.trans e14) (e14 _ _ hpb5) (e11 _ _ hq10) (htd.same e11) (e14 _ _ hl5) ?_ fun σ' H' h => h
      rw [opL_app, one false rfl]
      simpa using Paired.mapP hys5 fun x p r => r.same e14
  · rintro σ H2 ⟨e2, l, ys, s3, s4, s5, s6, s7, s8, rfl, hl, hl2, hys⟩
    rw [show ((xs.length : Nat) : Int).toNat = b.length by rw [hxl]; simp, List.take_length] at hys
    exact ⟨_, rfl, hQ l ys H2 hl e2 hl2 hys⟩
theorem c_law_lines (T : Tx w K mg) : ∀ n : Nat, Cal P w K mg base (n + 1) "_law_lines" (spLines K n) []
  | 0 => by
    have no : ∀ vs H Q E, ¬ spLines K 0 vs H Q E := fun vs H Q E ⟨v, b, _, _, _, _, h, _⟩ => by omega
    exact T.d_law_lines.cal sc_law_lines (fun F => ⟨[], .nil, F.bindsN fun _ _ _ _ _ _ us hl => match us, hl with | [_, _], _ => rfl⟩) (fun vs H Q E h => (no vs H Q E h).elim) fun _ _ _ _ _ _ _ _ _ _ h => (no _ _ _ _ h).elim
  | n + 1 => lines_step T (n + 1) n (by omega) (c_law_lines T n)
end
end Oh
set_option maxHeartbeats 4000000
namespace Oh
open PySem PySem.Spec PyProof.Rows L2
open C8 (Cal Met Mak pe_c pe_mk pe_mt pe_mt0 pe_gc InsC call_isC tCut pss_cut fnBody fnArgs fnScope)
open LamX NdefX
section
variable {P : Program} {w : World} {K : PySem.W.Frag} {mg : Str → Option Value} {base : Heap} {te tb ta tc : TE} {σ : L2.St} {H H' : Hp} {E : XK} {ds es : List PyData}
structure KeptOk (H : Hp) (dk : Addr) (kvs : List (List L2.Key × V)) (pk : List Int → Nat) (rows : List (List Int × Oh.T)) : Prop where
  at_ : H dk = some (.dT kvs)
  rows : ∀ r ∈ rows, r.2.isOpn = true → ∃ l, valV kvs (pK r.1) = some (.ref l) ∧ H l = some (.lst [.int (pk r.1 : Nat)]) ∧ pk r.1 < r.2.kids.length
theorem KeptOk.same {dk : Addr} {kvs : List (List L2.Key × V)} {pk : List Int → Nat} {rows : List (List Int × Oh.T)} (h : KeptOk H dk kvs pk rows) (e : Same H H') : KeptOk H' dk kvs pk rows := ⟨e _ _ h.at_, fun r hr ho => let ⟨l, h1, h2, h3⟩ := h.rows r hr ho; ⟨l, h1, e _ _ h2, h3⟩⟩
theorem KeptOk.sub {dk : Addr} {kvs : List (List L2.Key × V)} {pk : List Int → Nat} {rows rows' : List (List Int × Oh.T)} (h : KeptOk H dk kvs pk rows) (e : ∀ r ∈ rows', r ∈ rows) : KeptOk H dk kvs pk rows' := ⟨h.at_, fun r hr => h.rows r (e r hr)⟩
theorem bLst_mem {above : List Int} {b : List Oh.T} {i : Nat} {t : Oh.T} (h : b[i]? = some t) : ∀ r ∈ t.lst (above ++ [(i : Int)]), r ∈ bLst above 0 b := fun r hr => by
  have h1 : r ∈ bLst above 0 (b.take (i + 1)) := by rw [bLst_take h]; exact List.mem_append_right _ hr
  have : bLst above 0 b = bLst above 0 (b.take (i + 1) ++ b.drop (i + 1)) := by rw [List.take_append_drop]
  rw [this]
  have app : ∀ (x y : List Oh.T) (i : Nat), ∀ r ∈ bLst above i x, r ∈ bLst above i (x ++ y) := fun x => by
    induction x with
    | nil => intro y i r hr; simp [bLst] at hr
    | cons t x ih =>
      intro y i r hr
      simp only [bLst, List.cons_append] at hr ⊢
      rcases List.mem_append.mp hr with hr | hr
      · exact List.mem_append_left _ hr
      · exact List.mem_append_right _ (ih y (i + 1) r hr)
  exact app _ _ 0 r h1
theorem bbLst_mem {path : List Int} {ks : List (List Oh.T)} {k : Nat} {c : List Oh.T} (h : ks[k]? = some c) : ∀ r ∈ bLst (path ++ [(k : Int)]) 0 c, r ∈ bbLst path 0 ks := fun r hr => by
  have h1 : r ∈ bbLst path 0 (ks.take (k + 1)) := by rw [bbLst_take h]; exact List.mem_append_right _ hr
  have : bbLst path 0 ks = bbLst path 0 (ks.take (k + 1) ++ ks.drop (k + 1)) := by rw [List.take_append_drop]
  rw [this]
  have app : ∀ (x y : List (List Oh.T)) (i : Nat), ∀ r ∈ bbLst path i x, r ∈ bbLst path i (x ++ y) := fun x => by
    induction x with
    | nil => intro y i r hr; simp [bbLst] at hr
    | cons t x ih =>
      intro y i r hr
      simp only [bbLst, List.cons_append] at hr ⊢
      rcases List.mem_append.mp hr with hr | hr
      · exact List.mem_append_left _ hr
      · exact List.mem_append_right _ (ih y (i + 1) r hr)
  exact app _ _ 0 r h1
def spKept (K : PySem.W.Frag) (n : Nat) : Sp := fun vs H Q _ => ∃ v b av dk kvs pk, ∃ ns : List Int, vs = [v, av, .ref dk] ∧ (∀ t ∈ b, ∃ lp, T.Ok lp t) ∧ (bHt b + 1 ≤ n ∧ b.length ≤ 12) ∧ Td K H v (blkD b) ∧ (Td K H av (.tuple (ns.map .int)) ∧ ns.length + 2 * n ≤ 100) ∧ KeptOk H dk kvs pk (bLst ns 0 b) ∧
  ∀ v' H', Same H H' → Td K H' v' (blkD (bEd (chP pk) ns 0 b)) → Q v' H'
theorem ev_kept {n : Nat} {c : List Oh.T} {p : List Int} {dk : Addr} {kvs : List (List L2.Key × V)} {pk : List Int → Nat} (h2 : σ[2]? = some (some (.ref dk))) (kd : KeptOk H dk kvs pk (bLst p 0 c)) (ok : ∀ t ∈ c, ∃ lp, T.Ok lp t) (hn : bHt c + 1 ≤ n) (h12 : c.length ≤ 12) (hp : p.length + 2 * n ≤ 100)
    (ha : EvD F0 K ta σ H (blkD c)) (hb : EvD F0 K tb σ H (.tuple (p.map .int))) : EvD F0 K (tCall (spKept K n) [] E (tCons ta (tCons tb (tCons (tVar 2) tNil)))) σ H (blkD (bEd (chP pk) p 0 c)) :=
  ev_call (ea_cons ha (ea_cons hb (ea_cons (evv_var (F := F0) trivial h2) ea_nil))) fun vs H1 e1 a Q q => by
    match vs, a with
    | [x, y, z], ⟨⟨d, hd, tx⟩, ⟨d', hd', ty⟩, hz, _⟩ =>
      subst hd hd'
      obtain rfl : z = V.ref dk := hz
      exact ⟨x, c, y, dk, kvs, pk, p, rfl, ok, ⟨hn, h12⟩, tx, ⟨ty, hp⟩, kd.same e1.same, fun v' H' e2 t => q _ _ (.of0 e2) ⟨_, rfl, t⟩⟩
theorem evd_pth2 {i : Nat} {ns : List Int} {k : Int} {v : V} (hi : σ[i]? = some (some v)) (hv : Td K H v (.tuple (ns.map .int))) (hb : EvV F0 tb σ H (.int k)) (hl : ns.length ≤ 1000) : EvD F0 K (tOp (rCatA K) (tVar i) (tTup (tCons tb tNil))) σ H (.tuple ((ns ++ [k]).map .int)) :=
  (ev_pth (F := F0) (K := K) (evd_var trivial hi hv) hb hl).sub fun v H1 _ h => ⟨_, rfl, pth_td h⟩
theorem if_no {t : TT} {tu tw : TS} {D : Ends} (h : EvB F0 t σ H false) (k : ∀ H1, Same H H1 → tw D σ H1) : tIfS t tu tw D σ H := h H (.refl trivial) _ fun b H1 e p => by
  rw [show b = false from p]
  exact k H1 e.same
theorem if_yes {t : TT} {tu tw : TS} {D : Ends} (h : EvB F0 t σ H true) (k : ∀ H1, Same H H1 → tu D σ H1) : tIfS t tu tw D σ H := h H (.refl trivial) _ fun b H1 e p => by
  rw [show b = true from p]
  exact k H1 e.same
theorem bEd_take {ch : Ch} {above : List Int} {b : List Oh.T} {i : Nat} {t : Oh.T} (h : b[i]? = some t) : (bEd ch above 0 b).take (i + 1) = (bEd ch above 0 b).take i ++ [t.ed ch (above ++ [(i : Int)])] := take_snoc (by rw [bEd_get, h, Nat.zero_add]; rfl)
theorem rowsD_mk : ∀ {rs : List (Str × Str)} {ks : List PyData} {i : Nat} {r : Str × Str} {k : PyData}, rs[i]? = some r → ks[i]? = some k → (rowsD rs ks)[i]? = some (.tuple [.str r.1, .str r.2, k])
  | r :: rs, k :: ks, 0, r', k', h1, h2 => by
    simp at h1 h2
    subst h1 h2
    rfl
  | r :: rs, k :: ks, i + 1, r', k', h1, h2 => by
    have := rowsD_mk (rs := rs) (ks := ks) (i := i) (by simpa using h1) (by simpa using h2)
    simpa [rowsD] using this
  | [], _, _, _, _, h1, _ => by simp at h1
  | _ :: _, [], _, _, _, _, h2 => by simp at h2
/-- a comprehension over a list that stands -/
theorem ev_lcO {F : Fm} {j : Nat} {τ : List PyData → Prop} (h : Ev F ta σ H (.ls K τ)) (hn : ∀ ds, τ ds → ds.length ≤ 1000000) (PT : List PyData → Nat → PyData → Prop)
    (turn : ∀ ds i d x H2, τ ds → ds[i]? = some d → F.L H H2 → Td K H2 x d → Ev F te ((wipe σ [j]).set j (some x)) H2 (.dt K (PT ds i))) : Ev F (tLc (iList K ta) (gName j) tYes te [j]) σ H (.nls K H fun es => ∃ ds, τ ds ∧ es.length = ds.length ∧ ∀ i d, es[i]? = some d → PT ds i d) := fun H1 e1 Q q =>
  h H1 e1 _ fun v H2 e2 ⟨a, xs, ds, ev, hsp, hl, hx, hφ⟩ => by
    subst ev
    refine ⟨a, rfl, ⟨xs, .of hl⟩, fun D hD => ?_⟩
    have g2 := e2.good
    have hn := hn ds hφ
    rw [← hx.len] at hn
    refine lc_any (F := F) (K := K) (n := xs.length) g2 (walk_list.mono (fun H' e => SqL.of (e.1 _ _ hl hsp)) fun _ _ _ _ _ _ y => y) hD hn (PT ds) ?_ ?_
    · rintro i x H3 H4 hi e3 ⟨rfl, hxi⟩
      obtain ⟨d, hd, td⟩ := hx.getV hxi
      exact ⟨.refl e3.good, fun R hR => hR _ (wipe_one σ j x) (turn ds i d x H4 hφ hd ((e1.trans e2).trans e3) (td.tl (e3.tl g2)))⟩
    · intro H3 ys es e3 hl3 htd hlen hp
      rw [hx.len] at hlen
      exact q _ _ (e2.trans e3) ⟨D, ys, es, rfl, L_back (e1.trans e2) hD, Fm.nosp g2 hD, hl3, htd, ds, hφ, hlen, hp⟩
theorem evd_tupS {i : Nat} {es : List PyData} {l : Addr} {xs : List V} (hi : σ[i]? = some (some (.ref l))) (hl : H l = some (.lst xs)) (td : TdA K H xs es) : EvD F0 K (tCB (rTupQ K) (tCons (tVar i) tNil)) σ H (.tuple es) := fun H1 e1 Q q => by
  have e1 := e1.same
  refine ⟨.ref l, hi, l, xs, rfl, .inl ⟨.of (e1 _ _ hl), fun p hp => ?_⟩⟩
  have en := same_new (o := .tup xs) hp
  exact q _ _ (.of0 en) ⟨_, rfl, .tup (.of upd_same) (td.same (e1.trans en))⟩
theorem evd_tupE {es : List PyData} (h : Ev F0 te σ H (.nls K H fun ds => ds = es)) : EvD F0 K (tCB (rTupQ K) (tCons te tNil)) σ H (.tuple es) := fun H1 e1 Q q =>
  h H1 e1 _ fun v H2 e2 ⟨l, xs, ds, hv, _, _, hl, td, hds⟩ => by
    subst hv
    obtain rfl : ds = es := hds
    refine ⟨l, xs, rfl, .inl ⟨.of hl, fun p hp => ?_⟩⟩
    have en := same_new (o := .tup xs) hp
    exact q _ _ (.of0 (e2.same.trans en)) ⟨_, rfl, .tup (.of upd_same) (td.same en)⟩
theorem asg1_go {i : Nat} {D : Ends} (h : te σ H fun v H1 => D.nx (σ.set i (some v)) H1) : tAsg te (gName i) D σ H := h
theorem sc_law_kept : FnScope ["_law_block", "_law_above", "_law_kept_here", "_law_rows", "_law_i", "_law_row", "_law_path", "_law_stay", "_law_k", "_law_first", "_law_parts"] ["_law_block", "_law_above", "_law_kept_here"] (fnScope s_law_kept) := ⟨rfl, rfl, rfl, by decide +kernel, rfl, by decide +kernel, by decide +kernel⟩
theorem kept_step (T : Tx w K mg) (m n : Nat) (hm : 1 ≤ m) (c_law_kept : Cal P w K mg base m "_law_kept" (spKept K n) []) : Cal P w K mg base (m + 1) "_law_kept" (spKept K (n + 1)) [] := by
  refine T.d_law_kept.cal sc_law_kept (fun F => ⟨[], .nil, F.bindsN fun _ _ _ _ _ _ us hl => match us, hl with | [_, _, _], _ => rfl⟩) (by rintro vs H Q E ⟨v, b, av, dk, kvs, pk, ns, rfl, _⟩; rfl) fun f cdv A outer s H vs Q E hr h => ?_
  obtain ⟨v, b, av, dk, kvs, pk, ns, rfl, ok, ⟨hn, hb12⟩, td, ⟨ta, hns⟩, kd, hQ⟩ := h
  refine ⟨_, (pss_cons (ps_set (i := 3) sc_law_kept.nd rfl (by first | exact Or.inl rfl | exact Or.inr rfl) (pe_lst pa_nil))
    (pss_cons (ps_for PassesOwn.never rfl (pi_range1 rfl T.z_range (pa_cons (pe_callB (r := rLenQ K) call_len_seq rfl T.z_len PySem.boot_len (pa_cons (pv 0) pa_nil)) pa_nil)) (pg_name (i := 4) sc_law_kept.nd rfl (Or.inl rfl))
      (pss_cons (ps_set (i := 5) sc_law_kept.nd rfl (by first | exact Or.inl rfl | exact Or.inr rfl) (pe_ix (r := rIxT K) ix_tup (pv 0) (pv 4) (fun _ _ => rfl)))
      (pss_cons (ps_set (i := 6) sc_law_kept.nd rfl (by first | exact Or.inl rfl | exact Or.inr rfl) (pe_op (r := rCatA K) op_catA (pv 1) (pe_tup (pa_cons (pv 4) pa_nil))))
      (pss_cons (ps_if (pt_cmpR op_eq (pe_ix (r := rIxT K) ix_tup (pv 5) pe_int (fun _ _ => rfl)) pe_str (nomark _))
        (pss_cons (ps_set (i := 7) sc_law_kept.nd rfl (by first | exact Or.inl rfl | exact Or.inr rfl) (pe_dget2 (hu1 hr) (pv 2) (pv 6) (pe_listRg rfl rfl T.z_list (prg_1 rfl T.z_range (pe_callB (r := rLenQ K) call_len_seq rfl T.z_len PySem.boot_len (pa_cons (pe_ix (r := rIxT K) ix_tup (pv 5) pe_int (fun _ _ => rfl)) pa_nil)))) ⟨rfl, rfl, rfl, rfl⟩))
        (pss_one (ps_set (i := 5) sc_law_kept.nd rfl (by first | exact Or.inl rfl | exact Or.inr rfl) (pe_tup (pa_cons pe_str (pa_cons (pe_callTy call_tuple_of rfl T.z_tuple (by decide +kernel) (pa_cons (pe_lc (own := [("_law_k", 8)]) (g := (gName 8)) (tt := tYes) rfl sc_law_kept.nd (pi_list (pv 7)) (blkOk_by (own := [("_law_k", 8)]) (N := ["_law_block", "_law_above", "_law_kept_here", "_law_rows", "_law_i", "_law_row", "_law_path", "_law_stay", "_law_k", "_law_first", "_law_parts"]) (sc := fnScope s_law_kept) (by decide +kernel)) (fun _ _ _ _ _ => (pg_name (i := 8) sc_law_kept.nd rfl (Or.inl rfl))) (fun _ _ _ _ _ => pts_nil) (fun _ _ _ _ _ => (pe_c c_law_kept hr (by omega) rfl (pa_cons (pe_ix (r := rIxT K) ix_tup (pe_ix (r := rIxT K) ix_tup (pv 5) pe_int (fun _ _ => rfl)) (pv 8) (fun _ _ => rfl)) (pa_cons (pe_op (r := rCatA K) op_catA (pv 6) (pe_tup (pa_cons (pv 8) pa_nil))) (pa_cons (pv 2) pa_nil)))))) pa_nil)) pa_nil))))))
        (pss_one (ps_if (pt_cmpR op_eq (pe_ix (r := rIxT K) ix_tup (pv 5) pe_int (fun _ _ => rfl)) pe_str (nomark _))
          (pss_cons (ps_set (i := 9) sc_law_kept.nd rfl (by first | exact Or.inl rfl | exact Or.inr rfl) (pe_c c_law_kept hr (by omega) rfl (pa_cons (pe_ix (r := rIxT K) ix_tup (pv 5) pe_int (fun _ _ => rfl)) (pa_cons (pe_op (r := rCatA K) op_catA (pv 6) (pe_tup (pa_cons pe_int pa_nil))) (pa_cons (pv 2) pa_nil)))))
          (pss_one (ps_set (i := 5) sc_law_kept.nd rfl (by first | exact Or.inl rfl | exact Or.inr rfl) (pe_tup (pa_cons pe_str (pa_cons (pe_ix (r := rIxT K) ix_tup (pv 5) pe_int (fun _ _ => rfl)) (pa_cons (pv 9) (pa_cons (pe_c c_law_kept hr (by omega) rfl (pa_cons (pe_ix (r := rIxT K) ix_tup (pv 5) pe_int (fun _ _ => rfl)) (pa_cons (pe_op (r := rCatA K) op_catA (pv 6) (pe_tup (pa_cons pe_int pa_nil))) (pa_cons (pv 2) pa_nil)))) pa_nil))))))))
          (pss_one (ps_if (pt_cmpR op_eq (pe_ix (r := rIxT K) ix_tup (pv 5) pe_int (fun _ _ => rfl)) pe_str (nomark _))
            (pss_one (ps_set (i := 5) sc_law_kept.nd rfl (by first | exact Or.inl rfl | exact Or.inr rfl) (pe_tup (pa_cons pe_str (pa_cons (pe_c c_law_kept hr (by omega) rfl (pa_cons (pe_ix (r := rIxT K) ix_tup (pv 5) pe_int (fun _ _ => rfl)) (pa_cons (pe_op (r := rCatA K) op_catA (pv 6) (pe_tup (pa_cons pe_int pa_nil))) (pa_cons (pv 2) pa_nil)))) pa_nil)))))
            (pss_one (ps_if (pt_cmpR op_eq (pe_ix (r := rIxT K) ix_tup (pv 5) pe_int (fun _ _ => rfl)) pe_str (nomark _))
              (pss_cons (ps_set (i := 10) sc_law_kept.nd rfl (by first | exact Or.inl rfl | exact Or.inr rfl) (pe_lst pa_nil))
              (pss_cons (ps_for PassesOwn.never rfl (pi_range1 rfl T.z_range (pa_cons (pe_callB (r := rLenQ K) call_len_seq rfl T.z_len PySem.boot_len (pa_cons (pe_ix (r := rIxT K) ix_tup (pv 5) pe_int (fun _ _ => rfl)) pa_nil)) pa_nil)) (pg_name (i := 8) sc_law_kept.nd rfl (Or.inl rfl))
                (pss_one (ps_expr (pe_bm PySem.F.plainAttrs_list PySem.F.slot_list_append PySem.F.type_list_append mt_append (pv 10) (pa_cons (pe_tup (pa_cons (pe_ix (r := rIxT K) ix_tup (pe_ix (r := rIxT K) ix_tup (pe_ix (r := rIxT K) ix_tup (pv 5) pe_int (fun _ _ => rfl)) (pv 8) (fun _ _ => rfl)) pe_int (fun _ _ => rfl)) (pa_cons (pe_ix (r := rIxT K) ix_tup (pe_ix (r := rIxT K) ix_tup (pe_ix (r := rIxT K) ix_tup (pv 5) pe_int (fun _ _ => rfl)) (pv 8) (fun _ _ => rfl)) pe_int (fun _ _ => rfl)) (pa_cons (pe_c c_law_kept hr (by omega) rfl (pa_cons (pe_ix (r := rIxT K) ix_tup (pe_ix (r := rIxT K) ix_tup (pe_ix (r := rIxT K) ix_tup (pv 5) pe_int (fun _ _ => rfl)) (pv 8) (fun _ _ => rfl)) pe_int (fun _ _ => rfl)) (pa_cons (pe_op (r := rCatA K) op_catA (pv 6) (pe_tup (pa_cons (pv 8) pa_nil))) (pa_cons (pv 2) pa_nil)))) pa_nil)))) pa_nil)))))
              (pss_one (ps_set (i := 5) sc_law_kept.nd rfl (by first | exact Or.inl rfl | exact Or.inr rfl) (pe_tup (pa_cons pe_str (pa_cons (pe_callTy call_tuple_of rfl T.z_tuple (by decide +kernel) (pa_cons (pv 10) pa_nil)) pa_nil)))))))
              pss_nil)))))))
      (pss_one (ps_expr (pe_bm PySem.F.plainAttrs_list PySem.F.slot_list_append PySem.F.type_list_append mt_append (pv 3) (pa_cons (pv 5) pa_nil))))))))
    (pss_one (ps_ret (pe_callTy call_tuple_of rfl T.z_tuple (by decide +kernel) (pa_cons (pv 3) pa_nil)))))), ?_⟩
  obtain ⟨a, xs, rfl, hs, hx⟩ := td.tupE
  have hxl : xs.length = b.length := by rw [hx.len, bd_len]
  refine ⟨by decide, fun l hl => ?_⟩
  let LS : Nat → L2.St → Hp → Prop := fun i σ H2 => Same H H2 ∧ ∃ ys s4 s5 s6 s7 s8 s9 s10, σ = [some (.ref a), some av, some (.ref dk), some (.ref l), s4, s5, s6, s7, s8, s9, s10] ∧ H2 l = some (.lst ys) ∧ TdA K H2 ys (bd ((bEd (chP pk) ns 0 b).take i))
  refine ⟨.ref a, rfl, a, xs, rfl, .inr (Same.sqt (same_new hl) hs), (xs.length : Nat), rfl, by omega, by omega, for_it walk_range LS ⟨same_new hl, [], _, _, _, _, _, _, _, rfl, upd_same, by rw [List.take_zero]; exact .nil⟩ (fun i σ H2 _ _ => trivial) ?_ ?_⟩
  · rintro i x σ _ H2 hi ⟨e2, ys, s4, s5, s6, s7, s8, s9, s10, rfl, hl2, hys⟩ ⟨rfl, hx0⟩
    obtain rfl : x = V.int (i : Nat) := by rw [hx0]; simp
    have hib : i < b.length := by
      have hi : i < ((xs.length : Nat) : Int).toNat := hi
      omega
    have hbi : b[i]? = some b[i] := List.getElem?_eq_getElem hib
    generalize b[i] = t at hbi
    have hm' := List.mem_of_getElem? hbi
    have hht := ht_mem hm'
    have kdt : KeptOk H dk kvs pk (t.lst (ns ++ [(i : Int)])) := kd.sub (bLst_mem hbi)
    obtain ⟨lp, okt⟩ := ok _ hm'
    obtain ⟨hd, ks⟩ := t
    obtain ⟨oh, o12, oall, olv, orep⟩ := okt.inv
    have hk4 := okH_len oh
    refine evd_ix (F := F0) (K := K) (d := hdD hd (bbd ks)) (z := (i : Nat)) trivial (evd_var (i := 0) trivial rfl (.tup (Same.sqt e2 hs) (hx.same e2))) (evv_var (i := 4) trivial rfl) (atI_nat (by rw [bd_get, hbi]; rfl)) H2 (.refl trivial) _ fun rv H3 e3 ⟨_, hdd, tr⟩ => ?_
    subst hdd
    refine ev_pth (F := F0) (K := K) (ns := ns) (m := (i : Nat)) (evd_var (i := 1) trivial rfl ((ta.same e2).same e3.same)) (evv_var (i := 4) trivial rfl) (by omega) H3 (.refl trivial) _ fun pv H4 e4 ⟨pb, hpv, hpb⟩ => ?_
    subst hpv
    have e24 := e3.same.trans e4.same
    have e5 := e2.trans e24
    have tr4 := tr.same e4.same
    have hl4 := e24 _ _ hl2
    have hys4 := hys.same e24
    have kd4 := kdt.same e5
    have kid : ∀ {k : Nat} {c : List Oh.T}, ks[k]? = some c → (∀ t ∈ c, ∃ lp, Oh.T.Ok lp t) ∧ bHt c + 1 ≤ n ∧ c.length ≤ 12 ∧ ∀ {H' : Hp}, Same H4 H' → KeptOk H' dk kvs pk (bLst (ns ++ [(i : Int)] ++ [(k : Int)]) 0 c) := fun {k c} hk => by
      have hmc := List.mem_of_getElem? hk
      have hc2 : bHt c + 1 ≤ (Oh.T.mk hd ks).ht := bht_mem hmc
      exact ⟨fun t ht => ⟨_, oall c hmc t ht⟩, by omega, o12 c hmc, fun e => (kd4.sub fun r hr => by rw [T.lst]; exact List.mem_cons_of_mem _ (bbLst_mem hk r hr)).same e⟩
    have fin : ∀ (H6 : Hp) (rv' : V) (s7 s8 s9 s10 : Option V) (D : Ends), Same H4 H6 → Td K H6 rv' (Oh.T.ed (chP pk) (ns ++ [(i : Int)]) (.mk hd ks)).d → (∀ σ' H', LS (i + 1) σ' H' → D.nx σ' H') →
        tDrop (tBM K "list" rAppend (tVar 3) (tCons (tVar 5) tNil)) D [some (.ref a), some av, some (.ref dk), some (.ref l), some (.int (i : Nat)), some rv', some (.ref pb), s7, s8, s9, s10] H6 := fun H6 rv' s7 s8 s9 s10 D e6 tr6 hD => by
      have hl6 := e6 _ _ hl4
      have hyl : ys.length ≤ 12 := by
        rw [hys.len, bd_len, List.length_take, bEd_len]
        omega
      refine ⟨.ref l, rfl, .inl ⟨rfl, _, .of hl6⟩, rv', rfl, l, ys, rv', rfl, rfl, hl6, lt_sl (by omega), hD _ _ ⟨Same.late (e5.trans e6) hl, ys ++ [rv'], _, _, _, _, _, _, _, rfl, upd_same, ?_⟩⟩
      have tu := tl_upd (o := .lst (ys ++ [rv'])) hl6
      rw [bEd_take hbi, ← bd_app]
      exact ((hys4.same e6).tl tu).append (.cons (tr6.tl tu) .nil)
    have hpv4 : Td K H4 (.ref pb) (.tuple ((ns ++ [(i : Int)]).map .int)) := pth_td (F := F0) ⟨pb, rfl, hpb⟩
    have kp : ∀ {H' : Hp} {k : Nat} {c : List Oh.T} {s7 s8 s9 s10 : Option V} {tk ti : TE}, Same H4 H' → ks[k]? = some c → EvD F0 K tk [some (.ref a), some av, some (.ref dk), some (.ref l), some (.int (i : Nat)), some rv, some (.ref pb), s7, s8, s9, s10] H' (blkD c) → EvV F0 ti [some (.ref a), some av, some (.ref dk), some (.ref l), some (.int (i : Nat)), some rv, some (.ref pb), s7, s8, s9, s10] H' (.int (k : Nat)) →
        EvD F0 K (tCall (spKept K n) [] C8.E0 (tCons tk (tCons (tOp (rCatA K) (tVar 6) (tTup (tCons ti tNil))) (tCons (tVar 2) tNil)))) [some (.ref a), some av, some (.ref dk), some (.ref l), some (.int (i : Nat)), some rv, some (.ref pb), s7, s8, s9, s10] H' (blkD (bEd (chP pk) (ns ++ [(i : Int)] ++ [(k : Int)]) 0 c)) := fun e hk h1 h2 => by
      obtain ⟨g1, g2, g3, g4⟩ := kid hk
      exact ev_kept rfl (g4 e) g1 g2 g3 (by simp; omega) h1 (evd_pth2 rfl (hpv4.same e) h2 (by simp; omega))
    rcases hd_cases oh with ⟨h0, hk, h1, h2, h3, h4, hsel⟩ | ⟨rows, rfl⟩ | rfl | ⟨e, rfl⟩ | rfl
    · refine if_no (evb_hd (i := 5) rfl tr4 h1) fun H6 e6 => if_no (evb_hd (i := 5) rfl (tr4.same e6) h2) fun H7 e7 => if_no (evb_hd (i := 5) rfl ((tr4.same e6).same e7) h3) fun H8 e8 => if_no (evb_hd (i := 5) rfl (((tr4.same e6).same e7).same e8) h4) fun H9 e9 => ?_
      have e49 := ((e6.trans e7).trans e8).trans e9
      refine fin H9 rv s7 s8 s9 s10 _ e49 ?_ fun σ' H' h => h
      have := tr4.same e49
      subst hk
      rw [T.ed, hsel]
      exact this
    · -- wait
      refine if_no (evb_hd (i := 5) rfl tr4 rfl) fun H6 e6 => if_no (evb_hd (i := 5) rfl (tr4.same e6) rfl) fun H7 e7 => if_no (evb_hd (i := 5) rfl ((tr4.same e6).same e7) rfl) fun H8 e8 => if_yes (evb_hd (i := 5) rfl (((tr4.same e6).same e7).same e8) rfl) fun H9 e9 => ?_
      have e49 := ((e6.trans e7).trans e8).trans e9
      have hks : (bbEd (chP pk) (ns ++ [(i : Int)]) 0 ks).length = ks.length := bbEd_len _ _ _ _
      have hrl := oh.1
      refine ⟨by decide, fun q hq => ?_⟩
      have e410 := e49.trans (same_new (o := .lst []) hq)
      have hq4 := fresh_back e49 hq
      let LI : Nat → L2.St → Hp → Prop := fun k σ H7 => Same H4 H7 ∧ ∃ us s8, σ = [some (.ref a), some av, some (.ref dk), some (.ref l), some (.int (i : Nat)), some rv, some (.ref pb), s7, s8, s9, some (.ref q)] ∧ H7 q = some (.lst us) ∧ TdA K H7 us ((rowsD rows (bbd (bbEd (chP pk) (ns ++ [(i : Int)]) 0 ks))).take k)
      have row1 : ∀ {H' : Hp} {s8' : Option V}, Same H4 H' → EvD F0 K (tOp (rIxT K) (tVar 5) (tC (.int 1))) [some (.ref a), some av, some (.ref dk), some (.ref l), some (.int (i : Nat)), some rv, some (.ref pb), s7, s8', s9, some (.ref q)] H' (.tuple (rowsD rows (bbd ks))) := fun e => evd_ix (z := 1) trivial (evd_var (i := 5) trivial rfl (tr4.same e)) (evv_c trivial) atI_1
      refine evv_len (F := F0) (row1 (s8' := s8) e410) _ (.refl trivial) _ fun nv H11 e11 hnv => ?_
      obtain rfl : nv = V.int _ := hnv
      rw [rowsB_len _ _ hrl]
      refine ⟨(ks.length : Nat), rfl, by omega, by omega, for_it walk_range LI ⟨e410.trans e11.same, [], _, rfl, e11.same _ _ upd_same, by rw [List.take_zero]; exact .nil⟩ (fun k σ H7 _ _ => trivial) ?_ ?_⟩
      · rintro k x σ _ H7 hk ⟨e7, us, s8, rfl, hq7, hus⟩ ⟨rfl, hx0⟩
        obtain rfl : x = V.int (k : Nat) := by rw [hx0]; simp
        have hkk : k < ks.length := by
          have hk : k < ((ks.length : Nat) : Int).toNat := hk
          omega
        have hbk : ks[k]? = some ks[k] := List.getElem?_eq_getElem hkk
        generalize ks[k] = c at hbk
        have hrk : rows[k]? = some rows[k] := List.getElem?_eq_getElem (by omega)
        generalize rows[k] = r at hrk
        have hR := rowsD_mk (ks := bbd ks) hrk (show (bbd ks)[k]? = some (blkD c) by rw [bbd_get, hbk]; rfl)
        have hR' := rowsD_mk (ks := bbd (bbEd (chP pk) (ns ++ [(i : Int)]) 0 ks)) hrk (show (bbd (bbEd (chP pk) (ns ++ [(i : Int)]) 0 ks))[k]? = some (blkD (bEd (chP pk) (ns ++ [(i : Int)] ++ [(k : Int)]) 0 c)) by rw [bbd_get, bbEd_get, hbk, Nat.zero_add]; rfl)
        have hul : us.length ≤ 4 := by
          rw [hus.len, List.length_take]
          omega
        have it : EvD F0 K (tOp (rIxT K) (tOp (rIxT K) (tVar 5) (tC (.int 1))) (tVar 8)) [some (.ref a), some av, some (.ref dk), some (.ref l), some (.int (i : Nat)), some rv, some (.ref pb), s7, some (.int (k : Nat)), s9, some (.ref q)] H7 (.tuple [.str r.1, .str r.2, blkD c]) := evd_ix (z := (k : Nat)) trivial (row1 e7) (evv_var (i := 8) trivial rfl) (atI_nat hR)
        refine ⟨.ref q, rfl, .inl ⟨rfl, _, .of hq7⟩, ?_⟩
        refine evd_tup (F := F0) (K := K) (ds := [.str r.1, .str r.2, blkD (bEd (chP pk) (ns ++ [(i : Int)] ++ [(k : Int)]) 0 c)]) (eda_cons (evd_ix (z := 0) trivial it (evv_c trivial) (atI_nat (xs := [PyData.str r.1, .str r.2, blkD c]) (j := 0) rfl)) (eda_cons (evd_ix (z := 1) trivial it (evv_c trivial) atI_1) (eda_cons (kp e7 hbk (evd_ix (z := 2) trivial it (evv_c trivial) atI_2) (evv_var (i := 8) trivial rfl)) eda_nil))) (show (3 : Nat) ≤ 100000 by decide) H7 (.refl trivial) _ fun nv H8 e8 ⟨_, hnd, tn⟩ => ?_
        subst hnd
        have hq8 := e8.same _ _ hq7
        refine ⟨q, us, nv, rfl, rfl, hq8, lt_sl (by omega), ?_⟩
        have tu := tl_upd (o := .lst (us ++ [nv])) hq8
        refine ⟨Same.late (e7.trans e8.same) hq4, us ++ [nv], _, rfl, upd_same, ?_⟩
        rw [take_snoc hR']
        exact ((hus.same e8.same).tl tu).append (.cons (tn.tl tu) .nil)
      · rintro σ H7 ⟨e7, us, s8, rfl, hq7, hus⟩
        rw [show ((ks.length : Nat) : Int).toNat = (rowsD rows (bbd (bbEd (chP pk) (ns ++ [(i : Int)]) 0 ks))).length by rw [rowsB_len _ _ (by rw [hks]; exact hrl), hks]; simp, List.take_length] at hus
        have tp : EvD F0 K (tCB (rTupQ K) (tCons (tVar 10) tNil)) [some (.ref a), some av, some (.ref dk), some (.ref l), some (.int (i : Nat)), some rv, some (.ref pb), s7, s8, s9, some (.ref q)] H7 (.tuple (rowsD rows (bbd (bbEd (chP pk) (ns ++ [(i : Int)]) 0 ks)))) := evd_tupS (i := 10) rfl hq7 hus
        refine asg1_go (D := _) (evd_tup (F := F0) (K := K) (ds := [.str "wait", .tuple (rowsD rows (bbd (bbEd (chP pk) (ns ++ [(i : Int)]) 0 ks)))]) (eda_cons (evd_str trivial) (eda_cons tp eda_nil)) (show (2 : Nat) ≤ 100000 by decide) H7 (.refl trivial) _ fun nv H8 e8 ⟨_, hnd, tn⟩ => ?_)
        subst hnd
        exact fin H8 nv _ _ _ _ _ (e7.trans e8.same) tn fun σ' H' h => h
    · -- open
      refine if_yes (evb_hd (i := 5) rfl tr4 rfl) fun H6 e6 => ?_
      have row1 : ∀ {H' : Hp} {s7' s8' : Option V}, Same H4 H' → EvD F0 K (tOp (rIxT K) (tVar 5) (tC (.int 1))) [some (.ref a), some av, some (.ref dk), some (.ref l), some (.int (i : Nat)), some rv, some (.ref pb), s7', s8', s9, s10] H' (.tuple (bbd ks)) := fun e => evd_ix (z := 1) trivial (evd_var (i := 5) trivial rfl (tr4.same e)) (evv_c trivial) atI_1
      have kd6 := kd4.same e6
      obtain ⟨lk, hv1, hv2, hv3⟩ := kd6.rows (ns ++ [(i : Int)], .mk .opn ks) (by rw [T.lst]; exact List.mem_cons_self ..) rfl
      refine asg_go ?_
      refine ⟨.ref dk, rfl, dk, rfl, .inr ⟨_, .inl kd6.at_⟩, .ref pb, rfl, ?_⟩
      refine evv_len (F := F0) (row1 (s7' := s7) (s8' := s8) e6) _ (.refl trivial) _ fun nv H7 e7 hnv => ?_
      obtain rfl : nv = V.int _ := hnv
      refine ⟨_, rfl, RgOk.of_le (by decide) (by rw [bbd_len]; omega) (by decide) (by omega), fun q hq => ?_⟩
      have e68 := e7.same.trans (same_new (o := .lst (rgV 0 ((bbd ks).length : Nat))) hq)
      have e48 := e6.trans e68
      have hpb8 := e48 _ _ hpb
      refine ⟨_, DGet.t (k := pK (ns ++ [(i : Int)])) (e68 _ _ kd6.at_) (by rw [pK_kV]; exact hpb8), ?_⟩
      rw [hv1]
      have hlk8 := e68 _ _ hv2
      generalize upd H7 q (.lst (rgV 0 ((bbd ks).length : Nat))) = H8 at e48 hlk8 ⊢
      obtain ⟨c, hc⟩ : ∃ c, ks[pk (ns ++ [(i : Int)])]? = some c := ⟨_, List.getElem?_eq_getElem hv3⟩
      have st7 : Ev F0 (tVar 7) [some (.ref a), some av, some (.ref dk), some (.ref l), some (.int (i : Nat)), some rv, some (.ref pb), some (.ref lk), s8, s9, s10] H8 (.ls K fun ds => ds = [.int (pk (ns ++ [(i : Int)]) : Nat)]) := ev_var (i := 7) trivial rfl ⟨lk, _, _, rfl, (fun z => z), hlk8, .cons (.int _) .nil, rfl⟩
      refine asg1_go (D := _) (evd_tup (F := F0) (K := K) (ds := [.str "open", .tuple [blkD (bEd (chP pk) (ns ++ [(i : Int)] ++ [((pk (ns ++ [(i : Int)]) : Nat) : Int)]) 0 c)]]) (eda_cons (evd_str trivial) (eda_cons (evd_tupE ((ev_lcO (F := F0) (K := K) (j := 8) (τ := fun ds => ds = [.int (pk (ns ++ [(i : Int)]) : Nat)]) st7 (fun ds h => by rw [h]; show (1 : Nat) ≤ 1000000; decide) (fun _ _ d => d = blkD (bEd (chP pk) (ns ++ [(i : Int)] ++ [((pk (ns ++ [(i : Int)]) : Nat) : Int)]) 0 c)) fun ds k d x H9 hds hk e9 td => ?_).sub fun v H9 _ ⟨p, xs, es, h1, h2, h3, h4, h5, ds, h6, h7, h8⟩ => ⟨p, xs, es, h1, h2, h3, h4, h5, ?_⟩)) eda_nil)) (show (2 : Nat) ≤ 100000 by decide) H8 (.refl trivial) _ fun nv H9 e9 ⟨_, hnd, tn⟩ => ?_)
      · subst hds
        have hk0 : k = 0 := by
          rcases Nat.eq_zero_or_pos k with z | z
          · exact z
          · rw [List.getElem?_eq_none (by simp; omega)] at hk; cases hk
        subst hk0
        obtain rfl : PyData.int (pk (ns ++ [(i : Int)]) : Nat) = d := Option.some.inj hk
        obtain rfl := td.intE
        exact kp (e48.trans e9.same) hc (evd_ix (z := (pk (ns ++ [(i : Int)]) : Nat)) trivial (row1 (e48.trans e9.same)) (evv_var (i := 8) trivial rfl) (atI_nat (by rw [bbd_get, hc]; rfl))) (evv_var (i := 8) trivial rfl)
      · subst h6
        match es, h7 with
        | [d], _ => rw [h8 0 d rfl]
      · subst hnd
        refine fin H9 nv _ _ _ _ _ (e48.trans e9.same) ?_ fun σ' H' h => h
        have hsel : selK Hd.opn (chP pk (ns ++ [(i : Int)]) ks.length) (bbEd (chP pk) (ns ++ [(i : Int)]) 0 ks) = [bEd (chP pk) (ns ++ [(i : Int)] ++ [((pk (ns ++ [(i : Int)]) : Nat) : Int)]) 0 c] := by
          unfold selK chP
          rw [if_pos (show Hd.opn.isOpn = true from rfl), List.filterMap_cons]
          have := bbEd_get (chP pk) (ns ++ [(i : Int)]) ks 0 (pk (ns ++ [(i : Int)]))
          rw [hc, Nat.zero_add] at this
          unfold chP at this
          rw [this]
          rfl
        rw [T.ed, hsel]
        exact tn
    · -- if
      refine if_no (evb_hd (i := 5) rfl tr4 rfl) fun H6 e6 => if_yes (evb_hd (i := 5) rfl (tr4.same e6) rfl) fun H7 e7 => ?_
      have e47 := e6.trans e7
      obtain ⟨k1, k2, rfl⟩ : ∃ k1 k2, ks = [k1, k2] := by
        match ks, oh.2 with
        | [k1, k2], _ => exact ⟨k1, k2, rfl⟩
      have row : ∀ {H' : Hp} {s9' : Option V} {d : PyData} {z : Int}, Same H4 H' → atI [.str "if", e.d, blkD k1, blkD k2] z = some d → EvD F0 K (tOp (rIxT K) (tVar 5) (tC (.int z))) [some (.ref a), some av, some (.ref dk), some (.ref l), some (.int (i : Nat)), some rv, some (.ref pb), s7, s8, s9', s10] H' d := fun e' hz => evd_ix (K := K) (ds := [.str "if", e.d, blkD k1, blkD k2]) trivial (evd_var (i := 5) trivial rfl (tr4.same e')) (evv_c trivial) hz
      refine asg_go (kp (k := 0) (c := k1) e47 rfl (row e47 atI_2) (evv_c trivial) H7 (.refl trivial) _ fun v1 H8 e8 ⟨_, hd1, t1⟩ => ?_)
      subst hd1
      have e48 := e47.trans e8.same
      refine asg1_go (D := _) (evd_tup (F := F0) (K := K) (ds := [.str "if", e.d, blkD (bEd (chP pk) (ns ++ [(i : Int)] ++ [((0 : Nat) : Int)]) 0 k1), blkD (bEd (chP pk) (ns ++ [(i : Int)] ++ [((1 : Nat) : Int)]) 0 k2)]) (eda_cons (evd_str trivial) (eda_cons (row e48 atI_1) (eda_cons (evd_var (i := 9) trivial rfl t1) (eda_cons (kp (k := 1) (c := k2) e48 rfl (row e48 atI_3) (evv_c trivial)) eda_nil)))) (show (4 : Nat) ≤ 100000 by decide) H8 (.refl trivial) _ fun nv H9 e9 ⟨_, hnd, tn⟩ => ?_)
      subst hnd
      exact fin H9 nv _ _ _ _ _ (e48.trans e9.same) tn fun σ' H' h => h
    · -- repeat
      refine if_no (evb_hd (i := 5) rfl tr4 rfl) fun H6 e6 => if_no (evb_hd (i := 5) rfl (tr4.same e6) rfl) fun H7 e7 => if_yes (evb_hd (i := 5) rfl ((tr4.same e6).same e7) rfl) fun H8 e8 => ?_
      have e48 := (e6.trans e7).trans e8
      obtain ⟨k1, rfl⟩ : ∃ k1, ks = [k1] := by
        match ks, oh with
        | [k1], _ => exact ⟨k1, rfl⟩
      refine asg1_go (D := _) (evd_tup (F := F0) (K := K) (ds := [.str "repeat", blkD (bEd (chP pk) (ns ++ [(i : Int)] ++ [((0 : Nat) : Int)]) 0 k1)]) (eda_cons (evd_str trivial) (eda_cons (kp (k := 0) (c := k1) e48 rfl (evd_ix (K := K) (ds := [.str "repeat", blkD k1]) trivial (evd_var (i := 5) trivial rfl (tr4.same e48)) (evv_c trivial) atI_1) (evv_c trivial)) eda_nil)) (show (2 : Nat) ≤ 100000 by decide) H8 (.refl trivial) _ fun nv H9 e9 ⟨_, hnd, tn⟩ => ?_)
      subst hnd
      exact fin H9 nv _ _ _ _ _ (e48.trans e9.same) tn fun σ' H' h => h
  · rintro σ H2 ⟨e2, ys, s4, s5, s6, s7, s8, s9, s10, rfl, hl2, hys⟩
    rw [show ((xs.length : Nat) : Int).toNat = (bEd (chP pk) ns 0 b).length by rw [hxl, bEd_len]; simp, List.take_length] at hys
    refine ⟨.ref l, rfl, l, ys, rfl, .inl ⟨.of hl2, fun p hp => ?_⟩⟩
    have en := same_new (o := .tup ys) hp
    exact hQ _ _ (e2.trans en) (.tup (.of upd_same) (hys.same en))
theorem c_law_kept (T : Tx w K mg) : ∀ n : Nat, Cal P w K mg base (n + 1) "_law_kept" (spKept K n) []
  | 0 => by
    have no : ∀ vs H Q E, ¬ spKept K 0 vs H Q E := fun vs H Q E ⟨v, b, _, _, _, _, _, _, _, h, _⟩ => by omega
    exact T.d_law_kept.cal sc_law_kept (fun F => ⟨[], .nil, F.bindsN fun _ _ _ _ _ _ us hl => match us, hl with | [_, _, _], _ => rfl⟩) (fun vs H Q E h => (no vs H Q E h).elim) fun _ _ _ _ _ _ _ _ _ _ h => (no _ _ _ _ h).elim
  | n + 1 => kept_step T (n + 1) n (by omega) (c_law_kept T n)
end
end Oh
set_option maxHeartbeats 4000000
namespace Oh
open PySem PySem.Spec PyProof.Rows L2
open C8 (Cal Met Mak pe_c pe_mk pe_mt pe_mt0 pe_gc InsC call_isC tCut pss_cut fnBody fnArgs fnScope)
open LamX NdefX
def pkv (rs : List (List Int × Nat)) : List (List L2.Key × V) := rs.map fun r => (pK r.1, V.int (r.2 : Nat))
theorem pkv_keys (rs : List (List Int × Nat)) : (pkv rs).map (·.1) = (rs.map (·.1)).map pK := by unfold pkv; rw [List.map_map, List.map_map]; rfl
theorem pkv_val : ∀ {rs : List (List Int × Nat)}, (rs.map (·.1)).Nodup → ∀ {r : List Int × Nat}, r ∈ rs → valV (pkv rs) (pK r.1) = some (.int (r.2 : Nat))
  | [], _, _, h => by cases h
  | a :: rs, nd, r, h => by
    obtain ⟨n1, n2⟩ := List.nodup_cons.mp (show (a.1 :: rs.map (·.1)).Nodup from nd)
    rcases List.mem_cons.mp h with rfl | h
    · exact valV_pos rfl
    · have hne : ¬ pK a.1 = pK r.1 := fun e => n1 (by rw [pK_inj e]; exact List.mem_map_of_mem h)
      show valV ((pK a.1, V.int (a.2 : Nat)) :: pkv rs) _ = _
      rw [valV_neg hne]
      exact pkv_val n2 h
section
variable {P : Program} {w : World} {K : PySem.W.Frag} {mg : Str → Option Value} {base : Heap} {te tb ta tc : TE} {σ : L2.St} {H H' : Hp} {E : XK} {ds es : List PyData} {Pt : Addr}
def spKeptOf : Sp := fun vs H Q _ => ∃ pa, ∃ rs : List (List Int × Nat), vs = [.ref pa] ∧ H pa = some (.dT (pkv rs)) ∧ (rs.map (·.1)).Nodup ∧ rs.length ≤ 6000 ∧
  ∀ d kvs H', H d = none → Same H H' → H' d = some (.dT kvs) → (∀ r ∈ rs, ∃ l, valV kvs (pK r.1) = some (.ref l) ∧ H' l = some (.lst [.int (r.2 : Nat)])) → Q (.ref d) H'
theorem sc_law_kept_of : FnScope ["_law_picks_here", "_law_kept_here", "_law_path"] ["_law_picks_here"] (fnScope s_law_kept_of) := ⟨rfl, rfl, rfl, by decide +kernel, rfl, by decide +kernel, by decide +kernel⟩
theorem c_law_kept_of (T : Tx w K mg) : Cal P w K mg base 1 "_law_kept_of" spKeptOf [] := by
  refine T.d_law_kept_of.cal sc_law_kept_of (fun F => ⟨[], .nil, F.bindsN fun _ _ _ _ _ _ us hl => match us, hl with | [_], _ => rfl⟩) (by rintro vs H Q E ⟨pa, rs, rfl, _⟩; rfl) fun f cdv A outer s H vs Q E hr h => ?_
  obtain ⟨pa, rs, rfl, hpa, nd, hl, hQ⟩ := h
  refine ⟨_, (pss_cons (ps_set (i := 1) sc_law_kept_of.nd rfl (by first | exact Or.inl rfl | exact Or.inr rfl) pe_dnewT)
    (pss_cons (ps_lock (ps_for PassesOwn.never rfl (pi_keys (pv 0)) (pg_name (i := 2) sc_law_kept_of.nd rfl (Or.inl rfl))
      (pss_one (ps_dput (hu1 hr) (pv 1) (pv 2) (pe_lst (pa_cons (pe_dget (hu1 hr) (pv 0) (pv 2) (fun _ _ => rfl)) pa_nil)) rfl))))
    (pss_one (ps_ret (pv 1))))), ?_⟩
  refine asg_go fun d hd => ?_
  have npd : pa ≠ d := fun z => by rw [z, hd] at hpa; cases hpa
  have hpa1 : upd H d (.dT []) pa = some (.dT (pkv rs)) := by rw [upd_ne npd]; exact hpa
  refine ⟨pa, _, hpa1, trivial, fun od => ?_⟩
  let LS : Nat → L2.St → Hp → Prop := fun i σ H2 => H2 pa = some (.frz od (.dT (pkv rs))) ∧ (∀ b o, H b = some o → b ≠ pa → H2 b = some o) ∧ ∃ s2 kvs, σ = [some (.ref pa), some (.ref d), s2] ∧ H2 d = some (.dT kvs) ∧ kvs.length ≤ i ∧ ∀ r ∈ rs.take i, ∃ l, valV kvs (pK r.1) = some (.ref l) ∧ H2 l = some (.lst [.int (r.2 : Nat)])
  refine ⟨.ref pa, rfl, pa, od, rfl, .inr ⟨pkv rs, upd_same, for_it walk_keysT LS ⟨upd_same, fun b o hb n => by rw [upd_ne n, upd_ne (ne_of_none hb hd)]; exact hb, _, [], rfl, by rw [upd_ne npd.symm]; exact upd_same, Nat.le_refl _, fun r hr => by simp at hr⟩ (fun i σ H2 _ z => z.1) ?_ ?_⟩⟩
  · rintro i x σ _ H2 hi ⟨hp2, hf, s2, kvs, rfl, hd2, hkl, hrows⟩ ⟨rfl, k, v, q, hkv, rfl, hq⟩
    have hi : i < rs.length := by
      unfold pkv at hi
      rw [List.length_map] at hi
      exact hi
    have hri : rs[i]? = some rs[i] := List.getElem?_eq_getElem hi
    generalize rs[i] = r at hri
    have hkv' : (pK r.1, V.int (r.2 : Nat)) = (k, v) := by
      unfold pkv at hkv
      rw [List.getElem?_map, hri] at hkv
      exact Option.some.inj hkv
    cases hkv'
    have hmem := List.mem_of_getElem? hri
    refine ⟨.ref pa, rfl, .ref q, rfl, pa, .int (r.2 : Nat), rfl, .inr ⟨pkv rs, pK r.1, q, .inr ⟨od, hp2⟩, rfl, hq, (pkv_val nd hmem).symm⟩, (show 1 ≤ sizeLine by decide), fun l hl => ?_⟩
    have nld : l ≠ d := fun z => by rw [z, hd2] at hl; cases hl
    have nlp : l ≠ pa := fun z => by rw [z, hp2] at hl; cases hl
    have ql : q ≠ l := fun z => by rw [z, hl] at hq; cases hq
    have hd3 : upd H2 l (.lst [.int (r.2 : Nat)]) d = some (.dT kvs) := by rw [upd_ne nld.symm]; exact hd2
    refine ⟨.ref d, rfl, .ref q, rfl, d, _, rfl, DPut.t (k := pK r.1) hd3 (by rw [upd_ne ql]; exact hq) (lt_sl (by omega)), ?_⟩
    refine ⟨by rw [upd_ne npd, upd_ne nlp.symm]; exact hp2, fun b o hb n => ?_, _, _, rfl, upd_same, ?_, fun r' hr' => ?_⟩
    · have h2 := hf b o hb n
      rw [upd_ne (ne_of_none hb hd), upd_ne (ne_of_none h2 hl)]
      exact h2
    · have := length_putK kvs (pK r.1) (.ref l)
      omega
    · rw [valV_put]
      by_cases e : pK r'.1 = pK r.1
      · rw [if_pos e]
        have : r' = r := by
          have hm' : r' ∈ rs := List.mem_of_mem_take hr'
          have e1 := pkv_val nd hm'
          have e2 := pkv_val nd hmem
          rw [e] at e1
          rw [e1] at e2
          have e3 : (r'.2 : Int) = (r.2 : Int) := V.int.inj (Option.some.inj e2)
          exact Prod.ext (pK_inj e) (by omega)
        subst this
        exact ⟨l, rfl, by rw [upd_ne nld]; exact upd_same⟩
      · rw [if_neg e]
        rw [take_snoc hri] at hr'
        rcases List.mem_append.mp hr' with hr' | hr'
        · obtain ⟨l', h1, h2⟩ := hrows r' hr'
          refine ⟨l', h1, ?_⟩
          have n1 : l' ≠ d := fun z => by rw [z, hd2] at h2; cases h2
          rw [upd_ne n1, upd_ne (ne_of_none h2 hl)]
          exact h2
        · obtain rfl := List.mem_singleton.mp hr'
          exact absurd rfl e
  · rintro σ H2 ⟨hp2, hf, s2, kvs, rfl, hd2, hkl, hrows⟩
    refine ⟨hp2, .ref d, rfl, ?_⟩
    have hlen : (pkv rs).length = rs.length := by unfold pkv; rw [List.length_map]
    rw [hlen, List.take_length] at hrows
    refine hQ d kvs _ hd (fun b o hb => ?_) (by rw [upd_ne npd.symm]; exact hd2) fun r hr => ?_
    · by_cases n : b = pa
      · rw [n, upd_same, ← hpa, ← n, hb]
      · rw [upd_ne n]
        exact hf b o hb n
    · obtain ⟨l, h1, h2⟩ := hrows r hr
      exact ⟨l, h1, by rw [upd_ne fun z => by rw [z, hp2] at h2; cases h2]; exact h2⟩
theorem RowL.st {F : Fm} {x : V} {p : List Int × Nat} (h : RowL H x p) (g : F.G H) (e : F.L H H') : RowL H' x p := h.up fun a xs z => e.1 _ _ z fun s => (F.notup _ _ g s xs).1 z
abbrev ChosenOk (rs L : List (List Int × Nat)) : Prop := Paired (fun (r l : List Int × Nat) => r.1 = l.1 ∧ r.2 < l.2) rs L
theorem chosen_fst {rs L : List (List Int × Nat)} (h : ChosenOk rs L) : rs.map (·.1) = L.map (·.1) := by
  induction h with
  | nil => rfl
  | cons r _ ih => rw [List.map_cons, List.map_cons, ih, r.1]
theorem paired_rev {α β : Type} {R : α → β → Prop} : ∀ {a : List α} {b : List β}, Paired R a b → Paired R a.reverse b.reverse
  | _, _, .nil => .nil
  | _, _, .cons r t => by rw [List.reverse_cons, List.reverse_cons]; exact paired_append (paired_rev t) (.cons r .nil)
theorem rowsL_lst {l : Addr} {xs : List V} {o : HO} {ys : List V} {rs : List (List Int × Nat)} (hl : H l = some (.lst xs)) (h : Paired (RowL H) ys rs) : Paired (RowL (upd H l o)) ys rs := Paired.mapP h fun _ _ r => r.lst hl
theorem valV_no {κ : Type} [DecidableEq κ] {kvs : List (κ × V)} {k : κ} (h : k ∉ kvs.map (·.1)) : valV kvs k = none := by
  induction kvs with
  | nil => rfl
  | cons a kvs ih =>
    rw [List.map_cons, List.mem_cons, not_or] at h
    rw [valV_neg (fun e => h.1 e.symm)]
    exact ih h.2
def spPicks (Pt : Addr) : Sp := fun vs H Q _ => ∃ (A L l : Addr) (xs : List V) (rows : List (List Int × Nat)), vs = [.ref A, .ref l] ∧ (Fp A L Pt).G H ∧ ¬ (Fp A L Pt).sp l ∧ H l = some (.lst xs) ∧ Paired (RowL H) xs rows ∧ ((rows.map (·.1)).Nodup ∧ rows.length ≤ 6000 ∧ ∀ r ∈ rows, 1 ≤ r.2 ∧ r.2 ≤ 4) ∧
  ∀ d rs H', (Fp A L Pt).L H H' → H d = none → H' d = some (.dT (pkv rs)) → (∃ rs0, rs.Perm rs0 ∧ ChosenOk rs0 rows) → Q (.ref d) H'
theorem sc_law_picks : FnScope ["_law_pot_here", "_law_lines_here", "_law_picks_here", "_law_chosen", "_law_line", "_law_k", "_law_path"] ["_law_pot_here", "_law_lines_here"] (fnScope s_law_picks) := ⟨rfl, rfl, rfl, by decide +kernel, rfl, by decide +kernel, by decide +kernel⟩
theorem c_law_picks (T : Tx w K mg) : Cal P w K mg base 4 "_law_picks" (spPicks Pt) [] := by
  have c_law_draw := c_law_draw (P := P) (base := base) (Pt := Pt) T
  refine T.d_law_picks.cal sc_law_picks (fun F => ⟨[], .nil, F.bindsN fun _ _ _ _ _ _ us hl => match us, hl with | [_, _], _ => rfl⟩) (by rintro vs H Q E ⟨A, L, l, xs, rows, rfl, _⟩; rfl) fun f cdv Ar outer s H vs Q E hr h => ?_
  obtain ⟨A, L, l, xs, rows, rfl, g, spl, hl, hrows, ⟨nd, h6, hc⟩, hQ⟩ := h
  refine ⟨_, (pss_cons (ps_set (i := 2) sc_law_picks.nd rfl (by first | exact Or.inl rfl | exact Or.inr rfl) pe_dnewT)
    (pss_cons (ps_set (i := 3) sc_law_picks.nd rfl (Or.inr rfl) (pe_lc (own := [("_law_line", 4)]) (g := (gName 4)) (tt := tYes) rfl sc_law_picks.nd (pi_list (pv 1)) (blkOk_by (own := [("_law_line", 4)]) (N := ["_law_pot_here", "_law_lines_here", "_law_picks_here", "_law_chosen", "_law_line", "_law_k", "_law_path"]) (sc := fnScope s_law_picks) (by decide +kernel)) (fun _ _ _ _ _ => (pg_name (i := 4) sc_law_picks.nd rfl (Or.inl rfl))) (fun _ _ _ _ _ => pts_nil) (fun _ _ _ _ _ => (pe_tup (pa_cons (pe_ix (r := rIxT K) ix_tup (pv 4) pe_int (fun _ _ => rfl)) (pa_cons (pe_c c_law_draw hr (by omega) rfl (pa_cons (pv 0) (pa_cons (pe_ix (r := rIxT K) ix_tup (pv 4) pe_int (fun _ _ => rfl)) pa_nil))) pa_nil))))))
    (pss_cons (ps_if (pt_cmpR op_eq (pe_c c_law_draw hr (by omega) rfl (pa_cons (pv 0) (pa_cons pe_int pa_nil))) pe_int (nomark _))
      (pss_one (ps_set (i := 3) sc_law_picks.nd rfl (Or.inr rfl) (pe_lc (own := [("_law_k", 5)]) (g := (gName 5)) (tt := tYes) rfl sc_law_picks.nd (pi_range1 rfl T.z_range (pa_cons (pe_callB (r := rLenQ K) call_len_seq rfl T.z_len PySem.boot_len (pa_cons (pv 3) pa_nil)) pa_nil)) (blkOk_by (own := [("_law_k", 5)]) (N := ["_law_pot_here", "_law_lines_here", "_law_picks_here", "_law_chosen", "_law_line", "_law_k", "_law_path"]) (sc := fnScope s_law_picks) (by decide +kernel)) (fun _ _ _ _ _ => (pg_name (i := 5) sc_law_picks.nd rfl (Or.inl rfl))) (fun _ _ _ _ _ => pts_nil) (fun _ _ _ _ _ => (pe_ix (r := rIxL K) ix_list (pv 3) (pe_op op_sub (pe_op op_sub (pe_callB (r := rLenQ K) call_len_seq rfl T.z_len PySem.boot_len (pa_cons (pv 3) pa_nil)) pe_int) (pv 5)) (fun _ _ => rfl))))))
      pss_nil)
    (pss_cons (ps_for PassesOwn.never rfl (pi_list (pv 3)) (pg_tup rfl (pgs_cons (pg_name (i := 6) sc_law_picks.nd rfl (Or.inl rfl)) (pgs_cons (pg_name (i := 5) sc_law_picks.nd rfl (Or.inl rfl)) pgs_nil)))
      (pss_one (ps_dput (hu1 hr) (pv 2) (pv 6) (pv 5) rfl)))
    (pss_one (ps_ret (pv 2))))))), ?_⟩
  let F := Fp A L Pt
  refine asg_go fun d hd => ?_
  have spd : ¬ F.sp d := Fm.nosp g hd
  have e1 : F.L H (upd H d (.dT [])) := .new g hd
  have hd1 : upd H d (.dT []) d = some (.dT []) := upd_same
  generalize upd H d (.dT []) = H1 at e1 hd1
  have hl1 := e1.1 _ _ hl spl
  have hrows1 : Paired (RowL H1) xs rows := Paired.mapP hrows fun _ _ r => r.st g e1
  have hxl : xs.length = rows.length := Paired.length hrows
  -- the picks, drawn
  refine asg_go ⟨.ref l, rfl, l, rfl, ⟨xs, .of hl1⟩, fun D hD => lc_it (walk_list (xs := xs)) (fun i H2 => F.L H1 H2 ∧ ∃ ys rs, H2 D = some (.lst ys) ∧ Paired (RowL H2) ys rs ∧ ChosenOk rs (rows.take i)) ⟨.new e1.good hD, [], [], upd_same, .nil, by rw [List.take_zero]; exact .nil⟩ (fun i H2 _ z => SqL.of (z.1.1 _ _ hl1 spl)) ?_ ?_⟩
  · rintro i x _ H2 hi ⟨e2, ys, rs, hD2, hys, hch⟩ ⟨rfl, hxi⟩
    obtain ⟨r, hri, c, pb, rfl, hcc, hpb⟩ := paired_get (Paired.mapP hrows1 fun _ _ r => r.st e1.good e2) hxi
    have hcr := hc r (List.mem_of_getElem? hri)
    refine ⟨rfl, ?_⟩
    unfold tYes
    dsimp only
    rw [if_pos rfl]
    refine ⟨.ref c, rfl, c, _, 0, .ref pb, rfl, rfl, .of hcc, atI_nat (xs := [V.ref pb, V.int (r.2 : Nat)]) (j := 0) rfl, .ref A, rfl, .ref c, rfl, c, _, 1, .int (r.2 : Nat), rfl, rfl, .of hcc, atI_1, A, L, (r.2 : Nat), rfl, e2.good, by omega, fun rr H3 e3 hrr => ⟨(show 2 ≤ sizeLine by decide), fun p hp => ?_⟩⟩
    have e23 := e2.trans e3
    have en : F.L H3 (upd H3 p (.tup [.ref pb, .int rr])) := .new e3.good hp
    have spD : ¬ F.sp D := Fm.nosp e1.good hD
    have hD4 := en.1 _ _ (e3.1 _ _ hD2 spD) spD
    have npD : p ≠ D := fun z => by rw [z, e3.1 _ _ hD2 spD] at hp; cases hp
    have hyl : ys.length ≤ 6000 := by
      have h1 := Paired.length hys
      have h2 := Paired.length hch
      rw [List.length_take] at h2
      omega
    refine ⟨ys, hD4, lt_sl (by omega), .late e1.good (e23.trans en) hD hD4 (.inl ⟨_, rfl⟩), ys ++ [.ref p], rs ++ [(r.1, rr.toNat)], upd_same, ?_, ?_⟩
    · have hpb4 := (e3.trans en).1 _ _ hpb fun z => (F.notup _ _ e2.good z _).1 hpb
      have tu := tup_upd (o := .lst (ys ++ [.ref p])) hD4
      refine paired_append (Paired.mapP hys fun _ _ r => ((r.st e2.good (e3.trans en))).lst hD4) (.cons ⟨p, pb, rfl, ?_, tu _ _ hpb4⟩ .nil)
      rw [upd_ne npD, upd_same]
      show some (HO.tup [.ref pb, .int rr]) = some (.tup [.ref pb, .int ((rr.toNat : Nat) : Int)])
      rw [Int.toNat_of_nonneg hrr.1]
    · rw [take_snoc hri]
      exact paired_append hch (.cons ⟨rfl, by show rr.toNat < r.2; omega⟩ .nil)
  · rintro H2 ⟨e2, ys, rs, hD2, hys, hch⟩
    rw [hxl, List.take_length] at hch
    have spD : ¬ F.sp D := Fm.nosp e1.good hD
    have nDd : D ≠ d := fun z => by rw [z, hd1] at hD; cases hD
    have hd2 : H2 d = some (.dT []) := e2.1 _ _ hd1 spd
    have e02 := e1.trans e2
    have g2 := e2.good
    -- the end
    have fin : ∀ (q : Addr) (zs : List V) (rs' : List (List Int × Nat)) (s4 s5 s6 : Option V) (H3 : Hp), F.L H H3 → ¬ F.sp q → q ≠ d → H3 q = some (.lst zs) → Paired (RowL H3) zs rs' → rs'.Perm rs → H3 d = some (.dT []) →
        tSeq (tFor (iList K (tVar 3)) (gTup K 2 (gCons (gName 6) (gCons (gName 5) gNil))) (sDPut (tVar 2) (tVar 6) (tVar 5))) (tRet (tVar 2)) { nx := fun _ H' => Q .non H', rt := Q } [some (.ref A), some (.ref l), some (.ref d), some (.ref q), s4, s5, s6] H3 := by
      intro q zs rs' s4 s5 s6 H3 e3 spq nqd hq hzs hperm hd3
      have hnd : (rs'.map (·.1)).Nodup := (hperm.map _).nodup_iff.mpr (by rw [chosen_fst hch]; exact nd)
      have hrl : rs'.length ≤ 6000 := by
        rw [hperm.length_eq, Paired.length hch]
        exact h6
      have hzl := Paired.length hzs
      let LS : Nat → L2.St → Hp → Prop := fun i σ H4 => F.L H H4 ∧ ∃ s5 s6, σ = [some (.ref A), some (.ref l), some (.ref d), some (.ref q), s4, s5, s6] ∧ H4 q = some (.lst zs) ∧ Paired (RowL H4) zs rs' ∧ H4 d = some (.dT (pkv (rs'.take i)))
      refine ⟨.ref q, rfl, q, rfl, ⟨zs, .of hq⟩, for_it (walk_list (xs := zs)) LS ⟨e3, _, _, rfl, hq, hzs, by rw [List.take_zero]; exact hd3⟩ (fun i σ H4 _ z => by obtain ⟨_, _, _, _, h, _⟩ := z; exact .of h) ?_ ?_⟩
      · rintro i x σ _ H4 hi ⟨e4, t5, t6, rfl, hq4, hzs4, hd4⟩ ⟨rfl, hxi⟩
        obtain ⟨r, hri, c, pb, rfl, hcc, hpb⟩ := paired_get hzs4 hxi
        refine pair_into hcc ?_
        have hk : pK r.1 ∉ (pkv (rs'.take i)).map (·.1) := by
          rw [pkv_keys]
          intro hm
          obtain ⟨p, hp, hpe⟩ := List.mem_map.mp hm
          have hpe := pK_inj hpe
          subst hpe
          rw [List.map_take] at hp
          exact nodup_take hnd (show (rs'.map (·.1))[i]? = some r.1 by rw [List.getElem?_map, hri]; rfl) hp
        have habs : valV (pkv (rs'.take i)) (pK r.1) = none := valV_no hk
        have hlen : (pkv (rs'.take i)).length ≤ 6000 := by
          unfold pkv
          rw [List.length_map, List.length_take]
          omega
        refine ⟨.int (r.2 : Nat), rfl, .ref d, rfl, .ref pb, rfl, d, _, rfl, DPut.t (k := pK r.1) hd4 (by rw [pK_kV]; exact hpb) (lt_sl (by omega)), ?_⟩
        rw [putK_new _ habs]
        have tu : ∀ a xs, H4 a = some (.tup xs) → upd H4 d (.dT (pkv (rs'.take i) ++ [(pK r.1, .int (r.2 : Nat))])) a = some (.tup xs) := fun a xs h => by
          rw [upd_ne fun z => by rw [z, hd4] at h; cases h]
          exact h
        refine ⟨.late g e4 hd hd4 (.inr (.inr (.inl ⟨_, rfl⟩))), _, _, rfl, by rw [upd_ne nqd]; exact hq4, Paired.mapP hzs4 fun _ _ r => r.up tu, ?_⟩
        rw [upd_same, take_snoc hri]
        unfold pkv
        rw [List.map_append]
        rfl
      · rintro σ H4 ⟨e4, t5, t6, rfl, hq4, hzs4, hd4⟩
        rw [hzl, List.take_length] at hd4
        exact ⟨.ref d, rfl, hQ d rs' H4 e4 hd hd4 ⟨rs, hperm, hch⟩⟩
    have hdr : Ev F (tCall (spDraw Pt) [] C8.E0 (tCons (tVar 0) (tCons (tC (.int 2)) tNil))) [some (.ref A), some (.ref l), some (.ref d), some (.ref D), none, none, none] H2 (.int fun r => 0 ≤ r ∧ r < 2) := ev_draw (evv_var g2 rfl) (evv_c g2) ⟨by decide, by decide⟩
    refine hdr H2 (.refl g2) _ fun v H3 e3 ⟨r, hr', p⟩ => ?_
    subst hr'
    have e03 := e02.trans e3
    have hD3 := e3.1 _ _ hD2 spD
    have hys3 : Paired (RowL H3) ys rs := Paired.mapP hys fun _ _ r => r.st g2 e3
    have hd3 := e3.1 _ _ hd2 spd
    refine ⟨rfl, _, rfl, ?_⟩
    dsimp only
    split
    · -- turned
      have hyl := Paired.length hys3
      have hrl : ys.length ≤ 6000 := by rw [hyl, Paired.length hch]; exact h6
      refine ⟨.ref D, rfl, D, ys, rfl, .inl (.of hD3), (ys.length : Nat), rfl, by omega, by omega, fun D2 hD2' => lc_it walk_range (fun i H4 => F.L H3 H4 ∧ H4 D2 = some (.lst (ys.reverse.take i))) ⟨.new e3.good hD2', by rw [List.take_zero]; exact upd_same⟩ (fun i H4 _ z => trivial) ?_ ?_⟩
      · rintro i x _ H4 hi ⟨e4, hD24⟩ ⟨rfl, hx0⟩
        obtain rfl : x = V.int (i : Nat) := by rw [hx0]; simp
        have hi : i < ys.length := by
          have hi : i < ((ys.length : Nat) : Int).toNat := hi
          omega
        have hD4 := e4.1 _ _ hD3 spD
        have hrev : ys.reverse[i]? = some ys[ys.length - 1 - i] := by
          rw [List.getElem?_reverse hi]
          exact List.getElem?_eq_getElem _
        refine ⟨rfl, ?_⟩
        unfold tYes
        dsimp only
        rw [if_pos rfl]
        refine ⟨.ref D, rfl, .ref D, rfl, D, ys, rfl, .inl (.of hD4), (ys.length : Nat), 1, rfl, rfl, _, rfl, (ys.length : Nat) - 1, (i : Nat), rfl, rfl, D, ys, ((ys.length : Nat) : Int) - 1 - (i : Nat), ys[ys.length - 1 - i], rfl, rfl, .of hD4, ?_, ys.reverse.take i, hD24, lt_sl (by rw [List.length_take, List.length_reverse]; omega), ?_, ?_⟩
        · rw [show ((ys.length : Nat) : Int) - 1 - (i : Nat) = ((ys.length - 1 - i : Nat) : Int) by omega]
          exact atI_nat (List.getElem?_eq_getElem _)
        · exact .late e3.good e4 hD2' hD24 (.inl ⟨_, rfl⟩)
        · rw [upd_same, take_snoc hrev]
      · rintro H4 ⟨e4, hD24⟩
        rw [show ((ys.length : Nat) : Int).toNat = ys.reverse.length by simp, List.take_length] at hD24
        have nd2 : D2 ≠ d := fun z => by rw [z, hd3] at hD2'; cases hD2'
        exact fin D2 ys.reverse rs.reverse _ _ _ H4 (e03.trans e4) (Fm.nosp e3.good hD2') nd2 hD24 (paired_rev (Paired.mapP hys3 fun _ _ r => r.st e3.good e4)) (List.reverse_perm rs) (e4.1 _ _ hd3 spd)
    · exact fin D ys rs _ _ _ H3 e03 spD nDd hD3 hys3 (List.Perm.refl _) hd3
end
end Oh
set_option maxHeartbeats 4000000
namespace Oh
open PySem PySem.Spec PyProof.Rows L2
open C8 (Cal Met Mak pe_c pe_mk pe_mt pe_mt0 pe_gc InsC call_isC tCut pss_cut fnBody fnArgs fnScope)
open LamX NdefX
structure GamP (K : PySem.W.Frag) (H : Hp) (g : Addr) (ns : List Str) (bs : List (List T)) (over : List Str) : Prop where
  ex : ∃ (n b : Addr) (ov : V) (rest xs : List V), H g = some (.lst (.ref n :: .ref b :: ov :: rest)) ∧ H n = some (.lst (ns.map V.str)) ∧ H b = some (.lst xs) ∧ TdA K H xs (bs.map blkD) ∧ Td K H ov (.tuple (over.map .str))
structure GamOk (ns : List Str) (bs : List (List T)) (over : List Str) : Prop where
  len : ns.length = bs.length
  ge : 2 ≤ bs.length
  le : bs.length ≤ 4
  nd : ns.Nodup
  nm : ∀ x ∈ ns, NameOk x
  bk : ∀ b ∈ bs, BOk b
  ov : (∀ z ∈ over, NameOk z) ∧ AscFrom [] over
theorem GamP.same {K : PySem.W.Frag} {H H' : Hp} {g : Addr} {ns : List Str} {bs : List (List T)} {over : List Str} (h : GamP K H g ns bs over) (e : Same H H') : GamP K H' g ns bs over := by
  obtain ⟨n, b, ov, rest, xs, h1, h2, h3, h4, h5⟩ := h.ex
  exact ⟨n, b, ov, rest, xs, e _ _ h1, e _ _ h2, e _ _ h3, h4.same e, h5.same e⟩
theorem GameOk.gam {ns : List Str} {bs : List (List T)} {over : List Str} (h : GameOk ns bs over) : GamOk ns bs over := ⟨h.len, h.ge, Nat.le_trans h.le (by decide), h.nd, h.nm, h.bk, h.ov⟩
theorem GameAt.gam {F : Fm} {K : PySem.W.Frag} {H : Hp} {g : Addr} {ns : List Str} {bs : List (List T)} {over : List Str} (h : GameAt F K H g ns bs over) : GamP K H g ns bs over := by
  obtain ⟨n, b, r, ov, xs, h1, h2, ⟨h3, h4⟩, h5, _⟩ := h.ex
  exact ⟨n, b, ov, _, xs, h1, h2, h3, h4, h5⟩
def memOf (ns : List Str) (bs : List (List T)) : Mem := ns.zip bs
theorem mem_fst {ns : List Str} {bs : List (List T)} (h : ns.length = bs.length) : (memOf ns bs).map (·.1) = ns := List.map_fst_zip (by omega)
theorem mem_ok {ns : List Str} {bs : List (List T)} {over : List Str} (h : GamOk ns bs over) : MemOk (memOf ns bs) := by
  have hl : (memOf ns bs).length = bs.length := by unfold memOf; rw [List.length_zip, h.len, Nat.min_self]
  refine ⟨by rw [hl]; exact h.ge, by rw [hl]; exact h.le, by rw [mem_fst h.len]; exact h.nd, fun p hp => h.nm _ ?_, fun p hp => h.bk _ ?_⟩
  · exact (List.of_mem_zip hp).1
  · exact (List.of_mem_zip hp).2
section
variable {P : Program} {w : World} {K : PySem.W.Frag} {mg : Str → Option Value} {base : Heap} {te tb ta tc : TE} {σ : L2.St} {H H' : Hp} {E : XK} {ds es : List PyData} {Pt CR CPl : Addr}
def spLPlay (K : PySem.W.Frag) (CR CPl : Addr) : Sp := fun vs H Q _ => ∃ g ns bs over turned, vs = [.ref g, .bl turned] ∧ GamP K H g ns bs over ∧ GamOk ns bs over ∧ ∀ a m H', Same H H' → H a = none → PlayAt K CR CPl H' a (ns.getD 0 "") over m → m.Perm (memOf ns bs) → Q (.ref a) H'
theorem rows_snoc {kvs : List (L2.Key × V)} {m : Mem} {p : Str × List Oh.T} {v : V} (h : RowsR K CR H kvs m) (hn : p.1 ∉ m.map (·.1)) (hv : NewR K CR H v p.2) : RowsR K CR H (putK kvs (Sum.inr p.1) v) (m ++ [p]) := by
  have hk : (Sum.inr p.1 : L2.Key) ∉ kvs.map (·.1) := by
    rw [h.keys]
    intro hm
    obtain ⟨q, hq, e⟩ := List.mem_map.mp hm
    exact hn (List.mem_map.mpr ⟨q, hq, Sum.inr.inj e⟩)
  rw [putK_new _ (valV_no hk)]
  exact paired_append h (.cons ⟨rfl, hv⟩ .nil)
theorem sc_law_play : FnScope ["_law_game_here", "_law_turned", "_law_routines", "_law_k", "_law_at"] ["_law_game_here", "_law_turned"] (fnScope s_law_play) := ⟨rfl, rfl, rfl, by decide +kernel, rfl, by decide +kernel, by decide +kernel⟩
theorem c_law_play (T : Tx w K mg) (R : Rx w K mg CR) (PX : Px w K mg CPl) : Cal P w K mg base 54 "_law_play" (spLPlay K CR CPl) [] := by
  have C_Routine := m_Routine (P := P) (base := base) T R
  have C_Play := m_Play (P := P) (base := base) T R PX
  obtain ⟨e0, he0, C_Play0⟩ := m_Play0 (P := P) (base := base) T R PX
  refine T.d_law_play.cal sc_law_play (fun F => ⟨[], .nil, F.bindsN fun _ _ _ _ _ _ us hl => match us, hl with | [_, _], _ => rfl⟩) (by rintro vs H Q E ⟨g, ns, bs, over, t, rfl, _⟩; rfl) fun f cdv A outer s H vs Q E hr h => ?_
  obtain ⟨g, ns, bs, over, t, rfl, gp, ok, hQ⟩ := h
  refine ⟨_, (pss_cons (ps_set (i := 2) sc_law_play.nd rfl (by first | exact Or.inl rfl | exact Or.inr rfl) pe_dnewK)
    (pss_cons (ps_for PassesOwn.never rfl (pi_range1 rfl T.z_range (pa_cons (pe_callB (r := rLenQ K) call_len_seq rfl T.z_len PySem.boot_len (pa_cons (pe_ix (r := rIxL K) ix_list (pv 0) pe_int (fun _ _ => rfl)) pa_nil)) pa_nil)) (pg_name (i := 3) sc_law_play.nd rfl (Or.inl rfl))
      (pss_cons (ps_set (i := 4) sc_law_play.nd rfl (by first | exact Or.inl rfl | exact Or.inr rfl) (pv 3))
      (pss_cons (ps_if (pt_truth (pv 1) (fun _ => rfl))
        (pss_one (ps_set (i := 4) sc_law_play.nd rfl (by first | exact Or.inl rfl | exact Or.inr rfl) (pe_op op_sub (pe_op op_sub (pe_callB (r := rLenQ K) call_len_seq rfl T.z_len PySem.boot_len (pa_cons (pe_ix (r := rIxL K) ix_list (pv 0) pe_int (fun _ _ => rfl)) pa_nil)) pe_int) (pv 3))))
        pss_nil)
      (pss_one (ps_dput (hu1 hr) (pv 2) (pe_ix (r := rIxL K) ix_list (pe_ix (r := rIxL K) ix_list (pv 0) pe_int (fun _ _ => rfl)) (pv 4) (fun _ _ => rfl)) (pe_mk C_Routine hr (by omega) rfl (pa_cons (pe_ix (r := rIxL K) ix_list (pe_ix (r := rIxL K) ix_list (pv 0) pe_int (fun _ _ => rfl)) (pv 4) (fun _ _ => rfl)) pa_nil)) rfl)))))
    (pss_cons (ps_if (PW.pt (pw_and (pt_cmpR op_eq (pe_callB (r := rLenQ K) call_len_seq rfl T.z_len PySem.boot_len (pa_cons (pe_ix (r := rIxL K) ix_list (pv 0) pe_int (fun _ _ => rfl)) pa_nil)) pe_int (nomark _)) (pw_and1 (pt_truth (pv 1) (fun _ => rfl)))))
      (pss_one (ps_ret (pe_mk C_Play0 hr (by omega) rfl (pa_cons (pv 2) (pa_cons (pe_ix (r := rIxL K) ix_list (pe_ix (r := rIxL K) ix_list (pv 0) pe_int (fun _ _ => rfl)) pe_int (fun _ _ => rfl)) pa_nil)))))
      pss_nil)
    (pss_one (ps_ret (pe_mk C_Play hr (by omega) rfl (pa_cons (pv 2) (pa_cons (pe_ix (r := rIxL K) ix_list (pe_ix (r := rIxL K) ix_list (pv 0) pe_int (fun _ _ => rfl)) pe_int (fun _ _ => rfl)) (pa_cons (pe_ix (r := rIxL K) ix_list (pv 0) pe_int (fun _ _ => rfl)) pa_nil))))))))), ?_⟩
  obtain ⟨n, b, ov, rest, xs, hg, hn, hb, hx, hov⟩ := gp.ex
  have hxl : xs.length = bs.length := by rw [hx.len, List.length_map]
  have hl := ok.len
  have h4 := ok.le
  have h2 := ok.ge
  let mm : Mem := if t then (memOf ns bs).reverse else memOf ns bs
  have hmp : mm.Perm (memOf ns bs) := by
    show (if t then (memOf ns bs).reverse else memOf ns bs).Perm (memOf ns bs)
    split
    · exact List.reverse_perm _
    · exact List.Perm.refl _
  have mok : MemOk mm := (mem_ok ok).perm hmp
  have hml : mm.length = bs.length := by
    rw [hmp.length_eq]
    unfold memOf
    rw [List.length_zip, hl, Nat.min_self]
  have hget : ∀ {j : Nat}, j < bs.length → ∃ x c, ns[j]? = some x ∧ bs[j]? = some c ∧ (memOf ns bs)[j]? = some (x, c) := fun {j} hj => by
    have h1 : ns[j]? = some ns[j] := List.getElem?_eq_getElem (by omega)
    have h2 : bs[j]? = some bs[j] := List.getElem?_eq_getElem hj
    refine ⟨ns[j], bs[j], h1, h2, ?_⟩
    unfold memOf
    rw [List.getElem?_zip_eq_some]
    exact ⟨h1, h2⟩
  obtain ⟨x0, c0, hx0, hc0, _⟩ := hget (j := 0) (by omega)
  have hg0 : ns.getD 0 "" = x0 := by rw [List.getD_eq_getElem?_getD, hx0]; rfl
  refine asg_go fun d hd => ?_
  let LS : Nat → L2.St → Hp → Prop := fun i σ H2 => Same H H2 ∧ ∃ s3 s4, σ = [some (.ref g), some (.bl t), some (.ref d), s3, s4] ∧ DictAt K CR H2 d (mm.take i)
  refine ⟨.ref g, rfl, g, _, 0, .ref n, rfl, rfl, .of (same_new hd _ _ hg), atI_nat (xs := .ref n :: .ref b :: ov :: rest) (j := 0) rfl, n, ns.map V.str, rfl, .inl (.of (same_new hd _ _ hn)), ((ns.map V.str).length : Nat), rfl, by omega, by rw [List.length_map]; omega, for_it walk_range LS ⟨same_new hd, _, _, rfl, [], upd_same, by rw [List.take_zero]; exact .nil⟩ (fun i σ H2 _ _ => trivial) ?_ ?_⟩
  · rintro i x σ _ H2 hi ⟨e2, s3, s4, rfl, kvs, hd2, rows⟩ ⟨rfl, hxi⟩
    obtain rfl : x = V.int (i : Nat) := by rw [hxi]; simp
    have hi : i < bs.length := by
      have hi : i < (((ns.map V.str).length : Nat) : Int).toNat := hi
      rw [List.length_map] at hi
      omega
    have hg2 := e2 _ _ hg
    have hn2 := e2 _ _ hn
    have hb2 := e2 _ _ hb
    have hx2 := hx.same e2
    have put : ∀ (j : Nat) (z : Int) (s3 : Option V) (p : Str × List Oh.T) (D : Ends), z = (j : Nat) → ns[j]? = some p.1 → bs[j]? = some p.2 → mm[i]? = some p → (∀ σ' H', LS (i + 1) σ' H' → D.nx σ' H') →
        sDPut (tVar 2) (tOp (rIxL K) (tOp (rIxL K) (tVar 0) (tC (.int 0))) (tVar 4)) (tMake CR (spRI K CR) [] C8.E0 (tCons (tOp (rIxL K) (tOp (rIxL K) (tVar 0) (tC (.int 1))) (tVar 4)) tNil)) D [some (.ref g), some (.bl t), some (.ref d), s3, some (.int z)] H2 := by
      rintro j _ s3 ⟨nm, c⟩ D rfl hnj hbj hmi hD
      obtain ⟨v, hv, tv⟩ := hx2.get (i := j) (d := blkD c) (by rw [List.getElem?_map, hbj]; rfl)
      refine ⟨.ref g, rfl, g, _, 1, .ref b, rfl, rfl, .of hg2, atI_1, .int (j : Nat), rfl, b, xs, (j : Nat), v, rfl, rfl, .of hb2, atI_nat hv, fun x dx hx0 hdx hne => ?_⟩
      have e4 : Same H2 (upd (upd H2 dx (.own x)) x (.ins CR dx [])) := Same.late (same_new hdx) hx0
      refine ⟨x, dx, v, c, rfl, upd_same, ok.bk c (List.mem_of_getElem? hbj), tv.same e4, fun H3 tb but htb rout => ⟨rfl, ?_⟩⟩
      have e3 : Same H2 H3 := fun a o z => but a o (e4 a o z) (ne_of_none z hx0)
      have hd3 := e3 _ _ hd2
      have e5 := e2.trans e3
      have rows3 := rows.same e3
      have hkl : kvs.length ≤ 4 := by
        rw [rows.len, List.length_take]
        omega
      refine ⟨.ref d, rfl, .ref g, rfl, g, _, 0, .ref n, rfl, rfl, .of (e3 _ _ hg2), atI_nat (xs := .ref n :: .ref b :: ov :: rest) (j := 0) rfl, .int (j : Nat), rfl, n, ns.map V.str, (j : Nat), .str nm, rfl, rfl, .of (e3 _ _ hn2), atI_nat (by rw [List.getElem?_map, hnj]; rfl), d, _, rfl, DPut.k (k := Sum.inr nm) hd3 (lt_sl (by omega)), ?_⟩
      refine hD _ _ ⟨Same.late e5 hd, _, _, rfl, _, upd_same, ?_⟩
      rw [take_snoc hmi]
      refine rows_late hd3 (rows_snoc (p := (nm, c)) rows3 ?_ ⟨x, tb, rfl, rout⟩)
      rw [List.map_take]
      exact nodup_take mok.nd (show (mm.map (·.1))[i]? = some nm by rw [List.getElem?_map, hmi]; rfl)
    refine asg_go ⟨_, rfl, ?_⟩
    refine ⟨.bl t, rfl, t, rfl, ?_⟩
    cases ht : t with
    | false =>
      simp only [Bool.false_eq_true, ↓reduceIte]
      obtain ⟨nm, c, h1, h2, h3⟩ := hget hi
      subst ht
      exact put i _ _ (nm, c) _ rfl h1 h2 h3 fun σ' H' h => h
    | true =>
      simp only [↓reduceIte]
      obtain ⟨nm, c, h1, h2, h3⟩ := hget (j := bs.length - 1 - i) (by omega)
      subst ht
      have hmi : mm[i]? = some (nm, c) := by
        show (memOf ns bs).reverse[i]? = _
        have hml' : (memOf ns bs).length = bs.length := by rw [← hmp.length_eq]; exact hml
        rw [List.getElem?_reverse (by omega), hml']
        exact h3
      refine ⟨.ref g, rfl, g, _, 0, .ref n, rfl, rfl, .of hg2, atI_nat (xs := .ref n :: .ref b :: ov :: rest) (j := 0) rfl, n, ns.map V.str, rfl, .inl (.of hn2), ((ns.map V.str).length : Nat), 1, rfl, rfl, _, rfl, (((ns.map V.str).length : Nat) : Int) - 1, (i : Nat), rfl, rfl, ?_⟩
      exact put (bs.length - 1 - i) _ (some (.int (i : Nat))) (nm, c) _ (show (((ns.map V.str).length : Nat) : Int) - 1 - (i : Nat) = ((bs.length - 1 - i : Nat) : Int) by rw [List.length_map]; omega) h1 h2 hmi fun σ' H' h => h
  · rintro σ H2 ⟨e2, s3, s4, rfl, da⟩
    have hlen : (((ns.map V.str).length : Nat) : Int).toNat = mm.length := by rw [List.length_map, hml, hl]; simp
    rw [hlen, List.take_length] at da
    have hg2 := e2 _ _ hg
    have hn2 := e2 _ _ hn
    have hov2 := hov.same e2
    obtain ⟨oa, os, hoe, hoq, hod⟩ := hov2.tupE
    subst hoe
    have hon : os.length = over.length := by rw [hod.len, List.length_map]
    have own_in : x0 ∈ mm.map (·.1) := by
      rw [(hmp.map _).mem_iff, mem_fst hl]
      exact List.mem_of_getElem? hx0
    have done : ∀ (x dx : Addr) (H3 : Hp) (m' : Mem), H2 x = none → H2 dx = none → But x (upd (upd H2 dx (.own x)) x (.ins CPl dx [])) H3 → m'.Perm mm → PlayAt K CR CPl H3 x x0 over m' → Q (.ref x) H3 := fun x dx H3 m' hx hdx but hp pl => by
      have e4 : Same H2 (upd (upd H2 dx (.own x)) x (.ins CPl dx [])) := Same.late (same_new hdx) hx
      have e3 : Same H2 H3 := fun a o z => but a o (e4 a o z) (ne_of_none z hx)
      exact hQ x m' H3 (e2.trans e3) (fresh_back e2 hx) (by rw [hg0]; exact pl) (hp.trans hmp)
    refine ⟨.ref g, rfl, g, _, 2, .ref oa, rfl, rfl, .of hg2, atI_2, oa, os, rfl, .inr hoq, rfl, _, rfl, ?_⟩
    rw [hon]
    have play : ∀ (D : Ends), (∀ v H', Q v H' → D.rt v H') → tRet (tMake CPl (spPI K CR CPl) [] C8.E0 (tCons (tVar 2) (tCons (tOp (rIxL K) (tOp (rIxL K) (tVar 0) (tC (.int 0))) (tC (.int 0))) (tCons (tOp (rIxL K) (tVar 0) (tC (.int 2))) tNil)))) D [some (.ref g), some (.bl t), some (.ref d), s3, s4] H2 := by
      intro D hD
      refine ⟨.ref d, rfl, .ref g, rfl, g, _, 0, .ref n, rfl, rfl, .of hg2, atI_nat (xs := .ref n :: .ref b :: .ref oa :: rest) (j := 0) rfl, n, _, 0, .str x0, rfl, rfl, .of hn2, atI_nat (j := 0) (by rw [List.getElem?_map, hx0]; rfl), .ref g, rfl, g, _, 2, .ref oa, rfl, rfl, .of hg2, atI_2, fun x dx hx hdx hne => ?_⟩
      have e4 : Same H2 (upd (upd H2 dx (.own x)) x (.ins CPl dx [])) := Same.late (same_new hdx) hx
      exact ⟨x, dx, d, x0, .ref oa, over, mm, rfl, upd_same, da.same e4, mok, own_in, hov2.same e4, ok.ov, fun H3 m' but hp pl => ⟨rfl, hD _ _ (done x dx H3 m' hx hdx but hp pl)⟩⟩
    by_cases ho : over = [] ∧ t = true
    · obtain ⟨ho, ht⟩ := ho
      subst ho
      rw [show decide (V.int ((([] : List Str).length : Nat) : Int) = V.int 0) = true from rfl]
      simp only [↓reduceIte]
      refine ⟨.bl t, rfl, true, ht.symm, ?_⟩
      simp only [↓reduceIte]
      refine ⟨.ref d, rfl, .ref g, rfl, g, _, 0, .ref n, rfl, rfl, .of hg2, atI_nat (xs := .ref n :: .ref b :: .ref oa :: rest) (j := 0) rfl, n, _, 0, .str x0, rfl, rfl, .of hn2, atI_nat (j := 0) (by rw [List.getElem?_map, hx0]; rfl), fun x dx hx hdx hne => ?_⟩
      have e4 : Same H2 (upd (upd H2 dx (.own x)) x (.ins CPl dx [])) := Same.late (same_new hdx) hx
      exact ⟨x, dx, d, x0, .ref e0, [], mm, rfl, upd_same, da.same e4, mok, own_in, he0.td, ok.ov, fun H3 m' but hp pl => ⟨rfl, done x dx H3 m' hx hdx but hp pl⟩⟩
    · by_cases h0 : over = []
      · subst h0
        have ht : t = false := by
          cases t with
          | false => rfl
          | true => exact absurd ⟨rfl, rfl⟩ ho
        rw [show decide (V.int ((([] : List Str).length : Nat) : Int) = V.int 0) = true from rfl]
        simp only [↓reduceIte]
        refine ⟨.bl t, rfl, false, ht.symm, ?_⟩
        simp only [Bool.false_eq_true, ↓reduceIte]
        exact play _ fun v H' h => h
      · have hd0 : decide (V.int ((over.length : Nat) : Int) = V.int 0) = false := by
          refine decide_eq_false fun z => h0 ?_
          have z := V.int.inj z
          exact List.eq_nil_of_length_eq_zero (by omega)
        rw [hd0]
        simp only [Bool.false_eq_true, ↓reduceIte]
        exact play _ fun v H' h => h
end
end Oh
set_option maxHeartbeats 4000000
namespace Oh
open PySem PySem.Spec PyProof.Rows L2
open C8 (Cal Met Mak pe_c pe_mk pe_mt pe_mt0 pe_gc InsC call_isC tCut pss_cut fnBody fnArgs fnScope)
open LamX NdefX
section
variable {P : Program} {w : World} {K : PySem.W.Frag} {mg : Str → Option Value} {base : Heap} {te tb ta tc : TE} {σ : L2.St} {H H' : Hp} {E : XK} {ds es : List PyData} {Pt CR CPl : Addr}
theorem evv_ixL {g : Addr} {xs : List V} {z : Int} {v : V} (ha : EvV F0 ta σ H (.ref g)) (hg : H g = some (.lst xs)) (hb : EvV F0 tb σ H (.int z)) (hv : atI xs z = some v) : EvV F0 (tOp (rIxL K) ta tb) σ H v :=
  ev_op ha hb fun x y H1 e1 px py Q q => by
    subst px
    subst py
    exact ⟨g, xs, z, v, rfl, rfl, .of (e1.same _ _ hg), hv, q _ _ (.refl trivial) rfl⟩
theorem evd_of {v : V} {d : PyData} (h : EvV F0 te σ H v) (td : Td K H v d) : EvD F0 K te σ H d := h.sub fun u H1 e p => ⟨d, rfl, by rw [show u = v from p]; exact td.same e.same⟩
theorem evv_lenLs {g : Addr} {xs : List V} (ha : EvV F0 ta σ H (.ref g)) (hg : H g = some (.lst xs)) : EvV F0 (tCB (rLenQ K) (tCons ta tNil)) σ H (.int (xs.length : Nat)) :=
  ev_cb (ea_cons ha ea_nil) fun vs H1 e1 p Q q => by
    match vs, p with
    | [x], ⟨p0, _⟩ =>
      obtain rfl : x = V.ref g := p0
      exact ⟨g, xs, rfl, .inl (.of (e1.same _ _ hg)), q _ _ (.refl trivial) rfl⟩
theorem evv_dget {d : Addr} {x : Str} {kvs : List (L2.Key × V)} {v : V} (ha : EvV F0 ta σ H (.ref d)) (hd : H d = some (.dK kvs)) (hb : EvV F0 tb σ H (.str x)) (hv : valV kvs (Sum.inr x) = some v) : EvV F0 (tDGet ta tb) σ H v := fun H1 e Q q =>
  ha H1 e _ fun y H2 e2 py => by
    obtain rfl : y = V.ref d := py
    exact hb H2 (e.trans e2) _ fun z H3 e3 pz => by
      obtain rfl : z = V.str x := pz
      have := DGet.k (k := Sum.inr x) (((e.trans e2).trans e3).same _ _ hd)
      rw [hv] at this
      exact ⟨d, v, rfl, this, q _ _ (e2.trans e3) rfl⟩
theorem evv_isCv {a C dx : Addr} {fs : List (Str × V)} (h : EvV F0 ta σ H (.ref a)) (ha : H a = some (.ins C dx fs)) : EvV F0 (tCB (fun xs H Q => ∃ a dx fs, xs = [.ref a, .ref C] ∧ H a = some (.ins C dx fs) ∧ Q (.bl true) H) (tCons ta (tCons (tC (.ref C)) tNil))) σ H (.bl true) :=
  ev_cb (ea_cons h (ea_cons (evv_c (v := V.ref C) trivial) ea_nil)) fun vs H1 e1 p Q q => by
    match vs, p with
    | [x, y], ⟨p0, p1, _⟩ =>
      obtain rfl : x = V.ref a := p0
      obtain rfl : y = V.ref C := p1
      exact ⟨a, dx, fs, rfl, e1.same _ _ ha, q _ _ (.refl trivial) rfl⟩
theorem evd_fldv {a C dx : Addr} {fs : List (Str × V)} {x : Str} {v : V} {d : PyData} (h : EvV F0 ta σ H (.ref a)) (ha : H a = some (.ins C dx fs)) (hc : Cls K C) (hn : NoAttr K C x) (hv : fs.lookup x = some v) (td : Td K H v d) : EvD F0 K (tFld K ta x) σ H d := fun H1 e Q q =>
  h H1 e _ fun y H2 e2 py => by
    obtain rfl : y = V.ref a := py
    exact ⟨a, C, dx, fs, v, rfl, (e.trans e2).same _ _ ha, hc, hn, hv, q _ _ e2 ⟨d, rfl, td.same (e.trans e2).same⟩⟩
theorem strs_shapedL {ss : List Str} (h : ∀ z ∈ ss, NameOk z) : SeqAt.shaped (.list (ss.map .str)) = true ∧ PyData.eqv (.list (ss.map .str)) (.list (ss.map .str)) = true := by
  have a := lay_all (n := 0) (ds := ss.map PyData.str) fun d hd => by
    obtain ⟨z, hz, rfl⟩ := List.mem_map.mp hd
    exact lay_name (h z hz)
  have h1 : (PyData.list (ss.map PyData.str)).canLay0 = true := by rw [PyData.canLay0]; exact a.1
  have h2 : (PyData.list (ss.map PyData.str)).depth ≤ 1 := by rw [PyData.depth]; have := a.2; omega
  exact ⟨by unfold SeqAt.shaped; rw [h1, decide_eq_true (show (PyData.list (ss.map .str)).depth ≤ 64 from Nat.le_trans h2 (by decide))]; rfl, SeqAt.eqv_refl _ h1⟩
theorem dpAll_strs : ∀ ss : List Str, DpAll K H (ss.map V.str) (ss.map .str)
  | [] => .nil
  | s :: ss => .cons (.str s) (dpAll_strs ss)
def spRight (K : PySem.W.Frag) (CR CPl : Addr) : Sp := fun vs H Q _ => ∃ a g bv ns bs over m bk, vs = [.ref a, .ref g, bv] ∧ PlayAt K CR CPl H a (ns.getD 0 "") over m ∧ GamP K H g ns bs over ∧ GamOk ns bs over ∧ (Td K H bv (blkD bk) ∧ BOk bk) ∧ m.Perm (memOf ns (bs.set 0 bk)) ∧ ∀ H', Same H H' → Q (.bl true) H'
theorem sc_law_right : FnScope ["_law_told", "_law_game_here", "_law_block", "_law_routines", "_law_k"] ["_law_told", "_law_game_here", "_law_block"] (fnScope s_law_right) := ⟨rfl, rfl, rfl, by decide +kernel, rfl, by decide +kernel, by decide +kernel⟩
theorem c_law_right (T : Tx w K mg) (R : Rx w K mg CR) (PX : Px w K mg CPl) : Cal P w K mg base 56 "_law_right" (spRight K CR CPl) [] := by
  have c_law_play := c_law_play (P := P) (base := base) T R PX
  have PR_routines := p_routines (P := P) (base := base) (CR := CR) T PX
  have M_peq := t_peq (P := P) (base := base) T R PX
  refine T.d_law_right.cal sc_law_right (fun F => ⟨[], .nil, F.bindsN fun _ _ _ _ _ _ us hl => match us, hl with | [_, _, _], _ => rfl⟩) (by rintro vs H Q E ⟨a, g, bv, ns, bs, over, m, bk, rfl, _⟩; rfl) fun f cdv A outer s H vs Q E hr h => ?_
  obtain ⟨a, g, bv, ns, bs, over, m, bk, rfl, pl, gp, ok, ⟨tbv, okb⟩, hperm, hQ⟩ := h
  refine ⟨_, (pss_cons (ps_if (PW.pt (pw_or (pt_not (pt_val (pe_callB (call_isC PX.ins) rfl T.z_isinstance (by decide +kernel) (pa_cons (pv 0) (pa_cons (pe_gc rfl (show ∃ u, mg "Play" = some u ∧ L2.RelV (.ref CPl) u from ⟨_, PX.g_cls, rfl⟩)) pa_nil))))) (pw_or (pt_cmpR op_ne (pe_fld (pv 0) rfl) (pe_ix (r := rIxL K) ix_list (pe_ix (r := rIxL K) ix_list (pv 1) pe_int (fun _ _ => rfl)) pe_int (fun _ _ => rfl)) (nomark _)) (pw_or1 (pt_cmpR (op_neD (hu64 hr)) (pe_fld (pv 0) rfl) (pe_ix (r := rIxL K) ix_list (pv 1) pe_int (fun _ _ => rfl)) (nomark _))))))
      (pss_one (ps_ret pe_bl))
      pss_nil)
    (pss_cons (ps_set (i := 3) sc_law_right.nd rfl (by first | exact Or.inl rfl | exact Or.inr rfl) (pe_prp PR_routines PX.ins.cl hr (by omega) (pv 0)))
    (pss_cons (ps_if (PW.pt (pw_or (pt_not (pt_val (pe_callB call_isi rfl T.z_isinstance (by decide +kernel) (pa_cons (pv 3) (pa_cons (pe_bltn (v := .ty "dict") (u := .type "dict") rfl T.z_dict (by decide +kernel) rfl) pa_nil))))) (pw_or1 (pt_cmpR (op_neD (hu64 hr)) (pe_callB cr_sortedSt rfl T.z_sorted (by decide +kernel) (pa_cons (pe_callTy (call_list_dK rfl) rfl T.z_list (by decide +kernel) (pa_cons (pv 3) pa_nil)) pa_nil)) (pe_callB cr_sortedSt rfl T.z_sorted (by decide +kernel) (pa_cons (pe_ix (r := rIxL K) ix_list (pv 1) pe_int (fun _ _ => rfl)) pa_nil)) (nomark _)))))
      (pss_one (ps_ret pe_bl))
      pss_nil)
    (pss_cons (ps_for PassesOwn.never rfl (pi_range1 rfl T.z_range (pa_cons (pe_callB (r := rLenQ K) call_len_seq rfl T.z_len PySem.boot_len (pa_cons (pe_ix (r := rIxL K) ix_list (pv 1) pe_int (fun _ _ => rfl)) pa_nil)) pa_nil)) (pg_name (i := 4) sc_law_right.nd rfl (Or.inl rfl))
      (pss_cons (ps_if (pt_not (pt_val (pe_callB (call_isC R.ins) rfl T.z_isinstance (by decide +kernel) (pa_cons (pe_dget (hu1 hr) (pv 3) (pe_ix (r := rIxL K) ix_list (pe_ix (r := rIxL K) ix_list (pv 1) pe_int (fun _ _ => rfl)) (pv 4) (fun _ _ => rfl)) (fun _ _ => rfl)) (pa_cons (pe_gc rfl (show ∃ u, mg "Routine" = some u ∧ L2.RelV (.ref CR) u from ⟨_, R.g_cls, rfl⟩)) pa_nil)))))
        (pss_one (ps_ret pe_bl))
        pss_nil)
      (pss_one (ps_if (pt_cmpR (op_neD (hu64 hr)) (pe_fld (pe_dget (hu1 hr) (pv 3) (pe_ix (r := rIxL K) ix_list (pe_ix (r := rIxL K) ix_list (pv 1) pe_int (fun _ _ => rfl)) (pv 4) (fun _ _ => rfl)) (fun _ _ => rfl)) rfl) (pe_ix (r := rIxL K) ix_list (pe_lst (pa_cons (pe_ix (r := rIxL K) ix_list (pe_ix (r := rIxL K) ix_list (pv 1) pe_int (fun _ _ => rfl)) (pv 4) (fun _ _ => rfl)) (pa_cons (pv 2) pa_nil))) (pe_callTy call_int1 rfl T.z_int (by decide +kernel) (pa_cons (pe_cmpR op_eq (pv 4) pe_int (nomark _)) pa_nil)) (fun _ _ => rfl)) (nomark _))
        (pss_one (ps_ret pe_bl))
        pss_nil))))
    (pss_one (ps_ret (pe_cmpR (op_eqG (rg_play M_peq) (hr.mono (by omega))) (pv 0) (pe_c c_law_play hr (by omega) rfl (pa_cons (pe_lst (pa_cons (pe_ix (r := rIxL K) ix_list (pv 1) pe_int (fun _ _ => rfl)) (pa_cons (pe_op op_cat (pe_lst (pa_cons (pv 2) pa_nil)) (pe_slice sl_list (pe_ix (r := rIxL K) ix_list (pv 1) pe_int (fun _ _ => rfl)) (po_some pe_int) po_none)) (pa_cons (pe_ix (r := rIxL K) ix_list (pv 1) pe_int (fun _ _ => rfl)) pa_nil)))) (pa_cons pe_bl pa_nil))) (nomark _)))))))), ?_⟩
  obtain ⟨dx, ov, lin, t, ix, rs, q1, q2, q3, q4, q5⟩ := pl.ex
  obtain ⟨n, b, ovg, rest, xs, hg, hn, hb, hx, hov⟩ := gp.ex
  have hl := ok.len
  have h4 := ok.le
  have h2 := ok.ge
  obtain ⟨x0, hx0⟩ : ∃ x0, ns[0]? = some x0 := ⟨_, List.getElem?_eq_getElem (by omega)⟩
  have hg0 : ns.getD 0 "" = x0 := by rw [List.getD_eq_getElem?_getD, hx0]; rfl
  rw [hg0] at pl q1
  have f0 : ∀ {a : Addr}, ¬ F0.sp a := fun z => z
  have A0 : atI (V.ref n :: .ref b :: ovg :: rest) 0 = some (.ref n) := atI_nat (j := 0) rfl
  have ok' : GamOk ns (bs.set 0 bk) over := ⟨by rw [List.length_set]; exact hl, by rw [List.length_set]; exact h2, by rw [List.length_set]; exact h4, ok.nd, ok.nm, fun c hc => by
    rcases List.mem_or_eq_of_mem_set hc with hc | rfl
    · exact ok.bk c hc
    · exact okb, ok.ov⟩
  have ho := strs_shaped ok.ov.1
  refine skip_go (evb_is (et_or (et_not (et_test (evv_isCv (evv_var (i := 0) trivial rfl) q1))) fun _ =>
    et_or (et_test (evv_ne (evv_fld trivial rfl q1 f0 PX.ins.cl PX.n_own rfl) (evv_ixL (evv_ixL (evv_var (i := 1) trivial rfl) hg (evv_c trivial) A0) hn (evv_c trivial) (atI_nat (j := 0) (by rw [List.getElem?_map, hx0]; rfl))) rfl)) fun _ =>
    et_test (evv_neD (evd_fld trivial rfl q1 f0 PX.ins.cl PX.n_over rfl q2) (evd_of (evv_ixL (evv_var (i := 1) trivial rfl) hg (evv_c trivial) atI_2) hov) ho.1 ho.1)) (by rw [ho.2]; simp)) fun H1 e1 => ?_
  refine asg_go ⟨.ref a, rfl, a, dx, _, rfl, e1 _ _ q1, a, x0, over, m, rfl, pl.same e1, fun d H2 hd e2 ⟨kvs, hk, rows⟩ => ?_⟩
  have rows : RowsR K CR H2 kvs m := rows
  have e02 := e1.trans e2
  have hmn : ∀ z ∈ m.map (·.1), NameOk z := fun z hz => by
    obtain ⟨p, hp, rfl⟩ := List.mem_map.mp hz
    exact pl.ok.nm p hp
  have hmf : (m.map (·.1)).Perm ns := by
    have := hperm.map (·.1)
    rwa [show (memOf ns (bs.set 0 bk)).map (·.1) = ns from mem_fst ok'.len] at this
  refine skip_go (evb_is (et_or (et_not (et_test (b := true) fun H3 e Q q => ⟨_, rfl, .ref d, .ty "dict", _, _, _, rfl, .ty "dict", .base (.dK (e.same _ _ hk)), (show PySem.W.kitOne K (.type "dict") (.type "dict") = some true from rfl), q _ _ (.refl trivial) rfl⟩)) fun _ => et_test (b := false) fun H3 e Q q => ?_) rfl) fun H3 e3 => ?_
  · have rows3 := rows.same e.same
    refine ⟨.ref d, rfl, d, kvs, rfl, e.same _ _ hk, fun q1' hq1' => ⟨q1', m.map (·.1), rfl, .of (by rw [upd_same, keys_str rows3]), fun ys p perm asc hp => ?_⟩⟩
    have en := (same_new (o := .lst (kvs.map fun kv => kV kv.1)) hq1').trans (same_new (o := .lst (ys.map V.str)) hp)
    have e4 := (e02.trans e.same).trans en
    refine ⟨.ref g, rfl, g, _, 0, .ref n, rfl, rfl, .of (e4 _ _ hg), A0, n, ns, rfl, .of (e4 _ _ hn), fun zs p2 perm2 asc2 hp2 => ?_⟩
    have hyz : ys = zs := asc_uniq asc asc2 ((perm.trans hmf).trans perm2.symm)
    subst hyz
    have hys := strs_shapedL (ss := ys) fun z hz => hmn z (perm.mem_iff.mp hz)
    have hpp : p ≠ p2 := fun z => by rw [← z, upd_same] at hp2; cases hp2
    refine ⟨.list (ys.map .str), .list (ys.map .str), .lst (.of (by rw [upd_ne hpp]; exact upd_same)) (dpAll_strs ys), .lst (.of upd_same) (dpAll_strs ys), hys.1, hys.1, q _ _ (.of0 (en.trans (same_new hp2))) ?_⟩
    rw [hys.2]
    rfl
  have e03 := e02.trans e3
  let LS : Nat → L2.St → Hp → Prop := fun i σ H4 => Same H3 H4 ∧ ∃ s4, σ = [some (.ref a), some (.ref g), some bv, some (.ref d), s4]
  refine ⟨.ref g, rfl, g, _, 0, .ref n, rfl, rfl, .of (e03 _ _ hg), A0, n, ns.map V.str, rfl, .inl (.of (e03 _ _ hn)), ((ns.map V.str).length : Nat), rfl, by omega, by rw [List.length_map]; omega, for_it walk_range LS ⟨.refl _, _, rfl⟩ (fun i σ H2 _ _ => trivial) ?_ ?_⟩
  · rintro i x σ _ H4 hi ⟨e4, s4, rfl⟩ ⟨rfl, hxi⟩
    obtain rfl : x = V.int (i : Nat) := by rw [hxi]; simp
    have hi : i < bs.length := by
      have hi : i < (((ns.map V.str).length : Nat) : Int).toNat := hi
      rw [List.length_map] at hi
      omega
    have e04 := e03.trans e4
    have hg4 := e04 _ _ hg
    have hn4 := e04 _ _ hn
    have hb4 := e04 _ _ hb
    have e24 := e3.trans e4
    obtain ⟨nm, hnm⟩ : ∃ nm, ns[i]? = some nm := ⟨_, List.getElem?_eq_getElem (by omega)⟩
    obtain ⟨c, hc⟩ : ∃ c, (bs.set 0 bk)[i]? = some c := ⟨_, List.getElem?_eq_getElem (by rw [List.length_set]; exact hi)⟩
    obtain ⟨ci, hci⟩ : ∃ ci, bs[i]? = some ci := ⟨_, List.getElem?_eq_getElem hi⟩
    have hmem : (nm, c) ∈ m := hperm.mem_iff.mpr (List.mem_of_getElem? (i := i) (by
      unfold memOf
      rw [List.getElem?_zip_eq_some]
      exact ⟨hnm, hc⟩))
    obtain ⟨rv, hrv, r, tbr, rfl, hrr⟩ := (rows.same e24).get pl.ok.nd hmem
    obtain ⟨rdx, vb, nl, pl', ks, r1, r2, _⟩ := hrr.ex
    have okc : BOk c := ok'.bk c (List.mem_of_getElem? hc)
    have gi : ∀ {H5 : Hp}, Same H4 H5 → EvV F0 (tDGet (tVar 3) (tOp (rIxL K) (tOp (rIxL K) (tVar 1) (tC (.int 0))) (tVar 4))) [some (.ref a), some (.ref g), some bv, some (.ref d), some (.int (i : Nat))] H5 (.ref r) := fun e => evv_dget (evv_var (i := 3) trivial rfl) (e _ _ (e24 _ _ hk)) (evv_ixL (evv_ixL (evv_var (i := 1) trivial rfl) (e _ _ hg4) (evv_c trivial) A0) (e _ _ hn4) (evv_var (i := 4) trivial rfl) (atI_nat (by rw [List.getElem?_map, hnm]; rfl))) hrv
    refine skip_go (et_not (et_test (evv_isCv (gi (.refl _)) r1))) fun H5 e5 => ?_
    have e05 := e04.trans e5
    obtain ⟨vi, hvi, tvi⟩ := (hx.same e05).get (i := i) (d := blkD ci) (by rw [List.getElem?_map, hci]; rfl)
    have rhs : EvD F0 K (tOp (rIxL K) (tLst (tCons (tOp (rIxL K) (tOp (rIxL K) (tVar 1) (tC (.int 1))) (tVar 4)) (tCons (tVar 2) tNil))) (tCB (fun xs H Q => (∃ i, xs = [.int i] ∧ Q (.int i) H) ∨ ∃ k, xs = [.bl k] ∧ Q (.int (if k then 1 else 0)) H) (tCons (tOp rEq (tVar 4) (tC (.int 0))) tNil))) [some (.ref a), some (.ref g), some bv, some (.ref d), some (.int (i : Nat))] H5 (blkD c) := fun H6 e6 Q q => by
      have e6 := e6.same
      have e06 := e05.trans e6
      refine ⟨.ref g, rfl, g, _, 1, .ref b, rfl, rfl, .of (e06 _ _ hg), atI_1, .int (i : Nat), rfl, b, xs, (i : Nat), vi, rfl, rfl, .of (e06 _ _ hb), atI_nat hvi, bv, rfl, (show 2 ≤ sizeLine by decide), fun p hp => ?_⟩
      have en := same_new (o := .lst [vi, bv]) hp
      refine ⟨.int (i : Nat), rfl, rfl, .inr ⟨_, rfl, p, [vi, bv], _, (if i = 0 then bv else vi), rfl, rfl, .of upd_same, ?_, q _ _ (.of0 en) ⟨blkD c, rfl, ?_⟩⟩⟩
      · by_cases h0 : i = 0
        · subst h0
          rfl
        · rw [if_neg h0, decide_eq_false fun z => h0 (by have := V.int.inj z; omega)]
          exact atI_nat (j := 0) rfl
      · by_cases h0 : i = 0
        · subst h0
          have : c = bk := by
            rw [List.getElem?_set_self (by omega)] at hc
            exact (Option.some.inj hc).symm
          subst this
          exact (tbv.same e06).same en
        · have : c = ci := by
            rw [List.getElem?_set_ne (fun z => h0 z.symm), hci] at hc
            exact (Option.some.inj hc).symm
          subst this
          rw [if_neg h0]
          exact (tvi.same e6).same en
    obtain ⟨hc1, hc2⟩ := blk_shaped okc
    refine if_no (evb_is (et_test (evv_neD (evd_fldv (gi e5) (e5 _ _ r1) R.ins.cl R.n_block rfl (r2.same e5)) rhs hc1 hc1)) (by rw [hc2]; rfl)) fun H6 e6 => ?_
    exact ⟨(e4.trans e5).trans e6, _, rfl⟩
  · rintro σ H4 ⟨e4, s4, rfl⟩
    have e04 := e03.trans e4
    have hg4 := e04 _ _ hg
    refine ⟨.ref a, rfl, .ref g, rfl, g, _, 0, .ref n, rfl, rfl, .of hg4, A0, bv, rfl, (show 1 ≤ sizeLine by decide), fun l1 hl1 => ?_⟩
    have e5 := e04.trans (same_new (o := .lst [bv]) hl1)
    refine ⟨.ref g, rfl, g, _, 1, .ref b, rfl, rfl, .of (e5 _ _ hg), atI_1, 1, rfl, b, xs, rfl, .of (e5 _ _ hb), fun l2 hl2 => ?_⟩
    have hcut : cutV xs (some 1) none = xs.drop 1 := cut_lo_none xs 1
    rw [hcut]
    have en2 := same_new (o := .lst (xs.drop 1)) hl2
    have e6 := e5.trans en2
    have n12 : l1 ≠ l2 := fun z => by rw [← z, upd_same] at hl2; cases hl2
    have hxl : xs.length = bs.length := by rw [hx.len, List.length_map]
    refine ⟨l1, l2, [bv], xs.drop 1, rfl, rfl, by rw [upd_ne n12]; exact upd_same, upd_same, le_sl (by simp; omega), fun l3 hl3 => ?_⟩
    have en3 := same_new (o := .lst ([bv] ++ xs.drop 1)) hl3
    have e7 := e6.trans en3
    refine ⟨.ref g, rfl, g, _, 2, ovg, rfl, rfl, .of (e7 _ _ hg), atI_2, (show 3 ≤ sizeLine by decide), fun l4 hl4 => ?_⟩
    have en4 := same_new (o := .lst [.ref n, .ref l3, ovg]) hl4
    have e8 := e7.trans en4
    have hbset : bs.set 0 bk = bk :: bs.drop 1 := by
      match bs, h2 with
      | c :: cs, _ => rfl
    refine ⟨l4, ns, bs.set 0 bk, over, false, rfl, ⟨n, l3, ovg, [], [bv] ++ xs.drop 1, upd_same, e8 _ _ hn, en4 _ _ upd_same, ?_, hov.same e8⟩, ok', fun a' m2 H9 e9 ha' pl' perm' => ?_⟩
    · rw [hbset, List.map_cons, List.map_drop]
      exact .cons (tbv.same e8) (tda_drop (hx.same e8) 1)
    · rw [hg0] at pl'
      have e09 := e8.trans e9
      have hmm : m2 = m := mem_uniq (perm'.trans hperm.symm) pl.ok.nd pl'.asc pl.asc
      subst hmm
      obtain ⟨dx', ov', lin', t', ix', rs', z1, _⟩ := pl'.ex
      exact ⟨⟨a, a', _, _, _, _, rfl, rfl, e09 _ _ q1, z1, x0, over, m2, pl.same e09, pl'⟩, fun H10 ext => hQ H10 (e09.trans ext)⟩
end
end Oh
set_option maxHeartbeats 4000000
namespace Oh
open PySem PySem.Spec PyProof.Rows L2
open C8 (Cal Met Mak pe_c pe_mk pe_mt pe_mt0 pe_gc InsC call_isC tCut pss_cut fnBody fnArgs fnScope)
open LamX NdefX
/-! ### the plain law -/
theorem opL_fst (rows : List (List Int × T)) : (opL rows).map (·.1) = (rows.filter (·.2.isOpn)).map (·.1) := by unfold opL; rw [List.map_map]; rfl
theorem opL_nodup (b : List T) : ((opL (bLst [] 0 b)).map (·.1)).Nodup := by
  rw [opL_fst]
  exact (bLst_nodup [] 0 b).sublist (List.filter_sublist.map _)
theorem opns_perm (b : List T) : (opns b).Perm ((opL (bLst [] 0 b)).map (·.1)) := by
  unfold opns
  refine ((srtP_perm _).filter _).trans ?_
  rw [opL_fst, List.filter_map]
  refine List.Perm.of_eq (congrArg _ (List.filter_congr fun r hr => ?_))
  exact opnP_at (bLst_nodup [] 0 b) (p := r.1) (t := r.2) hr
theorem lst_okR (t : T) : ∀ lp, T.Ok lp t → ∀ p, ∀ r ∈ t.lst p, ∃ lp, T.Ok lp r.2 := by
  refine T.ind (P := fun t => ∀ lp, T.Ok lp t → ∀ p, ∀ r ∈ t.lst p, ∃ lp, T.Ok lp r.2) (fun h ks ih lp o p r hr => ?_) t
  rw [T.lst] at hr
  rcases List.mem_cons.mp hr with rfl | hr
  · exact ⟨lp, o⟩
  · obtain ⟨_, _, oall, _, _⟩ := o.inv
    obtain ⟨k, b, j, u, hk, hj, hr⟩ := bbLst_at hr
    exact ih b (List.mem_of_getElem? hk) u (List.mem_of_getElem? hj) _ (oall b (List.mem_of_getElem? hk) u (List.mem_of_getElem? hj)) _ r hr
theorem row_cnt {b : List T} (o : BOk b) {r : List Int × T} (hr : r ∈ bLst [] 0 b) (hi : r.2.isOpn = true) : 1 ≤ r.2.kids.length ∧ r.2.kids.length ≤ 4 := by
  obtain ⟨j, t, hj, hr⟩ := bLst_at hr
  obtain ⟨lp, ok⟩ := lst_okR t false (o.all t (List.mem_of_getElem? hj)) _ r hr
  obtain ⟨p, h, ks⟩ := r
  obtain ⟨oh, _⟩ := ok.inv
  cases h with
  | opn => exact oh
  | _ => cases hi
theorem opL_mem {rows : List (List Int × T)} {x : List Int × Nat} (h : x ∈ opL rows) : ∃ r ∈ rows, r.2.isOpn = true ∧ x = (r.1, r.2.kids.length) := by
  unfold opL at h
  obtain ⟨r, hr, rfl⟩ := List.mem_map.mp h
  obtain ⟨h1, h2⟩ := List.mem_filter.mp hr
  exact ⟨r, h1, h2, rfl⟩
theorem opL_in {rows : List (List Int × T)} {r : List Int × T} (h : r ∈ rows) (hi : r.2.isOpn = true) : (r.1, r.2.kids.length) ∈ opL rows := List.mem_map.mpr ⟨r, List.mem_filter.mpr ⟨h, hi⟩, rfl⟩
theorem fm_one {α β : Type} (f : α → Option β) (a : α) : ([a].filterMap f).length ≤ 1 := by
  rw [List.filterMap_cons]
  split <;> simp
theorem fm_mem {α : Type} {l : List α} {ix : List Nat} {x : α} (h : x ∈ ix.filterMap fun k => l[k]?) : x ∈ l := by
  obtain ⟨k, _, e⟩ := List.mem_filterMap.mp h
  exact List.mem_of_getElem? e
theorem ed_few (pk : List Int → Nat) (t : T) : ∀ q p, ∀ r ∈ (t.ed (chP pk) q).lst p, r.2.isOpn = true → r.2.kids.length ≤ 1 := by
  refine T.ind (P := fun t => ∀ q p, ∀ r ∈ (t.ed (chP pk) q).lst p, r.2.isOpn = true → r.2.kids.length ≤ 1) (fun h ks ih q p r hr hi => ?_) t
  rw [T.ed, T.lst] at hr
  rcases List.mem_cons.mp hr with rfl | hr
  · have hi : h.isOpn = true := hi
    show (selK h (chP pk q ks.length) (bbEd (chP pk) q 0 ks)).length ≤ 1
    unfold selK
    rw [if_pos hi]
    exact fm_one _ _
  · obtain ⟨k, b, j, u, hk, hj, hr⟩ := bbLst_at hr
    have hb : b ∈ bbEd (chP pk) q 0 ks := by
      have := List.mem_of_getElem? hk
      unfold selK at this
      split at this
      · exact fm_mem this
      · exact this
    obtain ⟨k', hk'⟩ := List.getElem?_of_mem hb
    rw [bbEd_get] at hk'
    cases hc : ks[k']? with
    | none => rw [hc] at hk'; cases hk'
    | some c =>
      rw [hc] at hk'
      obtain rfl := Option.some.inj hk'
      rw [bEd_get] at hj
      cases hu : c[j]? with
      | none => rw [hu] at hj; cases hj
      | some u' =>
        rw [hu] at hj
        obtain rfl := Option.some.inj hj
        exact ih c (List.mem_of_getElem? hc) u' (List.mem_of_getElem? hu) _ _ r hr hi
theorem bEd_one {pk : List Int → Nat} {b : List T} (o : BOk (bEd (chP pk) [] 0 b)) : ∀ r ∈ bLst [] 0 (bEd (chP pk) [] 0 b), r.2.isOpn = true → r.2.kids.length = 1 := fun r hr hi => by
  have h1 := (row_cnt o hr hi).1
  obtain ⟨j, t, hj, hr'⟩ := bLst_at hr
  rw [bEd_get] at hj
  cases hu : b[j]? with
  | none => rw [hu] at hj; cases hj
  | some u =>
    rw [hu] at hj
    obtain rfl := Option.some.inj hj
    have := ed_few pk u _ _ r hr' hi
    omega
theorem ed_same (t : T) : ∀ q p, (∀ r ∈ t.lst p, r.2.isOpn = true → r.2.kids.length = 1) → t.ed (chP fun _ => 0) q = t := by
  refine T.ind (P := fun t => ∀ q p, (∀ r ∈ t.lst p, r.2.isOpn = true → r.2.kids.length = 1) → t.ed (chP fun _ => 0) q = t) (fun h ks ih q p hp => ?_) t
  have hks : bbEd (chP fun _ => 0) q 0 ks = ks := List.ext_getElem? fun k => by
    rw [bbEd_get]
    cases hc : ks[k]? with
    | none => rfl
    | some c =>
      refine congrArg some (List.ext_getElem? fun j => ?_)
      rw [bEd_get]
      cases hu : c[j]? with
      | none => rfl
      | some u =>
        refine congrArg some (ih c (List.mem_of_getElem? hc) u (List.mem_of_getElem? hu) _ (p ++ [(k : Int)] ++ [(j : Int)]) fun r hr => hp r ?_)
        rw [T.lst]
        exact List.mem_cons_of_mem _ (bbLst_mem hc r (bLst_mem hu r hr))
  rw [T.ed, hks]
  congr 1
  unfold selK
  split
  · rename_i hi
    have h1 := hp (p, .mk h ks) (by rw [T.lst]; exact List.mem_cons_self ..) hi
    match ks, h1 with
    | [k], _ => rfl
  · rfl
theorem bEd_same {b : List T} (h : ∀ r ∈ bLst [] 0 b, r.2.isOpn = true → r.2.kids.length = 1) : bEd (chP fun _ => 0) [] 0 b = b := List.ext_getElem? fun j => by
  rw [bEd_get]
  cases hu : b[j]? with
  | none => rfl
  | some u => exact congrArg some (ed_same u _ ([] ++ [(j : Int)]) fun r hr => h r (bLst_mem hu r hr))
/-! the members -/
theorem setM_memOf {ns : List Str} {bs : List (List T)} {bk : List T} (nd : ns.Nodup) (h1 : 1 ≤ ns.length) (hl : ns.length = bs.length) : setM (ns.getD 0 "") bk (memOf ns bs) = memOf ns (bs.set 0 bk) := by
  match ns, bs, h1, hl with
  | n :: ns, b :: bs, _, _ =>
    obtain ⟨n1, _⟩ := List.nodup_cons.mp nd
    show setM n bk ((n, b) :: ns.zip bs) = (n, bk) :: ns.zip bs
    unfold setM
    rw [List.map_cons, if_pos rfl]
    refine congrArg _ ?_
    conv => rhs; rw [← List.map_id (ns.zip bs)]
    refine List.map_congr_left fun p hp => if_neg fun e => n1 ?_
    rw [← e]
    exact (List.of_mem_zip hp).1
/-! the picks -/
def pkOf (rs : List (List Int × Nat)) (p : List Int) : Nat := ((rs.find? fun r => decide (r.1 = p)).map (·.2)).getD 0
theorem pkOf_at {rs : List (List Int × Nat)} (nd : (rs.map (·.1)).Nodup) {r : List Int × Nat} (h : r ∈ rs) : pkOf rs r.1 = r.2 := by
  induction rs with
  | nil => cases h
  | cons a rs ih =>
    obtain ⟨n1, n2⟩ := List.nodup_cons.mp (show (a.1 :: rs.map (·.1)).Nodup from nd)
    unfold pkOf
    rw [List.find?_cons]
    rcases List.mem_cons.mp h with rfl | h
    · rw [decide_eq_true rfl]
      rfl
    · rw [decide_eq_false fun e => n1 (by rw [e]; exact List.mem_map_of_mem h)]
      exact ih n2 h
structure ChoB (b : List T) (rs : List (List Int × Nat)) : Prop where
  nd : (rs.map (·.1)).Nodup
  len : rs.length = (opns b).length
  at_ : ∀ r ∈ bLst [] 0 b, r.2.isOpn = true → (r.1, pkOf rs r.1) ∈ rs ∧ pkOf rs r.1 < r.2.kids.length
  fst : (rs.map (·.1)).Perm ((opL (bLst [] 0 b)).map (·.1))
theorem cho_of {b : List T} {rs rs0 : List (List Int × Nat)} (hp : rs.Perm rs0) (hc : ChosenOk rs0 (opL (bLst [] 0 b))) : ChoB b rs := by
  have hf : (rs.map (·.1)).Perm ((opL (bLst [] 0 b)).map (·.1)) := by rw [← chosen_fst hc]; exact hp.map _
  have nd : (rs.map (·.1)).Nodup := hf.nodup_iff.mpr (opL_nodup b)
  refine ⟨nd, by rw [(opns_perm b).length_eq, ← hf.length_eq, List.length_map], fun r hr hi => ?_, hf⟩
  obtain ⟨i, hi'⟩ := List.getElem?_of_mem (opL_in hr hi)
  obtain ⟨x, hx, e1, e2⟩ := paired_getR hc hi'
  have hx : x ∈ rs := hp.mem_iff.mpr (List.mem_of_getElem? hx)
  have e3 := pkOf_at nd hx
  rw [e1] at e3
  have e3 : pkOf rs r.1 = x.2 := e3
  rw [e3]
  exact ⟨by rw [show (r.1, x.2) = x from Prod.ext e1.symm rfl]; exact hx, e2⟩
theorem ChoB.picks {b : List T} {rs : List (List Int × Nat)} (h : ChoB b rs) : PicksOk b (pkv rs) ∧ ∀ p ∈ opns b, valV (pkv rs) (pK p) = some (.int (pkOf rs p : Nat)) := by
  have key : ∀ p ∈ opns b, valV (pkv rs) (pK p) = some (.int (pkOf rs p : Nat)) ∧ pkOf rs p < cntAt (bLst [] 0 b) p := fun p hp => by
    obtain ⟨ks, hr⟩ := opns_mem hp
    obtain ⟨h1, h2⟩ := h.at_ _ hr rfl
    exact ⟨pkv_val h.nd (r := (p, pkOf rs p)) h1, by rw [cntAt_at (bLst_nodup [] 0 b) hr]; exact h2⟩
  exact ⟨⟨by unfold pkv; rw [List.length_map]; exact h.len, fun p hp => ⟨_, (key p hp).1, (key p hp).2⟩⟩, fun p hp => (key p hp).1⟩
theorem ChoB.ch {b : List T} {rs : List (List Int × Nat)} (h : ChoB b rs) : ChOk (chP (pkOf rs)) (bLst [] 0 b) := fun r hr o => ⟨List.singleton_sublist.mpr (List.mem_range.mpr (h.at_ r hr o).2), by simp [chP]⟩
end Oh
set_option maxHeartbeats 4000000
namespace Oh
open PySem PySem.Spec PyProof.Rows L2
open C8 (Cal Met Mak pe_c pe_mk pe_mt pe_mt0 pe_gc InsC call_isC tCut pss_cut fnBody fnArgs fnScope)
open LamX NdefX
theorem hu2 {k : Nat} {A : Around} (h : Room k A) : A.units + 2 < cLine := by have := h.units; omega
section
variable {P : Program} {w : World} {K : PySem.W.Frag} {mg : Str → Option Value} {base : Heap} {te tb ta tc : TE} {σ : L2.St} {H H' H1 : Hp} {E : XK} {ds es : List PyData} {CR CPl A L Pt : Addr}
/-- all but lists, tables of code, dicts with tuple keys stay; the tables of routines stay -/
structure KX (K : PySem.W.Frag) (CR : Addr) (H H' : Hp) : Prop where
  k : ∀ a o, H a = some o → (∀ xs, o ≠ .lst xs) → (∀ ps, o ≠ .tbl ps) → (∀ kv, o ≠ .dT kv) → H' a = some o
  t : ∀ a tb b kvs, RoutAt K CR H a tb b → H tb = some (.dT kvs) → H' tb = some (.dT kvs)
theorem KX.tl (e : KX K CR H H') : TL H H' := fun a xs r => by
  rcases r with r | ⟨o, r⟩
  · exact .inl (e.k _ _ r (fun _ z => by cases z) (fun _ z => by cases z) fun _ z => by cases z)
  · exact .inr ⟨o, e.k _ _ r (fun _ z => by cases z) (fun _ z => by cases z) fun _ z => by cases z⟩
theorem RoutAt.kx {a tb : Addr} {b : List Oh.T} (r : RoutAt K CR H a tb b) (e : KX K CR H H') : RoutAt K CR H' a tb b := by
  obtain ⟨dx, v, nl, pl, kvs, q1, q2, q3, q4⟩ := r.ex
  exact ⟨dx, v, nl, pl, kvs, e.k _ _ q1 (fun _ z => by cases z) (fun _ z => by cases z) (fun _ z => by cases z), q2.tl e.tl, e.t a tb b _ r q3, q4.tl e.tl⟩
theorem KX.trans (a : KX K CR H H1) (b : KX K CR H1 H') : KX K CR H H' := ⟨fun x o h h1 h2 h3 => b.k x o (a.k x o h h1 h2 h3) h1 h2 h3, fun x tb c kvs r h => b.t x tb c kvs (r.kx a) (a.t x tb c kvs r h)⟩
theorem KX.same (e : Same H H') : KX K CR H H' := ⟨fun a o h _ _ _ => e a o h, fun _ tb _ kvs _ h => e tb _ h⟩
theorem KX.extN (e : ExtN H H') : KX K CR H H' := ⟨fun a o h _ n _ => e a o h n, fun _ tb _ kvs _ h => e tb _ h fun _ z => by cases z⟩
theorem fp_lst (g : (Fp A L Pt).G H) {a : Addr} (s : (Fp A L Pt).sp a) : (∃ xs, H a = some (.lst xs)) ∨ ∃ ps, H a = some (.tbl ps) := by
  obtain ⟨⟨ns, i, v, l, sm, tn, h1, h2, h3⟩, t⟩ := g
  rcases s with rfl | rfl | rfl
  · exact .inl ⟨_, h1⟩
  · exact .inl ⟨_, h2⟩
  · obtain ⟨ps, h4, _⟩ := t _ (List.mem_singleton.mpr rfl)
    exact .inr ⟨ps, h4⟩
theorem KX.frame (g : (Fp A L Pt).G H) (e : (Fp A L Pt).L H H') : KX K CR H H' := by
  have ns : ∀ {a o}, H a = some o → (∀ xs, o ≠ HO.lst xs) → (∀ ps, o ≠ HO.tbl ps) → ¬ (Fp A L Pt).sp a := fun {a o} h h1 h2 s => by
    rcases fp_lst g s with ⟨xs, q⟩ | ⟨ps, q⟩
    · rw [q] at h; exact h1 xs (Option.some.inj h).symm
    · rw [q] at h; exact h2 ps (Option.some.inj h).symm
  exact ⟨fun a o h h1 h2 _ => e.1 a o h (ns h h1 h2), fun _ tb _ kvs _ h => e.1 tb _ h (ns h (fun _ z => by cases z) fun _ z => by cases z)⟩
theorem KX.lst {q : Addr} {xs ys : List V} (h : H q = some (.lst xs)) : KX K CR H (upd H q (.lst ys)) := ⟨fun a o ha h1 _ _ => by
  rw [upd_ne fun z => by rw [z, h] at ha; exact h1 xs (Option.some.inj ha).symm]
  exact ha, fun _ tb _ kvs _ ht => by
  rw [upd_ne fun z => by rw [z, h] at ht; cases ht]
  exact ht⟩
/-- picks cleared: no routine's table -/
theorem KX.clear {d : Addr} {rs : List (List Int × Nat)} (h : H d = some (.dT (pkv rs))) : KX K CR H (upd H d (.dT [])) := by
  refine ⟨fun a o ha _ _ h3 => ?_, fun a tb b kvs r ht => ?_⟩
  · rw [upd_ne fun z => by rw [z, h] at ha; exact h3 _ (Option.some.inj ha).symm]
    exact ha
  · by_cases e : tb = d
    · subst e
      rw [h] at ht
      have ht := Option.some.inj ht
      obtain ⟨dx, v, nl, pl, kvs', q1, q2, q3, q4⟩ := r.ex
      rw [h] at q3
      have q3 := Option.some.inj q3
      injection ht with ht
      injection q3 with q3
      subst q3
      subst ht
      rw [upd_same]
      match rs, q4 with
      | [], _ => rfl
      | r0 :: rs, q4 =>
        exfalso
        cases hb : bLst [] 0 b with
        | nil =>
          rw [hb] at q4
          cases q4
        | cons x xs =>
          rw [hb] at q4
          cases q4 with
          | cons p _ =>
            have p2 := p.2
            obtain ⟨path, ⟨hd, ks⟩⟩ := x
            obtain ⟨ds, e⟩ := hd_first (hd := hd) (ks := bbd ks)
            have p3 : Td K H (.int (r0.2 : Nat)) (hdD hd (bbd ks)) := p2
            rw [e] at p3
            cases p3
    · rw [upd_ne e]
      exact ht
theorem NewR.kx {v : V} {b : List Oh.T} (h : NewR K CR H v b) (e : KX K CR H H') : NewR K CR H' v b := let ⟨a, tb, h1, h2⟩ := h; ⟨a, tb, h1, h2.kx e⟩
theorem PlayAt.kx {a : Addr} {own : Str} {over : List Str} {m : Mem} (h : PlayAt K CR CPl H a own over m) (e : KX K CR H H') : PlayAt K CR CPl H' a own over m := by
  obtain ⟨dx, ov, l, t, i, rs, h1, h2, h3, h4, h5⟩ := h.ex
  exact ⟨⟨dx, ov, l, t, i, rs, e.k _ _ h1 (fun _ z => by cases z) (fun _ z => by cases z) (fun _ z => by cases z), h2.tl e.tl, e.tl _ _ h3, e.k _ _ h4 (fun _ z => by cases z) (fun _ z => by cases z) (fun _ z => by cases z), Paired.mapP h5 fun _ _ r => r.kx e⟩, h.asc, h.ok, h.own_in, h.over_ok⟩
theorem RowL.kx {x : V} {p : List Int × Nat} (h : RowL H x p) (e : KX K CR H H') : RowL H' x p := h.up fun a xs z => e.k _ _ z (fun _ z => by cases z) (fun _ z => by cases z) fun _ z => by cases z
/-- an answer that is kept -/
def AnsOk (K : PySem.W.Frag) (CR CPl : Addr) (ns : List Str) (bs : List (List Oh.T)) (over : List Str) (H : Hp) (x : V) : Prop := ∃ c a' bv m' bk, x = .ref c ∧ H c = some (.tup [.ref a', bv]) ∧ PlayAt K CR CPl H a' (ns.getD 0 "") over m' ∧ Td K H bv (blkD bk) ∧ BOk bk ∧ m'.Perm (memOf ns (bs.set 0 bk))
theorem AnsOk.kx {ns : List Str} {bs : List (List Oh.T)} {over : List Str} {x : V} (h : AnsOk K CR CPl ns bs over H x) (e : KX K CR H H') : AnsOk K CR CPl ns bs over H' x := by
  obtain ⟨c, a', bv, m', bk, h1, h2, h3, h4, h5, h6⟩ := h
  exact ⟨c, a', bv, m', bk, h1, e.k _ _ h2 (fun _ z => by cases z) (fun _ z => by cases z) (fun _ z => by cases z), h3.kx e, h4.tl e.tl, h5, h6⟩
structure Bas (K : PySem.W.Frag) (CR CPl A L Pt gm n b r : Addr) (ov : V) (xs : List V) (ns : List Str) (bs : List (List Oh.T)) (over : List Str) (a : Addr) (m : Mem) (l : Addr) (xsl : List V) (rows : List (List Int × Nat)) (H : Hp) : Prop where
  g : (Fp A L Pt).G H
  gm : H gm = some (.lst [.ref n, .ref b, ov, .ref r])
  n : H n = some (.lst (ns.map V.str))
  b : H b = some (.lst xs)
  td : TdA K H xs (bs.map blkD)
  ov : Td K H ov (.tuple (over.map .str))
  pl : PlayAt K CR CPl H a (ns.getD 0 "") over m
  l : H l = some (.lst xsl)
  rows : Paired (RowL H) xsl rows
theorem Bas.kx {gm n b r : Addr} {ov : V} {xs : List V} {ns : List Str} {bs : List (List Oh.T)} {over : List Str} {a : Addr} {m : Mem} {l : Addr} {xsl : List V} {rows : List (List Int × Nat)} (h : Bas K CR CPl A L Pt gm n b r ov xs ns bs over a m l xsl rows H) (e : KX K CR H H') (g : (Fp A L Pt).G H')
    (hl : ∀ x, x = gm ∨ x = n ∨ x = b ∨ x = l → ∀ ys, H x = some (.lst ys) → H' x = some (.lst ys)) : Bas K CR CPl A L Pt gm n b r ov xs ns bs over a m l xsl rows H' :=
  ⟨g, hl _ (.inl rfl) _ h.gm, hl _ (.inr (.inl rfl)) _ h.n, hl _ (.inr (.inr (.inl rfl))) _ h.b, h.td.tl e.tl, h.ov.tl e.tl, h.pl.kx e, hl _ (.inr (.inr (.inr rfl))) _ h.l, Paired.mapP h.rows fun _ _ z => z.kx e⟩
theorem Bas.same {gm n b r : Addr} {ov : V} {xs : List V} {ns : List Str} {bs : List (List Oh.T)} {over : List Str} {a : Addr} {m : Mem} {l : Addr} {xsl : List V} {rows : List (List Int × Nat)} (h : Bas K CR CPl A L Pt gm n b r ov xs ns bs over a m l xsl rows H) (e : Same H H') : Bas K CR CPl A L Pt gm n b r ov xs ns bs over a m l xsl rows H' :=
  h.kx (.same e) ((Fp A L Pt).ext _ _ h.g e) fun _ _ _ z => e _ _ z
theorem Bas.gam {gm n b r : Addr} {ov : V} {xs : List V} {ns : List Str} {bs : List (List Oh.T)} {over : List Str} {a : Addr} {m : Mem} {l : Addr} {xsl : List V} {rows : List (List Int × Nat)} (h : Bas K CR CPl A L Pt gm n b r ov xs ns bs over a m l xsl rows H) : GamP K H gm ns bs over := ⟨n, b, ov, _, xs, h.gm, h.n, h.b, h.td, h.ov⟩
def spLaw (K : PySem.W.Frag) (Pt : Addr) : Sp := fun vs H Q _ => ∃ a, ∃ ns : List Int, vs = [.ref a] ∧ SqL K H a (ns.map V.int) ∧ ns.length ≤ 63 ∧ H Pt = some (.tbl #[]) ∧ ∀ H', Q (.bl true) H'
theorem tabs_of (h : H Pt = some (.tbl #[])) : Tabs [(Pt, lamQ)] H := fun p hp => by
  obtain rfl := List.mem_singleton.mp hp
  exact ⟨#[], h, by first | trivial | decide | exact ⟨⟩ | simp [TriplesOk], fun pos cv hc => by first | cases hc | simp at hc | (exfalso; revert hc; simp)⟩
end
end Oh
set_option maxHeartbeats 4000000
namespace Oh
open PySem PySem.Spec PyProof.Rows L2
open C8 (Cal Met Mak pe_c pe_mk pe_mt pe_mt0 pe_gc InsC call_isC tCut pss_cut fnBody fnArgs fnScope)
open LamX NdefX
section
variable {P : Program} {w : World} {K : PySem.W.Frag} {mg : Str → Option Value} {base : Heap} {te tb ta tc : TE} {σ : L2.St} {H H' H1 : Hp} {E : XK} {ds es : List PyData} {CR CPl A L Pt : Addr}
theorem evb_neT {i j : Nat} {d d2 : Addr} {rs : List (List Int × Nat)} (hi : σ[i]? = some (some (.ref d))) (hj : σ[j]? = some (some (.ref d2))) (h1 : H d = some (.dT (pkv rs))) (h2 : H d2 = some (.dT (pkv rs))) : EvB F0 (tTest (tOp rNeT (tVar i) (tVar j))) σ H false := fun H1 e Q q =>
  ⟨.ref d, hi, .ref d2, hj, d, d2, pkv rs, rfl, rfl, e.same _ _ h1, e.same _ _ h2, fun p hp => by
    unfold pkv at hp
    obtain ⟨r, _, rfl⟩ := List.mem_map.mp hp
    rfl, false, rfl, q _ _ (.refl trivial) rfl⟩
theorem evb_right {i j k : Nat} {a g : Addr} {bv : V} {ns : List Str} {bs : List (List Oh.T)} {over : List Str} {m : Mem} {bk : List Oh.T} (hi : σ[i]? = some (some (.ref a))) (hj : σ[j]? = some (some (.ref g))) (hk : σ[k]? = some (some bv)) (pl : PlayAt K CR CPl H a (ns.getD 0 "") over m) (gp : GamP K H g ns bs over) (ok : GamOk ns bs over) (tb : Td K H bv (blkD bk)) (okb : BOk bk) (hp : m.Perm (memOf ns (bs.set 0 bk))) :
    EvB F0 (tTest (tCall (spRight K CR CPl) [] E (tCons (tVar i) (tCons (tVar j) (tCons (tVar k) tNil))))) σ H true := fun H1 e Q q =>
  ⟨.ref a, hi, .ref g, hj, bv, hk, a, g, bv, ns, bs, over, m, bk, rfl, pl.same e.same, gp.same e.same, ok, ⟨tb.same e.same, okb⟩, hp, fun H2 e2 => ⟨true, rfl, q _ _ (.of0 e2) rfl⟩⟩
theorem drop_go {rest : TS} {D : Ends} (h : te σ H fun _ H1 => rest D σ H1) : tSeq (tDrop te) rest D σ H := h
theorem pk_zero (rows : List (List Int × Nat)) : pkOf (rows.map fun r => (r.1, 0)) = fun _ => 0 := funext fun p => by
  unfold pkOf
  rw [List.find?_map]
  cases rows.find? _ <;> rfl
theorem cho_zero {b : List Oh.T} (h : ∀ r ∈ bLst [] 0 b, r.2.isOpn = true → r.2.kids.length = 1) : ChoB b ((opL (bLst [] 0 b)).map fun r => (r.1, 0)) := by
  refine cho_of (List.Perm.refl _) ?_
  have : ∀ x ∈ opL (bLst [] 0 b), x.2 = 1 := fun x hx => by
    obtain ⟨r, h1, h2, rfl⟩ := opL_mem hx
    exact h r h1 h2
  generalize opL (bLst [] 0 b) = rows at this
  induction rows with
  | nil => exact .nil
  | cons r rows ih => exact .cons ⟨rfl, by rw [this r (List.mem_cons_self ..)]; exact Nat.zero_lt_one⟩ (ih fun x hx => this x (List.mem_cons_of_mem _ hx))
theorem g_extN (g : (Fp A L Pt).G H) (e : ExtN H H') (t : Tabs [(Pt, lamQ)] H') : (Fp A L Pt).G H' := by
  obtain ⟨⟨ns, i, v, l, sm, tn, h1, h2, h3⟩, _⟩ := g
  exact ⟨⟨ns, i, v, l, sm, tn, e _ _ h1 (fun _ z => by cases z), e _ _ h2 (fun _ z => by cases z), h3⟩, t⟩
theorem sc_law : FnScope ["_law_script", "_law_pot_here", "_law_game_here", "_law_play_here", "_law_lines_here", "_law_answers_here", "_law_turn", "_law_picks_here", "_law_passed", "_law_block", "_law_told", "_law_again", "_law_line"] ["_law_script"] (fnScope s_law) := ⟨rfl, rfl, rfl, by decide +kernel, rfl, by decide +kernel, by decide +kernel⟩
theorem run_law (T : Tx w K mg) (R : Rx w K mg CR) (PX : Px w K mg CPl) (NP : NeC K CPl) {cc Pt : Addr} (D : HasC K mg "with_picks" s_with_picks cc) (TB : TabB base mg cc Pt)
    (f : Addr) (cdv : Value) (Ar : Around) (outer : List PySem.Env) (s : Shared) (H : Hp) (vs : List V) (Q : VK) (E : XK) (hr : Room 70 (Ar.deeper (envOfC "law" (fnScope s_law) s.heap.objs.size f cdv))) (h : spLaw K Pt vs H Q E) :
    ∃ t, PSs (cxOf C8.CX0 P w K mg base ["_law_script", "_law_pot_here", "_law_game_here", "_law_play_here", "_law_lines_here", "_law_answers_here", "_law_turn", "_law_picks_here", "_law_passed", "_law_block", "_law_told", "_law_again", "_law_line"] "law" (fnScope s_law) f cdv Ar outer s H E).nox (fnBody s_law) t ∧
      t { nx := fun _ H' => Q .non H', rt := Q } (L2.start ["_law_script", "_law_pot_here", "_law_game_here", "_law_play_here", "_law_lines_here", "_law_answers_here", "_law_turn", "_law_picks_here", "_law_passed", "_law_block", "_law_told", "_law_again", "_law_line"] vs) H := by
  have c_law_pot := c_law_pot (P := P) (base := base) T
  have c_law_draw := c_law_draw (P := P) (base := base) (Pt := Pt) T
  have c_law_game := c_law_game (P := P) (base := base) (Pt := Pt) T
  have c_law_play := c_law_play (P := P) (base := base) T R PX
  have c_law_lines := c_law_lines (P := P) (base := base) T 12
  have c_law_picks := c_law_picks (P := P) (base := base) (Pt := Pt) T
  have c_law_kept := c_law_kept (P := P) (base := base) T 12
  have c_law_kept_of := c_law_kept_of (P := P) (base := base) T
  have c_law_right := c_law_right (P := P) (base := base) T R PX
  have c_fixed_play := c_fixed_play (P := P) (base := base) T R PX D TB
  have M_peq := t_peq (P := P) (base := base) T R PX
  obtain ⟨sc, zs, rfl, hsq, hl63, hPt, hQ⟩ := h
  refine ⟨_, (pss_cons (ps_set (i := 1) sc_law.nd rfl (Or.inl rfl) (pe_c c_law_pot hr (by omega) rfl (pa_cons (pv 0) pa_nil)))
    (pss_cons (ps_set (i := 2) sc_law.nd rfl (Or.inl rfl) (pe_c c_law_game hr (by omega) rfl (pa_cons (pv 1) pa_nil)))
    (pss_cons (ps_set (i := 3) sc_law.nd rfl (Or.inl rfl) (pe_c c_law_play hr (by omega) rfl (pa_cons (pv 2) (pa_cons (pe_cmpR op_eq (pe_c c_law_draw hr (by omega) rfl (pa_cons (pv 1) (pa_cons pe_int pa_nil))) pe_int (nomark _)) pa_nil))))
    (pss_cons (ps_set (i := 4) sc_law.nd rfl (Or.inl rfl) (pe_c c_law_lines hr (by omega) rfl (pa_cons (pe_ix (r := rIxL K) ix_list (pe_ix (r := rIxL K) ix_list (pv 2) pe_int (fun _ _ => rfl)) pe_int (fun _ _ => rfl)) (pa_cons (pe_tup pa_nil) pa_nil))))
    (pss_cons (ps_set (i := 5) sc_law.nd rfl (Or.inl rfl) (pe_lst pa_nil))
    (pss_cons (ps_for PassesOwn.never rfl (pi_range1 rfl T.z_range (pa_cons pe_int pa_nil)) (pg_name (i := 6) sc_law.nd rfl (Or.inl rfl))
      (pss_cons (ps_set (i := 7) sc_law.nd rfl (Or.inl rfl) (pe_c c_law_picks hr (by omega) rfl (pa_cons (pv 1) (pa_cons (pv 4) pa_nil))))
      (pss_cons (ps_set (i := 8) sc_law.nd rfl (Or.inl rfl) (pe_callTy (call_dictT (hu2 hr)) rfl T.z_dict (by decide +kernel) (pa_cons (pv 7) pa_nil)))
      (pss_cons (ps_set (i := 9) sc_law.nd rfl (Or.inl rfl) (pe_c c_law_kept hr (by omega) rfl (pa_cons (pe_ix (r := rIxL K) ix_list (pe_ix (r := rIxL K) ix_list (pv 2) pe_int (fun _ _ => rfl)) pe_int (fun _ _ => rfl)) (pa_cons (pe_tup pa_nil) (pa_cons (pe_c c_law_kept_of hr (by omega) rfl (pa_cons (pv 7) pa_nil)) pa_nil)))))
      (pss_cons (ps_set (i := 10) sc_law.nd rfl (Or.inl rfl) (pe_c c_fixed_play hr (by omega) rfl (pa_cons (pv 3) (pa_cons (pv 8) pa_nil))))
      (pss_cons (ps_if (PW.pt (pw_or (pt_cmpR (op_neT (hu1 hr)) (pv 8) (pv 7) (nomark _)) (pw_or1 (pt_not (pt_val (pe_c c_law_right hr (by omega) rfl (pa_cons (pv 10) (pa_cons (pv 2) (pa_cons (pv 9) pa_nil)))))))))
        (pss_one (ps_ret pe_bl))
        pss_nil)
      (pss_cons (ps_expr (pe_bm0 PySem.F.plainAttrs_dict PySem.F.slot_dict_clear PySem.F.type_dict_clear mt_clearT (pv 8)))
      (pss_cons (ps_expr (pe_bm PySem.F.plainAttrs_list PySem.F.slot_list_append PySem.F.type_list_append mt_append (pv 5) (pa_cons (pe_tup (pa_cons (pv 10) (pa_cons (pv 9) pa_nil))) pa_nil)))
      (pss_cons (ps_set (i := 11) sc_law.nd rfl (Or.inl rfl) pe_dnewT)
      (pss_cons (ps_for PassesOwn.never rfl (pi_list (pe_c c_law_lines hr (by omega) rfl (pa_cons (pv 9) (pa_cons (pe_tup pa_nil) pa_nil)))) (pg_name (i := 12) sc_law.nd rfl (Or.inl rfl))
        (pss_cons (ps_if (pt_cmpR op_ne (pe_ix (r := rIxT K) ix_tup (pv 12) pe_int (fun _ _ => rfl)) pe_int (nomark _))
          (pss_one (ps_ret pe_bl))
          pss_nil)
        (pss_one (ps_dput (hu1 hr) (pv 11) (pe_ix (r := rIxT K) ix_tup (pv 12) pe_int (fun _ _ => rfl)) pe_int rfl))))
      (pss_one (ps_if (PW.pt (pw_or (pt_not (pt_val (pe_c c_law_right hr (by omega) rfl (pa_cons (pe_c c_fixed_play hr (by omega) rfl (pa_cons (pv 10) (pa_cons (pv 11) pa_nil))) (pa_cons (pv 2) (pa_cons (pv 9) pa_nil)))))) (pw_or1 (pt_cmpR (op_neG M_peq NP hr (by omega)) (pv 10) (pe_c c_fixed_play hr (by omega) rfl (pa_cons (pv 10) (pa_cons (pv 11) pa_nil))) (nomark _)))))
        (pss_one (ps_ret pe_bl))
        pss_nil))))))))))))
    (pss_cons (ps_for PassesOwn.never rfl (pi_list (pv 5)) (pg_tup rfl (pgs_cons (pg_name (i := 10) sc_law.nd rfl (Or.inl rfl)) (pgs_cons (pg_name (i := 9) sc_law.nd rfl (Or.inl rfl)) pgs_nil)))
      (pss_one (ps_if (pt_not (pt_val (pe_c c_law_right hr (by omega) rfl (pa_cons (pv 10) (pa_cons (pv 2) (pa_cons (pv 9) pa_nil))))))
        (pss_one (ps_ret pe_bl))
        pss_nil)))
    (pss_one (ps_ret (pe_c c_law_right hr (by omega) rfl (pa_cons (pv 3) (pa_cons (pv 2) (pa_cons (pe_ix (r := rIxL K) ix_list (pe_ix (r := rIxL K) ix_list (pv 2) pe_int (fun _ _ => rfl)) pe_int (fun _ _ => rfl)) pa_nil))))))))))))), ?_⟩
  -- the pot
  refine asg_go ⟨_, rfl, sc, zs, rfl, hsq, hl63, fun A L H1 e1 hA pot1 => ?_⟩
  have tabs1 : Tabs [(Pt, lamQ)] H1 := tabs_of (e1 _ _ hPt)
  have g1 : (Fp A L Pt).G H1 := ⟨pot1, tabs1⟩
  -- the game
  refine asg_go ⟨_, rfl, A, L, rfl, g1, fun gm ns bs over H2 e2 ga ok => ?_⟩
  have g2 := e2.good
  have okg := ok.gam
  -- the play
  refine asg_go ⟨_, rfl, _, rfl, A, L, 2, rfl, g2, ⟨by decide, by decide⟩, fun rr H3 e3 hrr => ⟨rfl, gm, ns, bs, over, _, rfl, (ga.st g2 e3).gam, okg, fun a m H4 e4 ha pl hperm => ?_⟩⟩
  have g3 := e3.good
  have g4 : (Fp A L Pt).G H4 := (Fp A L Pt).ext _ _ g3 e4
  have ga4 : GameAt (Fp A L Pt) K H4 gm ns bs over := (ga.st g2 e3).st g3 (.of g3 e4)
  obtain ⟨n, b, r, ov, xs, hgm4, hn4, ⟨hb4, hxs4⟩, hov4, sgm, sn, sb⟩ := ga4.ex
  have hl := ok.len
  have h2 := ok.ge
  have h3 := ok.le
  obtain ⟨b0, hb0⟩ : ∃ b0, bs[0]? = some b0 := ⟨_, List.getElem?_eq_getElem (by omega)⟩
  have okb0 : BOk b0 := ok.bk b0 (List.mem_of_getElem? hb0)
  obtain ⟨hb8, hop⟩ := ok.own b0 hb0
  obtain ⟨v0, hv0, _⟩ := hxs4.get (i := 0) (d := blkD b0) (by rw [List.getElem?_map, hb0]; rfl)
  have tdv0 : ∀ {H : Hp}, TdA K H xs (bs.map blkD) → Td K H v0 (blkD b0) := fun h => by
    obtain ⟨v, hv, tv⟩ := h.get (i := 0) (d := blkD b0) (by rw [List.getElem?_map, hb0]; rfl)
    rw [hv0] at hv
    cases hv
    exact tv
  have bnd : ∀ {b : List Oh.T}, BOk b → (∀ t ∈ b, ∃ lp, Oh.T.Ok lp t) ∧ bHt b + 1 ≤ 12 ∧ bCnt b ≤ 6000 ∧ b.length ≤ 12 := fun o => ⟨fun t ht => ⟨_, o.all t ht⟩, by have := o.ht; omega, o.cnt, o.len⟩
  have A0 : atI (V.ref n :: .ref b :: ov :: [V.ref r]) 0 = some (.ref n) := atI_nat (j := 0) rfl
  -- the lines
  refine asg_go ⟨_, rfl, gm, _, 1, .ref b, rfl, rfl, .of hgm4, atI_1, b, xs, 0, v0, rfl, rfl, .of hb4, atI_nat (j := 0) hv0, (show 0 ≤ sizeLine by decide), fun t0 ht0 => ?_⟩
  have en0 := same_new (o := .tup []) ht0
  refine ⟨v0, b0, .ref t0, [], rfl, (bnd okb0).1, ⟨(bnd okb0).2.1, okb0.cnt⟩, (tdv0 hxs4).same en0, ⟨.tup (.of upd_same) .nil, by decide⟩, fun l xsl H5 hl5 e5 hl5' hrows5 => ?_⟩
  have e45 := en0.trans e5
  have l4 := fresh_back en0 hl5
  generalize hrw : opL (bLst [] 0 b0) = rows at hrows5
  have hrnd : (rows.map (·.1)).Nodup := hrw ▸ opL_nodup b0
  have hrlen : rows.length ≤ 6000 := by
    have := opL_len (bLst [] 0 b0)
    rw [bLst_len, hrw] at this
    have := okb0.cnt
    omega
  have hrcnt : ∀ x ∈ rows, 1 ≤ x.2 ∧ x.2 ≤ 4 := fun x hx => by
    rw [← hrw] at hx
    obtain ⟨rr, h1, h2, rfl⟩ := opL_mem hx
    exact row_cnt okb0 h1 h2
  have bas5 : Bas K CR CPl A L Pt gm n b r ov xs ns bs over a m l xsl rows H5 := ⟨(Fp A L Pt).ext _ _ g4 e45, e45 _ _ hgm4, e45 _ _ hn4, e45 _ _ hb4, hxs4.same e45, hov4.same e45, pl.same e45, hl5', hrows5⟩
  have spl : ¬ (Fp A L Pt).sp l := Fm.nosp g4 l4
  have nl : l ≠ gm ∧ l ≠ n ∧ l ≠ b := ⟨(fun z => by rw [z, hgm4] at l4; cases l4), (fun z => by rw [z, hn4] at l4; cases l4), fun z => by rw [z, hb4] at l4; cases l4⟩
  -- the answers
  refine asg_go ⟨(show 0 ≤ sizeLine by decide), fun q hq => ?_⟩
  have enq := same_new (o := .lst []) hq
  have bas6 := bas5.same enq
  have spq : ¬ (Fp A L Pt).sp q := Fm.nosp bas5.g hq
  have nq : ∀ x, x = gm ∨ x = n ∨ x = b ∨ x = l → x ≠ q := fun x hx z => by
    subst z
    rcases hx with rfl | rfl | rfl | rfl
    · rw [bas5.gm] at hq; cases hq
    · rw [bas5.n] at hq; cases hq
    · rw [bas5.b] at hq; cases hq
    · rw [bas5.l] at hq; cases hq
  let BF : Hp → Prop := fun H => Bas K CR CPl A L Pt gm n b r ov xs ns bs over a m l xsl rows H
  let AO : Hp → V → Prop := fun H x => AnsOk K CR CPl ns bs over H x
  have hown : ∀ {bs' : List (List Oh.T)} {c : List Oh.T} {m' : Mem}, ns.length = bs'.length → bs'[0]? = some c → m'.Perm (memOf ns bs') → (ns.getD 0 "", c) ∈ m' := fun {bs' c m'} hl' hc hp => hp.mem_iff.mpr (List.mem_of_getElem? (i := 0) (by
    have h1 : ns[0]? = some ns[0] := List.getElem?_eq_getElem (by omega)
    unfold memOf
    rw [List.getElem?_zip_eq_some]
    exact ⟨by rw [List.getD_eq_getElem?_getD, h1]; rfl, hc⟩))
  have setp : ∀ {bs' : List (List Oh.T)} {c : List Oh.T} {m' : Mem}, ns.length = bs'.length → m'.Perm (memOf ns bs') → (setM (ns.getD 0 "") c m').Perm (memOf ns (bs'.set 0 c)) := fun {bs' c m'} hl' hp => by
    rw [← setM_memOf (bk := c) okg.nd (by omega) hl']
    exact hp.map _
  let LS : Nat → L2.St → Hp → Prop := fun i σ H => BF H ∧ ∃ as s6 s7 s8 s9 s10 s11 s12, σ = [some (.ref sc), some (.ref A), some (.ref gm), some (.ref a), some (.ref l), some (.ref q), s6, s7, s8, s9, s10, s11, s12] ∧ H q = some (.lst as) ∧ (∀ x ∈ as, AO H x) ∧ as.length ≤ i
  refine ⟨3, rfl, by decide, by decide, for_it walk_range LS ⟨bas6, [], _, _, _, _, _, _, _, rfl, upd_same, (fun x hx => by cases hx), Nat.le_refl _⟩ (fun i σ H _ _ => trivial) ?_ ?_⟩
  · rintro i x σ _ H6 hi ⟨bas, as, s6, s7, s8, s9, s10, s11, s12, rfl, hq6, has, hal⟩ ⟨rfl, _⟩
    have nsp : ∀ x, x = gm ∨ x = n ∨ x = b ∨ x = l → ¬ (Fp A L Pt).sp x := fun x hx => by
      rcases hx with rfl | rfl | rfl | rfl
      · exact sgm
      · exact sn
      · exact sb
      · exact spl
    -- the picks
    refine asg_go ⟨_, rfl, _, rfl, A, L, l, xsl, rows, rfl, bas.g, spl, bas.l, bas.rows, ⟨hrnd, hrlen, hrcnt⟩, fun d rs H7 e7 hd hd7 ⟨rs0, hp0, hc0⟩ => ?_⟩
    have cho : ChoB b0 rs := cho_of hp0 (hrw.symm ▸ hc0)
    have bas7 : BF H7 := bas.kx (.frame bas.g e7) e7.good fun x hx ys hy => e7.1 _ _ hy (nsp x hx)
    have has7 : ∀ x ∈ as, AO H7 x := fun x hx => (has x hx).kx (.frame bas.g e7)
    have hq7 := e7.1 _ _ hq6 spq
    have okbk : BOk (bEd (chP (pkOf rs)) [] 0 b0) := bEd_ok okb0 cho.ch
    have one := bEd_one okbk
    generalize hbk : bEd (chP (pkOf rs)) [] 0 b0 = bk at okbk one
    have hrl : rs.length ≤ 6000 := by
      have h1 := cho.fst.length_eq
      rw [List.length_map, List.length_map, hrw] at h1
      omega
    -- a copy
    have hash : ((pkv rs).map fun p => hT w P p.1).Nodup := by
      have := hash_nodup (w := w) (P := P) cho.nd fun p hp => by
        obtain ⟨x, hx, rfl⟩ := List.mem_map.mp (cho.fst.mem_iff.mp hp)
        obtain ⟨rr, h1, h2, rfl⟩ := opL_mem hx
        exact block_paths hb8 hop rr h1 h2
      unfold pkv
      rw [List.map_map]
      rw [List.map_map] at this
      exact this
    refine asg_go ⟨_, rfl, d, pkv rs, rfl, hd7, hash, fun d2 hd2 => ?_⟩
    have en8 := same_new (o := .dT (pkv rs)) hd2
    have spd2 : ¬ (Fp A L Pt).sp d2 := Fm.nosp bas7.g hd2
    have hd28 : upd H7 d2 (.dT (pkv rs)) d2 = some (.dT (pkv rs)) := upd_same
    generalize upd H7 d2 (.dT (pkv rs)) = H8 at en8 hd28
    have bas8 : BF H8 := bas7.same en8
    have hd8 := en8 _ _ hd7
    -- the block that is kept
    refine asg_go ⟨_, rfl, gm, _, 1, .ref b, rfl, rfl, .of bas8.gm, atI_1, b, xs, 0, v0, rfl, rfl, .of bas8.b, atI_nat (j := 0) hv0, (show 0 ≤ sizeLine by decide), fun t1 ht1 => ?_⟩
    have en9 := same_new (o := .tup []) ht1
    refine ⟨_, rfl, d, rs, rfl, en9 _ _ hd8, cho.nd, hrl, fun dk kvs H10 hdk e10 hdk10 hrows10 => ?_⟩
    have e810 := en9.trans e10
    have ht10 : Td K H10 (.ref t1) (.tuple (([] : List Int).map .int)) := (Td.tup (.of (e10 _ _ upd_same)) .nil)
    refine ⟨v0, b0, .ref t1, dk, kvs, pkOf rs, [], rfl, (bnd okb0).1, ⟨(bnd okb0).2.1, (bnd okb0).2.2.2⟩, tdv0 (bas8.td.same e810), ⟨ht10, by decide⟩, ⟨hdk10, fun rr hr ho => ?_⟩, fun bv H11 e11 tbv => ?_⟩
    · obtain ⟨g1, g2⟩ := cho.at_ rr hr ho
      obtain ⟨lk, g3, g4⟩ := hrows10 _ g1
      exact ⟨lk, g3, g4, g2⟩
    rw [hbk] at tbv
    have e811 := e810.trans e11
    have bas11 : BF H11 := bas8.same e811
    -- fixed_play
    refine asg_go ⟨_, rfl, _, rfl, a, ns.getD 0 "", over, m, b0, d2, pkv rs, pkOf rs, rfl, bas11.g.2, bas11.pl, hown hl hb0 hperm, e811 _ _ hd28, cho.picks.1, cho.picks.2, fun a' H12 e12 tabs12 pl12 => ?_⟩
    rw [hbk] at pl12
    have bas12 : BF H12 := bas11.kx (.extN e12) (g_extN bas11.g e12 tabs12) fun x hx ys hy => e12 _ _ hy fun _ z => by cases z
    have perm' := setp (c := bk) hl hperm
    have k1112 : KX K CR H11 H12 := .extN e12
    have hd12 := e12 _ _ (e811 _ _ hd8) fun _ z => by cases z
    have hd212 := e12 _ _ (e811 _ _ hd28) fun _ z => by cases z
    have tbv12 := tbv.tl k1112.tl
    refine skip_go (evb_is (et_or (evb_neT rfl rfl hd212 hd12) fun _ => et_not (evb_right rfl rfl rfl pl12 bas12.gam okg tbv12 okbk perm')) rfl) fun H13 e13 => ?_
    have bas13 : BF H13 := bas12.same e13
    have has13 : ∀ x ∈ as, AO H13 x := fun x hx => ((((has7 x hx).kx (.same en8)).kx (.same e811)).kx k1112).kx (.same e13)
    have hq13 := e13 _ _ (e12 _ _ (e811 _ _ (en8 _ _ hq7)) fun _ z => by cases z)
    have hd213 := e13 _ _ hd212
    have pl13 := pl12.same e13
    have tbv13 := tbv12.same e13
    -- cleared
    refine drop_go ⟨_, rfl, .inr (.inr (.inl ⟨rfl, .inr ⟨_, hd213⟩⟩)), d2, pkv rs, rfl, rfl, hd213, ?_⟩
    have k14 : KX K CR H13 (upd H13 d2 (.dT [])) := .clear hd213
    have g14 : (Fp A L Pt).G (upd H13 d2 (.dT [])) := (Fp A L Pt).chg _ _ _ _ bas13.g spd2 hd213 (.inr (.inr (.inl ⟨_, rfl⟩)))
    have l14 : ∀ x ys, H13 x = some (.lst ys) → upd H13 d2 (.dT []) x = some (.lst ys) := fun x ys hx => by
      rw [upd_ne fun z => by rw [z, hd213] at hx; cases hx]
      exact hx
    have bas14 : BF (upd H13 d2 (.dT [])) := bas13.kx k14 g14 fun x _ => l14 x
    have has14 : ∀ x ∈ as, AO (upd H13 d2 (.dT [])) x := fun x hx => (has13 x hx).kx k14
    have hq14 := l14 _ _ hq13
    have pl14 := pl13.kx k14
    have tbv14 := tbv13.tl k14.tl
    generalize upd H13 d2 (.dT []) = H14 at k14 g14 bas14 has14 hq14 pl14 tbv14
    -- kept
    refine drop_go ⟨_, rfl, .inl ⟨rfl, _, .of hq14⟩, _, rfl, _, rfl, (show 2 ≤ sizeLine by decide), fun c hc => ?_⟩
    have enc := same_new (o := .tup [.ref a', bv]) hc
    have hq14' := enc _ _ hq14
    refine ⟨q, as, .ref c, rfl, rfl, hq14', lt_sl (by omega), ?_⟩
    have k15 : KX K CR H14 (upd (upd H14 c (.tup [.ref a', bv])) q (.lst (as ++ [.ref c]))) := (KX.same enc).trans (.lst hq14')
    have g15 : (Fp A L Pt).G (upd (upd H14 c (.tup [.ref a', bv])) q (.lst (as ++ [.ref c]))) := (Fp A L Pt).chg _ _ _ _ ((Fp A L Pt).ext _ _ g14 enc) spq hq14' (.inl ⟨_, rfl⟩)
    have bas15 : BF (upd (upd H14 c (.tup [.ref a', bv])) q (.lst (as ++ [.ref c]))) := bas14.kx k15 g15 fun x hx ys hy => by rw [upd_ne (nq x hx)]; exact enc _ _ hy
    have hq15 : upd (upd H14 c (.tup [.ref a', bv])) q (.lst (as ++ [.ref c])) q = some (.lst (as ++ [.ref c])) := upd_same
    have pl15 := pl14.kx k15
    have tbv15 := tbv14.tl k15.tl
    have has15 : ∀ x ∈ as ++ [.ref c], AO (upd (upd H14 c (.tup [.ref a', bv])) q (.lst (as ++ [.ref c]))) x := fun x hx => by
      rcases List.mem_append.mp hx with hx | hx
      · exact (has14 x hx).kx k15
      · obtain rfl := List.mem_singleton.mp hx
        exact ⟨c, a', bv, _, bk, rfl, tup_upd hq14' _ _ upd_same, pl15, tbv15, okbk, perm'⟩
    generalize upd (upd H14 c (.tup [.ref a', bv])) q (.lst (as ++ [.ref c])) = H15 at k15 g15 bas15 hq15 pl15 tbv15 has15
    -- again
    refine asg_go fun d3 hd3 => ?_
    have en3 := same_new (o := .dT []) hd3
    refine ⟨_, rfl, (show 0 ≤ sizeLine by decide), fun t2 ht2 => ?_⟩
    have en4 := en3.trans (same_new (o := .tup []) ht2)
    refine ⟨bv, bk, .ref t2, [], rfl, (bnd okbk).1, ⟨(bnd okbk).2.1, okbk.cnt⟩, tbv15.same en4, ⟨.tup (.of upd_same) .nil, by decide⟩, fun l2 xs2 H17 hl2 e17 hl217 hrows2 => ?_⟩
    have e1517 := en4.trans e17
    have nt3 : t2 ≠ d3 := fun z => by rw [z, upd_same] at ht2; cases ht2
    have hd317 : H17 d3 = some (.dT []) := e17 _ _ (by rw [upd_ne nt3.symm]; exact upd_same)
    have nl2 : l2 ≠ d3 := fun z => by rw [z, hd317] at hl217; cases hl217
    have nd2 := opL_nodup bk
    have cz := cho_zero one
    have pz := pk_zero (opL (bLst [] 0 bk))
    have h12 : ∀ x ∈ opL (bLst [] 0 bk), x.2 = 1 := fun x hx => by
      obtain ⟨rr, h1, h2, rfl⟩ := opL_mem hx
      exact one rr h1 h2
    have hlen2 : (opL (bLst [] 0 bk)).length ≤ 6000 := by
      have := opL_len (bLst [] 0 bk)
      rw [bLst_len] at this
      have := okbk.cnt
      omega
    generalize hz : ((opL (bLst [] 0 bk)).map fun r => (r.1, 0) : List (List Int × Nat)) = zz at cz pz
    generalize opL (bLst [] 0 bk) = rows2 at hrows2 nd2 h12 hlen2 hz
    have hxl2 := Paired.length hrows2
    let LT : Nat → L2.St → Hp → Prop := fun j σ H => Same H15 H ∧ (∃ s12, σ = [some (.ref sc), some (.ref A), some (.ref gm), some (.ref a), some (.ref l), some (.ref q), some x, some (.ref d), some (.ref d2), some bv, some (.ref a'), some (.ref d3), s12]) ∧ H l2 = some (.lst xs2) ∧ Paired (RowL H) xs2 rows2 ∧ H d3 = some (.dT (pkv (zz.take j)))
    have hzt : ∀ {j : Nat} {r : List Int × Nat}, rows2[j]? = some r → zz[j]? = some (r.1, 0) := fun {j r} h => by
      rw [← hz, List.getElem?_map, h]
      rfl
    have hzl : zz.length = rows2.length := by rw [← hz, List.length_map]
    refine ⟨l2, rfl, ⟨_, .of hl217⟩, for_it (walk_list (xs := xs2)) LT ⟨e1517, ⟨_, rfl⟩, hl217, hrows2, by rw [List.take_zero]; exact hd317⟩ (fun j σ H _ z => .of z.2.2.1) ?_ ?_⟩
    · rintro j x σ _ H18 hj ⟨e18, ⟨s12, rfl⟩, hl218, hr18, hd318⟩ ⟨rfl, hxj⟩
      obtain ⟨r0, hr0, c0, pb, rfl, hc0', hpb⟩ := paired_get hr18 hxj
      have hr1 := h12 r0 (List.mem_of_getElem? hr0)
      obtain ⟨p0, k0⟩ := r0
      obtain rfl : k0 = 1 := hr1
      refine ⟨_, rfl, c0, _, 1, .int ((1 : Nat) : Int), rfl, rfl, .of hc0', atI_1, rfl, false, rfl, ?_⟩
      simp only [Bool.false_eq_true, ↓reduceIte]
      refine ⟨_, rfl, _, rfl, c0, _, 0, .ref pb, rfl, rfl, .of hc0', atI_nat (xs := [V.ref pb, V.int ((1 : Nat) : Int)]) (j := 0) rfl, d3, _, rfl, DPut.t (k := pK p0) hd318 (by rw [pK_kV]; exact hpb) (lt_sl (by unfold pkv; rw [List.length_map, List.length_take]; omega)), ?_⟩
      have hk : pK p0 ∉ (pkv (zz.take j)).map (·.1) := by
        rw [pkv_keys]
        intro hm
        obtain ⟨p, hp, hpe⟩ := List.mem_map.mp hm
        have hpe := pK_inj hpe
        subst hpe
        rw [List.map_take] at hp
        exact nodup_take cz.nd (show (zz.map (·.1))[j]? = some p by rw [List.getElem?_map, hzt hr0]; rfl) hp
      rw [putK_new _ (valV_no hk)]
      have tu : ∀ a xs, H18 a = some (.tup xs) → upd H18 d3 (.dT (pkv (zz.take j) ++ [(pK p0, .int 0)])) a = some (.tup xs) := fun a xs h => by
        rw [upd_ne fun z => by rw [z, hd318] at h; cases h]
        exact h
      refine ⟨Same.late e18 hd3, ⟨_, rfl⟩, by rw [upd_ne nl2]; exact hl218, Paired.mapP hr18 fun _ _ r => r.up tu, ?_⟩
      rw [upd_same, take_snoc (hzt hr0)]
      unfold pkv
      rw [List.map_append]
      rfl
    · rintro σ H18 ⟨e18, ⟨s12, rfl⟩, hl218, hr18, hd318⟩
      rw [hxl2, ← hzl, List.take_length] at hd318
      have bas18 : BF H18 := bas15.same e18
      have pl18 := pl15.same e18
      have tbv18 := tbv15.same e18
      have hl' : ns.length = (bs.set 0 bk).length := by rw [List.length_set]; exact hl
      have hbk0 : (bs.set 0 bk)[0]? = some bk := List.getElem?_set_self (by omega)
      have perm2 := setp (c := bk) hl' perm'
      rw [List.set_set] at perm2
      have ed : bEd (chP (pkOf zz)) [] 0 bk = bk := by rw [pz]; exact bEd_same one
      refine ⟨_, rfl, _, rfl, a', ns.getD 0 "", over, _, bk, d3, pkv zz, pkOf zz, rfl, bas18.g.2, pl18, hown hl' hbk0 perm', hd318, cz.picks.1, cz.picks.2, fun a2 H19 e19 tabs19 pl19 => ?_⟩
      rw [ed] at pl19
      have k19 : KX K CR H18 H19 := .extN e19
      have bas19 : BF H19 := bas18.kx k19 (g_extN bas18.g e19 tabs19) fun x hx ys hy => e19 _ _ hy fun _ z => by cases z
      have tbv19 := tbv18.tl k19.tl
      have pl19' := pl18.kx k19
      have hd319 := e19 _ _ hd318 fun _ z => by cases z
      refine ⟨_, rfl, _, rfl, a2, gm, bv, ns, bs, over, _, bk, rfl, pl19, bas19.gam, okg, ⟨tbv19, okbk⟩, perm2, fun H20 e20 => ⟨true, rfl, ?_⟩⟩
      simp only [Bool.not_true, Bool.false_eq_true, ↓reduceIte]
      have bas20 : BF H20 := bas19.same e20
      have pl20 := pl19'.same e20
      refine ⟨_, rfl, _, rfl, _, rfl, a', ns.getD 0 "", over, _, bk, d3, pkv zz, pkOf zz, rfl, bas20.g.2, pl20, hown hl' hbk0 perm', e20 _ _ hd319, cz.picks.1, cz.picks.2, fun a3 H21 e21 tabs21 pl21 => ?_⟩
      rw [ed] at pl21
      have k21 : KX K CR H20 H21 := .extN e21
      have bas21 : BF H21 := bas20.kx k21 (g_extN bas20.g e21 tabs21) fun x hx ys hy => e21 _ _ hy fun _ z => by cases z
      have pl20' := pl20.kx k21
      have hmm := mem_uniq (perm2.trans perm'.symm) pl20.ok.nd pl21.asc pl20.asc
      rw [hmm] at pl21
      obtain ⟨dx1, ov1, li1, t1', i1, rs1, z1, _⟩ := pl20'.ex
      obtain ⟨dx2, ov2, li2, t2', i2, rs2, z2, _⟩ := pl21.ex
      refine ⟨⟨a', a3, _, _, _, _, rfl, rfl, z1, z2, _, over, _, pl20', pl21⟩, fun H22 ext => ⟨false, rfl, ?_⟩⟩
      simp only [Bool.false_eq_true, ↓reduceIte]
      have e22 : Same H21 H22 := ext
      have k1522 : KX K CR H15 H22 := ((((KX.same e18).trans k19).trans (.same e20)).trans k21).trans (.same e22)
      refine ⟨bas21.same e22, _, _, _, _, _, _, _, _, rfl, e22 _ _ (e21 _ _ (e20 _ _ (e19 _ _ (e18 _ _ hq15) fun _ z => by cases z)) fun _ z => by cases z), fun x hx => (has15 x hx).kx k1522, by simp; omega⟩
  · rintro σ H6 ⟨bas, as, s6, s7, s8, s9, s10, s11, s12, rfl, hq6, has, hal⟩
    let LE : Nat → L2.St → Hp → Prop := fun i σ H => BF H ∧ H q = some (.lst as) ∧ (∀ x ∈ as, AO H x) ∧ ∃ s6 s7 s8 s9 s10 s11 s12, σ = [some (.ref sc), some (.ref A), some (.ref gm), some (.ref a), some (.ref l), some (.ref q), s6, s7, s8, s9, s10, s11, s12]
    refine ⟨_, rfl, q, rfl, ⟨as, .of hq6⟩, for_it (walk_list (xs := as)) LE ⟨bas, hq6, has, _, _, _, _, _, _, _, rfl⟩ (fun i σ H _ z => .of z.2.1) ?_ ?_⟩
    · rintro i x σ _ H7 hi ⟨bas, hq7, has, s6, s7, s8, s9, s10, s11, s12, rfl⟩ ⟨rfl, hxi⟩
      obtain ⟨c, a', bv, m', bk, rfl, h1, h2, h3, h4, h5⟩ := has x (List.mem_of_getElem? hxi)
      refine pair_into h1 ?_
      refine if_no (evb_is (et_not (evb_right rfl rfl rfl h2 bas.gam okg h3 h4 h5)) rfl) fun H8 e8 => ?_
      exact ⟨bas.same e8, e8 _ _ hq7, fun x hx => (has x hx).kx (.same e8), _, _, _, _, _, _, _, rfl⟩
    · rintro σ H7 ⟨bas, hq7, has, s6, s7, s8, s9, s10, s11, s12, rfl⟩
      have hset : bs.set 0 b0 = bs := by
        match bs, hb0 with
        | c :: cs, h => rw [show c = b0 from Option.some.inj h]; rfl
      exact ⟨_, rfl, _, rfl, _, rfl, gm, _, 1, .ref b, rfl, rfl, .of bas.gm, atI_1, b, xs, 0, v0, rfl, rfl, .of bas.b, atI_nat (j := 0) hv0, a, gm, v0, ns, bs, over, m, b0, rfl, bas.pl, bas.gam, okg, ⟨tdv0 bas.td, okb0⟩, by rw [hset]; exact hperm, fun H' _ => hQ H'⟩
end
end Oh
set_option maxHeartbeats 0
namespace Oh
open PySem PySem.Spec PyProof.Rows L2
open C8 (Cal Met Mak pe_c pe_mk pe_mt pe_mt0 pe_gc InsC call_isC tCut pss_cut fnBody fnArgs fnScope)
open LamX NdefX
/-! ### what the walk asks for -/
section
variable {w : World} {K : PySem.W.Frag} {h : Heap} {mg : Str → Option Value}
theorem SaysZ.parts (c : SaysZ w h K) : (∀ f ∈ emps, empB K (He.dflAt f 0 K) = true) ∧ He.tupB K "PAIRED" [.str "plus", .str "minus", .str "same", .str "less"] = true ∧ insB K (He.ga K "Routine") = true ∧ insB K (He.ga K "Play") = true ∧ neB K (He.ga K "Play") = true ∧ propB K = true := by
  have m := c.x.more
  unfold exZ at m
  simp only [Bool.and_eq_true] at m
  obtain ⟨m1, m2, m3, m4, m5, m6⟩ := m
  exact ⟨List.all_eq_true.mp m1, m2, m3, m4, m5, m6⟩
theorem SaysZ.emp (c : SaysZ w h K) (i : Nat) {f : Str × Option Str} (e : emps[i]? = some f) : empB K (He.dflAt f 0 K) = true := c.parts.1 f (List.mem_of_getElem? e)
theorem SaysZ.insR (c : SaysZ w h K) : insB K (He.ga K "Routine") = true := c.parts.2.2.1
theorem SaysZ.insP (c : SaysZ w h K) : insB K (He.ga K "Play") = true := c.parts.2.2.2.1
theorem emp_of {a : Addr} (e : empB K a = true) : Emp K a := by
  unfold empB at e
  cases q : K.lookup a with
  | none => rw [q] at e; cases e
  | some o =>
    obtain ⟨oc, od, dt, osl⟩ := o
    rw [q] at e
    cases oc with
    | type c =>
      cases dt with
      | seq its n =>
        obtain ⟨h1, h2⟩ := Bool.and_eq_true_iff.mp (show (decide (c = "tuple") && its.toList.isEmpty) = true from e)
        have h3 := List.isEmpty_iff.mp h2
        refine ⟨_, its, n, q, by rw [of_decide_eq_true h1], rfl, ?_, by rw [h3]; exact .nil⟩
        rw [← Array.length_toList, h3]
        exact Nat.zero_le _
      | _ => cases e
    | _ => cases dt <;> cases e
theorem int_of {x : Str} {i : Int} (e : ∃ t, mg x = some (.int i t)) : ∃ u, mg x = some u ∧ RelV (.int i) u := let ⟨t, h⟩ := e; ⟨_, h, t, rfl⟩
theorem str_of {x z : Str} (e : ∃ t, mg x = some (.str z t)) : ∃ u, mg x = some u ∧ RelV (.str z) u := let ⟨t, h⟩ := e; ⟨_, h, t, rfl⟩
theorem has_of {x : Str} {st : Stmt} {dvs : List V} {f : Addr} (e : ∃ fd, FunD K x x (fnArgs st) (fnBody st) (fnScope st) dvs [] f fd) (g : mg x = some (.ref f)) : Has K mg x st dvs := let ⟨fd, F⟩ := e; ⟨⟨f, fd, F, g⟩⟩
theorem hasM_of {C f : Addr} {m qual : Str} {st : Stmt} {dvs : List V} (cl : Cls K C) (me : Meth K C m f) (e : ∃ fd, FunD K m qual (fnArgs st) (fnBody st) (fnScope st) dvs [] f fd) : HasM K C m qual st dvs := let ⟨fd, F⟩ := e; ⟨⟨f, fd, cl, me, F⟩⟩
theorem hasI_of {C f : Addr} {x qual : Str} {st : Stmt} {dvs : List V} (mk : Mk K C f) (e : ∃ fd, FunD K "__init__" qual (fnArgs st) (fnBody st) (fnScope st) dvs [] f fd) (g : mg x = some (.ref C)) : HasI K mg x C qual st dvs := let ⟨fd, F⟩ := e; ⟨⟨f, fd, mk, F, g⟩⟩
theorem ins_of {C : Addr} (cl : Cls K C) (e : insB K C = true) : InsC K C := by
  unfold insB at e
  simp only [Bool.and_eq_true] at e
  obtain ⟨h1, h2, h3, h4, h5⟩ := e
  exact ⟨cl, He.eqO_ok h1, He.eqO_ok h2, of_decide_eq_true h3, of_decide_eq_true h4, of_decide_eq_true h5⟩
theorem ne_of (c : SaysZ w h K) : NeC K (He.ga K "Play") := by
  have e := c.parts.2.2.2.2.1
  unfold neB at e
  simp only [Bool.and_eq_true] at e
  exact ⟨He.eqO_ok e.1, of_decide_eq_true e.2⟩
theorem pair_of (c : SaysZ w h K) : SqK K (He.ga K "PAIRED") [.str "plus", .str "minus", .str "same", .str "less"] := by
  rcases He.tupB_ok c.parts.2.1 (fun _ => none) with h | h
  · rcases h with h | ⟨o, h⟩ <;> cases h
  · obtain ⟨o, its, n, h1, h2, h3, h4, h5⟩ := h
    exact ⟨o, its, n, h1, h2, h3, h4, h5⟩
theorem keys_no {P : Params} {z : Str} : ∀ {l : List DictEntry} {ks : List Str}, l.map He.keyOf = He.keysIn P ks → ks.contains z = false → l.find? (·.key.isStr z) = none ∧ l.any (·.refKey) = false
  | [], _, _, _ => ⟨rfl, rfl⟩
  | e :: l, [], h, _ => by cases h
  | e :: l, k :: ks, h, hz => by
    obtain ⟨h1, h2⟩ := List.cons.inj (show He.keyOf e :: l.map He.keyOf = some (k, PyData.keyHash P k) :: He.keysIn P ks from h)
    rw [List.contains_cons, Bool.or_eq_false_iff] at hz
    obtain ⟨i1, i2⟩ := keys_no h2 hz.2
    unfold He.keyOf at h1
    cases q : e.key with
    | str x t =>
      rw [q] at h1
      have hx : x = k := congrArg Prod.fst (Option.some.inj h1)
      subst hx
      have e1 : e.key.isStr z = false := by
        rw [q]
        show (x == z) = false
        have := hz.1
        rw [Bool.eq_false_iff] at this ⊢
        intro hh
        exact this (by rw [eq_of_beq hh]; exact beq_self_eq_true _)
      refine ⟨by rw [List.find?_cons, e1]; exact i1, ?_⟩
      rw [List.any_cons, i2]
      have : e.refKey = false := by
        unfold DictEntry.refKey
        rw [q]
      rw [this]
      rfl
    | _ => rw [q] at h1; cases h1
theorem kept_of (KX : K.In h) (c : SaysZ w h K) : ∀ z : Str, keptS.contains z = false → PySem.W.nsIn K (He.ga K "KEPT_WORDS") z = some none := fun z hz => by
  have e : He.dicW K (He.ga K "KEPT_WORDS") = some (He.keysIn w.params keptS) := (List.cons.inj (show [He.dicW K (He.ga K "KEPT_WORDS")] = [some (He.keysIn w.params keptS)] from congrArg (fun z : He.AlT => z.2) c.x.t)).1
  unfold He.dicW at e
  unfold PySem.W.nsIn
  cases q : K.lookup (He.ga K "KEPT_WORDS") with
  | none => rw [q] at e; cases e
  | some o =>
    obtain ⟨oc, od, dt, osl⟩ := o
    rw [q] at e
    cases oc with
    | type t =>
      cases od with
      | none =>
        cases dt with
        | dict es n =>
          have e2 : (match decide (t = "dict") && (osl.isEmpty && !(He.ga K "KEPT_WORDS" == sysModules)) with
            | true => some (es.toList.map He.keyOf)
            | false => none) = some (He.keysIn w.params keptS) := e
          split at e2
          · obtain ⟨h1, h2⟩ := keys_no (Option.some.inj e2) hz
            show (match es.toList.find? (·.key.isStr z) with
              | some e => some (some e.val)
              | none => if es.toList.any (·.refKey) then none else some none) = some none
            rw [h1, h2]
            rfl
          · cases e2
        | _ => cases e
      | some _ => cases dt <;> cases e
    | _ => cases od <;> cases dt <;> cases e
theorem prop_of (c : SaysZ w h K) : ∃ p g fd, PropOf K (He.ga K "Play") "routines" p g ∧ FunD K "routines" "Play.routines" (fnArgs s_Play_routines) (fnBody s_Play_routines) (fnScope s_Play_routines) [] [] g fd := by
  have e := c.parts.2.2.2.2.2
  unfold propB at e
  simp only [Bool.and_eq_true] at e
  obtain ⟨h1, h2, h3, h4, kp, h5⟩ := e
  have er := c.rt
  unfold fnA at er
  have hrec : ∃ rest, PySem.W.recIn K (He.ma K (He.ga K "Play") "routines") "property" = some (.ref (gRt K) :: rest) := by
    unfold gRt
    split at h4
    · rename_i g rest hr
      rw [hr]
      exact ⟨rest, rfl⟩
    · cases h4
  refine ⟨He.ma K (He.ga K "Play") "routines", gRt K, ?_⟩
  cases q : K.lookup (gRt K) with
  | none => rw [q] at h5; cases h5
  | some o =>
    obtain ⟨oc, od, dt, osl⟩ := o
    rw [q] at h5 er
    cases dt with
    | func fd =>
      obtain ⟨n1, n2, n3, n4, n5, n6, n7, n8, n9, n10, n11, n12, n13, n14, n15⟩ := fd
      have e2 : (some (n1, n2, n3, n4, n5, n6, n7, n15) : He.FnW) = fnRt := er
      unfold fnRt at e2
      have e3 := Option.some.inj e2
      simp only [Prod.mk.injEq] at e3
      obtain ⟨g1, g2, g3, g4, g5, g6, g7, g8⟩ := e3
      subst g1 g2 g3 g4 g5 g6 g7 g8
      have c3 : (PySem.W.codeIn K n13 "Play.routines" && (He.dflB K n8 [] && He.kwdB K n9 [])) = true := by simpa using h5
      simp only [Bool.and_eq_true] at c3
      exact ⟨_, ⟨He.eqO_ok h1, He.eqO_ok h2, of_decide_eq_true h3, hrec⟩, ⟨⟨oc, od, n8, n9, n10, n11, n12, n13, n14, osl, rfl, q, c3.1, He.dflB_ok c3.2.1, He.kwdB_ok c3.2.2⟩, kp⟩⟩
    | _ => cases h5
theorem hasc {x : Str} {st : Stmt} (e : ∃ fd, FunD K x x (fnArgs st) (fnBody st) (fnScope st) [] [] (He.fAd K (x, none)) fd) (g : mg x = some (.ref (He.fAd K (x, none)))) : HasC K mg x st (He.cT K (x, none)).1 := by
  obtain ⟨fd, F⟩ := e
  obtain ⟨oc, od, dV, kV, doc, pm, an, cdv, ct, osl, rfl, lk, hcd, h4, h5⟩ := F.ex
  obtain ⟨c, rfl⟩ := He.codeIn_ref hcd
  have hc : (He.cT K (x, none)).1 = c := He.codeOf_eq lk rfl
  rw [hc]
  exact ⟨⟨_, oc, od, dV, kV, doc, pm, an, ct, osl, lk, hcd, F, g⟩⟩
end
theorem tx_of {w : World} {K : PySem.W.Frag} {h : Heap} {mg : Str → Option Value} (KX : K.In h) (G : h.Ns mainGlobals mg) (c : SaysZ w h K) : Tx w K mg where
  g_MOST_STATEMENTS := int_of (He.int_ok KX G (c.x.t.d.fact 0 rfl))
  g_MOST_DEPTH := int_of (He.int_ok KX G (c.x.t.d.fact 1 rfl))
  g_MOST_ROWS := int_of (He.int_ok KX G (c.x.t.d.fact 2 rfl))
  g_MOST_ROUTINES := int_of (He.int_ok KX G (c.x.t.d.fact 3 rfl))
  g_MOST_DEEP := int_of (He.int_ok KX G (c.x.t.d.fact 4 rfl))
  g_MOST_ALL := int_of (He.int_ok KX G (c.x.t.d.fact 5 rfl))
  g_MOST_LETTERS := int_of (He.int_ok KX G (c.x.t.d.fact 6 rfl))
  g_LETTERS := str_of (He.str_ok KX G (c.x.t.d.fact 7 rfl))
  g_KEPT_WORDS := ⟨_, c.x.t.tab 0 rfl, kept_of KX c, _, He.glo_ok KX G (c.x.t.d.fact 8 rfl), rfl⟩
  d_is_integer := has_of (c.x.t.d.def_ 0 rfl) (He.glo_ok KX G (c.x.t.d.fact 9 rfl))
  d_is_count := has_of (c.x.t.d.def_ 1 rfl) (He.glo_ok KX G (c.x.t.d.fact 10 rfl))
  d_is_digit := has_of (c.x.t.d.def_ 2 rfl) (He.glo_ok KX G (c.x.t.d.fact 11 rfl))
  d_is_index := has_of (c.x.t.d.def_ 3 rfl) (He.glo_ok KX G (c.x.t.d.fact 12 rfl))
  d_is_name := has_of (c.x.t.d.def_ 4 rfl) (He.glo_ok KX G (c.x.t.d.fact 13 rfl))
  d_is_tuple := has_of (c.x.t.d.def_ 5 rfl) (He.glo_ok KX G (c.x.t.d.fact 14 rfl))
  d_is_path := has_of (c.x.t.d.def_ 6 rfl) (He.glo_ok KX G (c.x.t.d.fact 15 rfl))
  d_is_port_tuple := has_of (c.x.t.d.def_ 7 rfl) (He.glo_ok KX G (c.x.t.d.fact 16 rfl))
  g_PAIRED := ⟨_, pair_of c, _, He.glo_ok KX G (c.x.t.d.fact 17 rfl), rfl⟩
  d_is_paired := has_of (c.x.t.d.def_ 8 rfl) (He.glo_ok KX G (c.x.t.d.fact 18 rfl))
  d_is_expression := has_of (c.x.t.d.def_ 9 rfl) (He.glo_ok KX G (c.x.t.d.fact 19 rfl))
  d_expression_names := has_of (c.x.t.d.def_ 10 rfl) (He.glo_ok KX G (c.x.t.d.fact 20 rfl))
  d_is_block_shape := has_of (c.x.t.d.def_ 11 rfl) (He.glo_ok KX G (c.x.t.d.fact 21 rfl))
  d_are_rows := has_of (c.x.t.d.def_ 12 rfl) (He.glo_ok KX G (c.x.t.d.fact 22 rfl))
  d_are_blocks := has_of (c.x.t.d.def_ 13 rfl) (He.glo_ok KX G (c.x.t.d.fact 23 rfl))
  d_is_dealing_shape := has_of (c.x.t.d.def_ 14 rfl) (He.glo_ok KX G (c.x.t.d.fact 24 rfl))
  d_is_if_shape := has_of (c.x.t.d.def_ 15 rfl) (He.glo_ok KX G (c.x.t.d.fact 25 rfl))
  d_is_statement := has_of (c.x.t.d.def_ 16 rfl) (He.glo_ok KX G (c.x.t.d.fact 26 rfl))
  d_blocks_of := has_of (c.x.t.d.def_ 17 rfl) (He.glo_ok KX G (c.x.t.d.fact 27 rfl))
  d_names_of := has_of (c.x.t.d.def_ 18 rfl) (He.glo_ok KX G (c.x.t.d.fact 28 rfl))
  d_ports_of := has_of (c.x.t.d.def_ 19 rfl) (He.glo_ok KX G (c.x.t.d.fact 29 rfl))
  d_listed := ⟨_, emp_of (c.emp 0 rfl), has_of (c.x.t.d.def_ 20 rfl) (He.glo_ok KX G (c.x.t.d.fact 30 rfl))⟩
  d_statement_table := has_of (c.x.t.d.def_ 21 rfl) (He.glo_ok KX G (c.x.t.d.fact 31 rfl))
  d_ascending := has_of (c.x.t.d.def_ 22 rfl) (He.glo_ok KX G (c.x.t.d.fact 32 rfl))
  d_block_names := has_of (c.x.t.d.def_ 23 rfl) (He.glo_ok KX G (c.x.t.d.fact 33 rfl))
  d_block_ports := has_of (c.x.t.d.def_ 24 rfl) (He.glo_ok KX G (c.x.t.d.fact 34 rfl))
  d_ways_of := has_of (c.x.t.d.def_ 25 rfl) (He.glo_ok KX G (c.x.t.d.fact 35 rfl))
  d_ways_through := has_of (c.x.t.d.def_ 26 rfl) (He.glo_ok KX G (c.x.t.d.fact 36 rfl))
  d_deals := has_of (c.x.t.d.def_ 27 rfl) (He.glo_ok KX G (c.x.t.d.fact 37 rfl))
  d_is_wrong := has_of (c.x.t.d.def_ 28 rfl) (He.glo_ok KX G (c.x.t.d.fact 38 rfl))
  d_first_wrong := ⟨_, emp_of (c.emp 1 rfl), has_of (c.x.t.d.def_ 29 rfl) (He.glo_ok KX G (c.x.t.d.fact 39 rfl))⟩
  d_statement_count := has_of (c.x.t.d.def_ 30 rfl) (He.glo_ok KX G (c.x.t.d.fact 40 rfl))
  d_check_top_block := has_of (c.x.t.d.def_ 31 rfl) (He.glo_ok KX G (c.x.t.d.fact 41 rfl))
  d_edited := has_of (c.x.t.d.def_ 36 rfl) (He.glo_ok KX G (c.x.t.d.fact 49 rfl))
  d_edited_block := has_of (c.x.t.d.def_ 37 rfl) (He.glo_ok KX G (c.x.t.d.fact 50 rfl))
  d_edited_statement := has_of (c.x.t.d.def_ 38 rfl) (He.glo_ok KX G (c.x.t.d.fact 51 rfl))
  d_edited_open := has_of (c.x.t.d.def_ 39 rfl) (He.glo_ok KX G (c.x.t.d.fact 52 rfl))
  d_edited_rows := has_of (c.x.t.d.def_ 40 rfl) (He.glo_ok KX G (c.x.t.d.fact 53 rfl))
  d_with_picks := has_of (c.x.t.d.def_ 41 rfl) (He.glo_ok KX G (c.x.t.d.fact 54 rfl))
  d_own_routine := has_of (c.x.t.d.def_ 42 rfl) (He.glo_ok KX G (c.x.t.d.fact 55 rfl))
  d_open_counts := has_of (c.x.t.d.def_ 43 rfl) (He.glo_ok KX G (c.x.t.d.fact 56 rfl))
  d_are_picks := has_of (c.x.t.d.def_ 44 rfl) (He.glo_ok KX G (c.x.t.d.fact 57 rfl))
  d_fixed_play := has_of (c.x.t.d.def_ 45 rfl) (He.glo_ok KX G (c.x.t.d.fact 58 rfl))
  g_LEAST_ROUTINES := int_of (He.int_ok KX G (c.x.t.d.fact 59 rfl))
  d_check_routines := has_of (c.x.t.d.def_ 46 rfl) (He.glo_ok KX G (c.x.t.d.fact 60 rfl))
  d_law_pot := has_of (c.x.t.d.def_ 50 rfl) (He.glo_ok KX G (c.x.t.d.fact 67 rfl))
  d_law_mixed := has_of (c.x.t.d.def_ 51 rfl) (He.glo_ok KX G (c.x.t.d.fact 68 rfl))
  d_law_draw := has_of (c.x.t.d.def_ 52 rfl) (He.glo_ok KX G (c.x.t.d.fact 69 rfl))
  d_law_digit := has_of (c.x.t.d.def_ 53 rfl) (He.glo_ok KX G (c.x.t.d.fact 70 rfl))
  d_law_word := has_of (c.x.t.d.def_ 54 rfl) (He.glo_ok KX G (c.x.t.d.fact 71 rfl))
  d_law_cast := has_of (c.x.t.d.def_ 55 rfl) (He.glo_ok KX G (c.x.t.d.fact 72 rfl))
  d_law_digits := has_of (c.x.t.d.def_ 56 rfl) (He.glo_ok KX G (c.x.t.d.fact 73 rfl))
  d_law_picked := has_of (c.x.t.d.def_ 57 rfl) (He.glo_ok KX G (c.x.t.d.fact 74 rfl))
  d_law_test := has_of (c.x.t.d.def_ 58 rfl) (He.glo_ok KX G (c.x.t.d.fact 75 rfl))
  d_law_answers := has_of (c.x.t.d.def_ 59 rfl) (He.glo_ok KX G (c.x.t.d.fact 76 rfl))
  d_law_guess := has_of (c.x.t.d.def_ 60 rfl) (He.glo_ok KX G (c.x.t.d.fact 77 rfl))
  d_law_keys := has_of (c.x.t.d.def_ 61 rfl) (He.glo_ok KX G (c.x.t.d.fact 78 rfl))
  d_law_hide := has_of (c.x.t.d.def_ 62 rfl) (He.glo_ok KX G (c.x.t.d.fact 79 rfl))
  d_law_switch := has_of (c.x.t.d.def_ 63 rfl) (He.glo_ok KX G (c.x.t.d.fact 80 rfl))
  d_law_count := has_of (c.x.t.d.def_ 64 rfl) (He.glo_ok KX G (c.x.t.d.fact 81 rfl))
  d_law_stuck := has_of (c.x.t.d.def_ 65 rfl) (He.glo_ok KX G (c.x.t.d.fact 82 rfl))
  d_law_echo := has_of (c.x.t.d.def_ 66 rfl) (He.glo_ok KX G (c.x.t.d.fact 83 rfl))
  d_law_others := has_of (c.x.t.d.def_ 67 rfl) (He.glo_ok KX G (c.x.t.d.fact 84 rfl))
  d_law_loop := has_of (c.x.t.d.def_ 68 rfl) (He.glo_ok KX G (c.x.t.d.fact 85 rfl))
  d_law_term := has_of (c.x.t.d.def_ 69 rfl) (He.glo_ok KX G (c.x.t.d.fact 86 rfl))
  d_law_deal := has_of (c.x.t.d.def_ 70 rfl) (He.glo_ok KX G (c.x.t.d.fact 87 rfl))
  d_law_free := has_of (c.x.t.d.def_ 71 rfl) (He.glo_ok KX G (c.x.t.d.fact 88 rfl))
  d_law_blocks := has_of (c.x.t.d.def_ 72 rfl) (He.glo_ok KX G (c.x.t.d.fact 89 rfl))
  d_law_game := has_of (c.x.t.d.def_ 73 rfl) (He.glo_ok KX G (c.x.t.d.fact 90 rfl))
  d_law_play := has_of (c.x.t.d.def_ 74 rfl) (He.glo_ok KX G (c.x.t.d.fact 91 rfl))
  d_law_lines := has_of (c.x.t.d.def_ 75 rfl) (He.glo_ok KX G (c.x.t.d.fact 92 rfl))
  d_law_kept := has_of (c.x.t.d.def_ 76 rfl) (He.glo_ok KX G (c.x.t.d.fact 93 rfl))
  d_law_right := has_of (c.x.t.d.def_ 77 rfl) (He.glo_ok KX G (c.x.t.d.fact 94 rfl))
  d_law_picks := has_of (c.x.t.d.def_ 78 rfl) (He.glo_ok KX G (c.x.t.d.fact 95 rfl))
  d_law_kept_of := has_of (c.x.t.d.def_ 79 rfl) (He.glo_ok KX G (c.x.t.d.fact 96 rfl))
  d_law := has_of (c.x.t.d.def_ 80 rfl) (He.glo_ok KX G (c.x.t.d.fact 97 rfl))
  z_isinstance := He.free_ok KX G (c.x.t.d.fact 107 rfl)
  z_len := He.free_ok KX G (c.x.t.d.fact 108 rfl)
  z_range := He.free_ok KX G (c.x.t.d.fact 109 rfl)
  z_enumerate := He.free_ok KX G (c.x.t.d.fact 110 rfl)
  z_zip := He.free_ok KX G (c.x.t.d.fact 111 rfl)
  z_sorted := He.free_ok KX G (c.x.t.d.fact 112 rfl)
  z_list := He.free_ok KX G (c.x.t.d.fact 113 rfl)
  z_tuple := He.free_ok KX G (c.x.t.d.fact 114 rfl)
  z_dict := He.free_ok KX G (c.x.t.d.fact 115 rfl)
  z_any := He.free_ok KX G (c.x.t.d.fact 116 rfl)
  z_int := He.free_ok KX G (c.x.t.d.fact 117 rfl)
  z_str := He.free_ok KX G (c.x.t.d.fact 118 rfl)
  z_bool := He.free_ok KX G (c.x.t.d.fact 119 rfl)
  z_max := He.free_ok KX G (c.x.t.d.fact 120 rfl)
  z_sum := He.free_ok KX G (c.x.t.d.fact 121 rfl)
theorem rx_of {w : World} {K : PySem.W.Frag} {h : Heap} {mg : Str → Option Value} (KX : K.In h) (G : h.Ns mainGlobals mg) (c : SaysZ w h K) : Rx w K mg (He.ga K "Routine") where
  ini := hasI_of (He.mkr_ok (c.x.t.d.fact 48 rfl)) (c.x.t.d.def_ 32 rfl) (He.glo_ok KX G (c.x.t.d.fact 46 rfl))
  d_eq := hasM_of (He.cls_ok (c.x.t.d.fact 47 rfl)) (He.meth_ok (c.x.t.d.fact 43 rfl)) (c.x.t.d.def_ 33 rfl)
  d_open := hasM_of (He.cls_ok (c.x.t.d.fact 47 rfl)) (He.meth_ok (c.x.t.d.fact 44 rfl)) (c.x.t.d.def_ 34 rfl)
  d_stm := hasM_of (He.cls_ok (c.x.t.d.fact 47 rfl)) (He.meth_ok (c.x.t.d.fact 45 rfl)) (c.x.t.d.def_ 35 rfl)
  g_cls := He.glo_ok KX G (c.x.t.d.fact 46 rfl)
  ins := ins_of (He.cls_ok (c.x.t.d.fact 47 rfl)) c.insR
  n_block := He.noat_ok (c.x.t.d.fact 98 rfl)
  n_table := He.noat_ok (c.x.t.d.fact 99 rfl)
  n_names := He.noat_ok (c.x.t.d.fact 100 rfl)
  n_ports := He.noat_ok (c.x.t.d.fact 101 rfl)
theorem px_of {w : World} {K : PySem.W.Frag} {h : Heap} {mg : Str → Option Value} (KX : K.In h) (G : h.Ns mainGlobals mg) (c : SaysZ w h K) : Px w K mg (He.ga K "Play") where
  ini := ⟨_, emp_of (c.emp 2 rfl), hasI_of (He.mkr_ok (c.x.t.d.fact 66 rfl)) (c.x.t.d.def_ 47 rfl) (He.glo_ok KX G (c.x.t.d.fact 64 rfl))⟩
  d_eq := hasM_of (He.cls_ok (c.x.t.d.fact 65 rfl)) (He.meth_ok (c.x.t.d.fact 63 rfl)) (c.x.t.d.def_ 49 rfl)
  d_with := hasM_of (He.cls_ok (c.x.t.d.fact 65 rfl)) (He.meth_ok (c.x.t.d.fact 62 rfl)) (c.x.t.d.def_ 48 rfl)
  d_rout := prop_of c
  g_cls := He.glo_ok KX G (c.x.t.d.fact 64 rfl)
  ins := ins_of (He.cls_ok (c.x.t.d.fact 65 rfl)) c.insP
  n_own := He.noat_ok (c.x.t.d.fact 102 rfl)
  n_over := He.noat_ok (c.x.t.d.fact 103 rfl)
  n_line := He.noat_ok (c.x.t.d.fact 104 rfl)
  n_members := He.noat_ok (c.x.t.d.fact 105 rfl)
  n_own_at := He.noat_ok (c.x.t.d.fact 106 rfl)
theorem hasc_of {w : World} {K : PySem.W.Frag} {h : Heap} {mg : Str → Option Value} (KX : K.In h) (G : h.Ns mainGlobals mg) (c : SaysZ w h K) : HasC K mg "with_picks" s_with_picks (He.cT K ("with_picks", none)).1 := hasc (c.x.t.d.def_ 41 rfl) (He.glo_ok KX G (c.x.t.d.fact 54 rfl))
end Oh
set_option maxHeartbeats 0
namespace Oh
open PySem PySem.Spec PyProof.Rows L2
open C8 (Cal Met Mak pe_c pe_mk pe_mt pe_mt0 pe_gc InsC call_isC tCut pss_cut fnBody fnArgs fnScope)
open LamX NdefX
theorem law_at {P : Program} {w : World} {K : PySem.W.Frag} {mg : Str → Option Value} {base : Heap} (T : Tx w K mg) (R : Rx w K mg (He.ga K "Routine")) (PX : Px w K mg (He.ga K "Play")) (NP : NeC K (He.ga K "Play")) {cc Pt fa : Addr} (D : HasC K mg "with_picks" s_with_picks cc) (hfa : mg "law" = some (.ref fa)) :
    ∃ fd : FuncData, (∀ (s : Shared) (u : Value), BindsTo s fd ⟨[u], []⟩ [("_law_script", u)]) ∧ ∀ base : Heap, TabB base mg cc Pt → FnOk P w K mg base C8.CX0 71 fa fd ["_law_script"] (spLaw K Pt) := by
  obtain ⟨f, fd, F, hm⟩ := T.d_law.ex
  rw [hfa] at hm
  cases hm
  have b := FunD.bindsA (ps := ["_law_script"]) F fun _ _ _ _ _ _ us hl => match us, hl with | [_], _ => rfl
  refine ⟨fd, fun s u => b s [u] rfl, fun base TB => F.ok sc_law (by rintro vs H Q E ⟨a, ns, rfl, _⟩; rfl) fun cdv A outer s H vs Q E hr hsp => ?_⟩
  obtain ⟨t, h1, h2⟩ := run_law T R PX NP D TB fa cdv A outer s H vs Q E hr hsp
  exact ⟨t, h1.nox, h2⟩
end Oh
open PySem PySem.W PySem.Calls PyProof.Rows
set_option maxRecDepth 100000 in
set_option maxHeartbeats 0 in
theorem PySem.Challenge.cw_onlyheard_k91_fixed_play_edits_holds : PySem.Challenge.rw_onlyheard_k91_fixed_play_edits.Holds := by
  w_on; o_law
  refine HandSHeadRun.head_any (r := OpenLaw.row PySem.Challenge.rw_onlyheard_k91_fixed_play_edits) (q := view (OpenLaw.row PySem.Challenge.rw_onlyheard_k91_fixed_play_edits).prog [104]) (H := Oh.hookZ) (ob := Oh.ob) (M := 12000) (loose := Oh.nms) (d := HandSHeadRun.topDef (OpenLaw.row PySem.Challenge.rw_onlyheard_k91_fixed_play_edits).prog 104) (kwd := []) Oh.ob_eq
    (by kernel_rfl) (fun s => by kernel_rfl) Oh.run (by kernel_rfl) (by kernel_rfl) (by kernel_rfl) (by rfl) (by first | assumption | decide +kernel) (by decide +kernel) ⟨rfl, rfl, rfl, rfl, rfl, by decide +kernel⟩ ?hw ?hc
  case hw => w_witness2
  case hc =>
    refine LamX.walk_ofTsE (l := PySem.Challenge.rw_onlyheard_k91_fixed_play_edits) (n := 63) (k := 71) (x := "_law_script") (CX := fun _ => C8.CX0) rfl (by decide) (by kernel_rfl) ⟨rfl, by decide, by decide⟩ ?F (fun _ _ _ _ _ z => z)
    intro w mg fa h Y G hmg0
    obtain ⟨K, KX, c⟩ := Y
    have hmg : mg ("law" : PySem.Str) = some (.ref fa) := by
      have e : (HandSHeadRun.topDef (OpenLaw.row PySem.Challenge.rw_onlyheard_k91_fixed_play_edits).prog 104).name = ("law" : PySem.Str) := by kernel_rfl
      rw [← e]
      exact hmg0
    have hm1 : (("with_picks", none) : He.Defn) ∈ Oh.tf := List.mem_singleton.mpr rfl
    obtain ⟨fd, hb, hF⟩ := Oh.law_at (P := (PySem.Challenge.rw_onlyheard_k91_fixed_play_edits).prog) (base := h) (Oh.tx_of KX G c) (Oh.rx_of KX G c) (Oh.px_of KX G c) (Oh.ne_of c) (Pt := (He.cT K ("with_picks", none)).2) (Oh.hasc_of KX G c) hmg
    refine ⟨K, KX, fd, [He.cT K ("with_picks", none)], Oh.spLaw K (He.cT K ("with_picks", none)).2, fun p hp => ?_, fun p hp => ?_, fun p hp => ?_, hb, fun H a ns hl _ hT hS => ⟨a, ns, rfl, hS, hl, hT _ (List.mem_singleton.mpr rfl), fun _ => rfl⟩, fun base _ _ hTB => hF base (hTB _ (List.mem_singleton.mpr rfl))⟩
    · obtain rfl := List.mem_singleton.mp hp
      exact c.x.empty _ hm1
    · obtain rfl := List.mem_singleton.mp hp
      exact c.x.out _ hm1
    · obtain rfl := List.mem_singleton.mp hp
      exact PySem.W.codeHd_of_K KX (c.x.hd _ hm1)
