import PyProof.Rows.All
import Wide.All
import OpenK.AllK
import Wide.FinOn
import KE.KStateDown
import HandS.ForMost
import HandS.Defaults
import HandS.MakeKwOnly
import HandS.Property
import HandS.DictComp
import HandS.SetKeys
import HandS.SortRule
import HandS.SortInts
import HandS.NoneIn
import HandS.Style
import HandS.More
import HandS.Sort
import HandS.Flow
import PySem.Challenge.RW_risingbars_k77_whole_bounds_of_changes
import HandS.Strs
import HandS.SortKw
import KE.DataMinMax
import HandS.Lambda
import HandS.DictTup
import HandS.Slots
import KE.KMinBuiltin
import KE.KDictCopyH
import HandS.Text
import HandS.Head0
import HandS.Head1
import HandS.Head2
import HandS.HeadEnd
import HandS.HeadHook1
import HandS.HeadHook2
import HandS.HeadHook3
import HandS.HeadHook4
import HandS.HeadWalk
import HandS.NestedK
set_option Elab.async false
set_option linter.all false
set_option maxRecDepth 100000
set_option maxHeartbeats 2000000
/-! A small calculus over the hand layer: monotone predicates of a value (Pr), known heap and actual heap (Sep), evaluation (Ev). -/
namespace Rb
open PySem PySem.Spec PyProof.Rows L2

/-! ### heaps -/
def Ex (H H' : Hp) : Prop := ∀ a o, H a = some o → H' a = some o
theorem Ex.refl (H : Hp) : Ex H H := fun _ _ h => h
theorem Ex.trans {H H1 H2 : Hp} (a : Ex H H1) (b : Ex H1 H2) : Ex H H2 := fun x o h => b x o (a x o h)
theorem Ex.new {H : Hp} {p : Addr} {o : HO} (h : H p = none) : Ex H (upd H p o) := fun a u e => by
  rw [upd_ne (ne_of_none e h)]
  exact e
theorem Ex.mut {H H' : Hp} {p : Addr} {o : HO} (e : Ex H H') (h : H p = none) : Ex H (upd H' p o) := fun a u ha => by
  rw [upd_ne (ne_of_none ha h)]
  exact e a u ha
theorem Ex.back {H H' : Hp} {p : Addr} (e : Ex H H') (h : H' p = none) : H p = none := by
  cases h1 : H p with
  | none => rfl
  | some o =>
    rw [e p o h1] at h
    cases h
theorem Ex.put {H H' : Hp} {p : Addr} {o : HO} (e : Ex H H') (h : H' p = some o) : Ex (upd H p o) H' := fun a u ha => by
  unfold upd at ha
  split at ha
  · rename_i q
    rw [q, h]
    exact ha
  · exact e a u ha

/-- what holds of a value, over a heap -/
structure Pr where
  p : Hp → V → Prop
  mono : ∀ {H H' : Hp} {v : V}, Ex H H' → p H v → p H' v
def All2 (H : Hp) : List V → List Pr → Prop
  | [], [] => True
  | v :: vs, p :: ps => p.p H v ∧ All2 H vs ps
  | _, _ => False
theorem All2.mono {H H' : Hp} (e : Ex H H') : ∀ {vs : List V} {ps : List Pr}, All2 H vs ps → All2 H' vs ps
  | [], [], _ => True.intro
  | v :: vs, p :: ps, h => ⟨p.mono e h.1, All2.mono e h.2⟩
  | [], _ :: _, h => h.elim
  | _ :: _, [], h => h.elim
theorem All2.length {H : Hp} : ∀ {vs : List V} {ps : List Pr}, All2 H vs ps → vs.length = ps.length
  | [], [], _ => rfl
  | v :: vs, p :: ps, h => by rw [List.length_cons, List.length_cons, All2.length h.2]
  | [], _ :: _, h => h.elim
  | _ :: _, [], h => h.elim
theorem All2.get {H : Hp} : ∀ {vs : List V} {ps : List Pr} {i : Nat} {p : Pr}, All2 H vs ps → ps[i]? = some p → ∃ v, vs[i]? = some v ∧ p.p H v
  | [], [], i, p, _, e => by simp at e
  | v :: vs, q :: ps, 0, p, h, e => by
    have e : q = p := by simpa using e
    subst e
    exact ⟨v, rfl, h.1⟩
  | v :: vs, q :: ps, i + 1, p, h, e => by
    obtain ⟨u, a, b⟩ := All2.get (i := i) (p := p) h.2 (by simpa using e)
    exact ⟨u, by simpa using a, b⟩
  | [], _ :: _, _, _, h, _ => h.elim
  | _ :: _, [], _, _, h, _ => h.elim
theorem All2.at {H : Hp} {vs : List V} {ps : List Pr} {i : Nat} {p : Pr} {v : V} (h : All2 H vs ps) (e : ps[i]? = some p) (ev : vs[i]? = some v) : p.p H v := by
  obtain ⟨u, a, b⟩ := h.get e
  rw [ev] at a
  cases a
  exact b
theorem All2.append {H : Hp} : ∀ {vs ws : List V} {ps qs : List Pr}, All2 H vs ps → All2 H ws qs → All2 H (vs ++ ws) (ps ++ qs)
  | [], _, [], _, _, g => g
  | v :: vs, _, p :: ps, _, h, g => ⟨h.1, All2.append h.2 g⟩
  | [], _, _ :: _, _, h, _ => h.elim
  | _ :: _, _, [], _, h, _ => h.elim
theorem All2.snoc {H : Hp} {vs : List V} {ps : List Pr} {v : V} {p : Pr} (h : All2 H vs ps) (g : p.p H v) : All2 H (vs ++ [v]) (ps ++ [p]) := h.append ⟨g, True.intro⟩
theorem All2.take {H : Hp} : ∀ {vs : List V} {ps : List Pr} (n : Nat), All2 H vs ps → All2 H (vs.take n) (ps.take n)
  | _, _, 0, _ => by simp [All2]
  | [], [], n + 1, _ => by simp [All2]
  | v :: vs, p :: ps, n + 1, h => ⟨h.1, All2.take n h.2⟩
  | [], _ :: _, _ + 1, h => h.elim
  | _ :: _, [], _ + 1, h => h.elim
theorem All2.drop {H : Hp} : ∀ {vs : List V} {ps : List Pr} (n : Nat), All2 H vs ps → All2 H (vs.drop n) (ps.drop n)
  | _, _, 0, h => h
  | [], [], n + 1, _ => by simp [All2]
  | v :: vs, p :: ps, n + 1, h => All2.drop n h.2
  | [], _ :: _, _ + 1, h => h.elim
  | _ :: _, [], _ + 1, h => h.elim

/-- this very value -/
def pV (u : V) : Pr := ⟨fun _ v => v = u, fun _ h => h⟩
abbrev pI (i : Int) : Pr := pV (.int i)
abbrev pN (n : Nat) : Pr := pV (.int (n : Int))
abbrev pS (x : Str) : Pr := pV (.str x)
abbrev pB (b : Bool) : Pr := pV (.bl b)
abbrev pNo : Pr := pV .non
/-- a tuple, a list -/
def pT (ps : List Pr) : Pr := ⟨fun H v => ∃ a xs, v = .ref a ∧ H a = some (.tup xs) ∧ All2 H xs ps, fun e ⟨a, xs, h1, h2, h3⟩ => ⟨a, xs, h1, e _ _ h2, h3.mono e⟩⟩
def pL (ps : List Pr) : Pr := ⟨fun H v => ∃ a xs, v = .ref a ∧ H a = some (.lst xs) ∧ All2 H xs ps, fun e ⟨a, xs, h1, h2, h3⟩ => ⟨a, xs, h1, e _ _ h2, h3.mono e⟩⟩
/-- one of several -/
def pE {α : Type} (P : α → Prop) (f : α → Pr) : Pr := ⟨fun H v => ∃ x, P x ∧ (f x).p H v, fun e ⟨x, h1, h2⟩ => ⟨x, h1, (f x).mono e h2⟩⟩
/-- an instance of the class at C -/
def pO (C : Addr) (fs : List (Str × Pr)) : Pr := ⟨fun H v => ∃ a dx vs, v = .ref a ∧ H a = some (.ins C dx ((fs.map Prod.fst).zip vs)) ∧ All2 H vs (fs.map Prod.snd), fun e ⟨a, dx, vs, h1, h2, h3⟩ => ⟨a, dx, vs, h1, e _ _ h2, h3.mono e⟩⟩
/-- a dict (its keys ints and texts), in order -/
def pD (kps : List (Key × Pr)) : Pr := ⟨fun H v => ∃ a vs, v = .ref a ∧ H a = some (.dK ((kps.map Prod.fst).zip vs)) ∧ All2 H vs (kps.map Prod.snd), fun e ⟨a, vs, h1, h2, h3⟩ => ⟨a, vs, h1, e _ _ h2, h3.mono e⟩⟩
/-- a dict whose keys are tuples -/
def pDT (kps : List (List Key × Pr)) : Pr := ⟨fun H v => ∃ a vs, v = .ref a ∧ H a = some (.dT ((kps.map Prod.fst).zip vs)) ∧ All2 H vs (kps.map Prod.snd), fun e ⟨a, vs, h1, h2, h3⟩ => ⟨a, vs, h1, e _ _ h2, h3.mono e⟩⟩

/-- known before, actual before, known behind, actual behind: only new objects are known besides -/
structure Sep (H H1 H' H2 : Hp) : Prop where
  a : Ex H H'
  b : Ex H' H2
  c : Ex H1 H2
  d : ∀ b, H1 b ≠ none → H b = none → H' b = none
  e : ∀ b ps, H' b = some (.tbl ps) → H b = some (.tbl ps)
theorem Sep.refl {H H1 : Hp} (e : Ex H H1) : Sep H H1 H H1 := ⟨Ex.refl _, e, Ex.refl _, fun _ _ h => h, fun _ _ h => h⟩
theorem Sep.trans {H H1 H' H2 H'' H3 : Hp} (s : Sep H H1 H' H2) (t : Sep H' H2 H'' H3) : Sep H H1 H'' H3 :=
  ⟨s.a.trans t.a, t.b, s.c.trans t.c, fun b h1 h2 => t.d b (fun q => h1 (s.c.back q)) (s.d b h1 h2), fun b ps h => s.e b ps (t.e b ps h)⟩
/-- the actual heap alone grows -/
theorem Sep.ext {H H1 H' H2 H3 : Hp} (s : Sep H H1 H' H2) (e : Ex H2 H3) : Sep H H1 H' H3 := ⟨s.a, s.b.trans e, s.c.trans e, s.d, s.e⟩
/-- an own object is changed -/
theorem Sep.mut {H H1 H' H2 : Hp} {p : Addr} {o : HO} (s : Sep H H1 H' H2) (h1 : H1 p = none) (h : H' p = none) : Sep H H1 H' (upd H2 p o) :=
  ⟨s.a, s.b.mut h, s.c.mut h1, s.d, s.e⟩
/-- an own object is told -/
theorem Sep.own {H H1 H' H2 : Hp} {p : Addr} {o : HO} (s : Sep H H1 H' H2) (h1 : H1 p = none) (h : H' p = none) (h2 : H2 p = some o) (n : ∀ ps, o ≠ .tbl ps := by intro _ h; cases h) : Sep H H1 (upd H' p o) H2 :=
  ⟨s.a.trans (Ex.new h), s.b.put h2, s.c, fun b g1 g2 => by
    rw [upd_ne (fun q => g1 (by rw [q]; exact h1))]
    exact s.d b g1 g2, fun b ps g => by
    by_cases q : b = p
    · rw [q, upd_same] at g
      exact absurd (Option.some.inj g) (n ps)
    · rw [upd_ne q] at g
      exact s.e b ps g⟩
/-- a new object, told at once -/
theorem Sep.new {H H1 : Hp} {p : Addr} {o : HO} (e : Ex H H1) (h1 : H1 p = none) (n : ∀ ps, o ≠ .tbl ps := by intro _ h; cases h) : Sep H H1 (upd H p o) (upd H1 p o) :=
  ⟨Ex.new (e.back h1), (e.mut (e.back h1)).put upd_same, Ex.new h1, fun b g1 g2 => by
    rw [upd_ne (fun q => g1 (by rw [q]; exact h1))]
    exact g2, fun b ps g => by
    by_cases q : b = p
    · rw [q, upd_same] at g
      exact absurd (Option.some.inj g) (n ps)
    · rw [upd_ne q] at g
      exact g⟩
/-- a new object, not told -/
theorem Sep.hid {H H1 : Hp} {p : Addr} {o : HO} (e : Ex H H1) (h1 : H1 p = none) : Sep H H1 H (upd H1 p o) :=
  ⟨Ex.refl _, e.mut (e.back h1), Ex.new h1, fun b _ g2 => g2, fun _ _ h => h⟩
/-- what is own stays own -/
theorem Sep.keep {H H1 H' H2 : Hp} {p : Addr} {o : HO} (s : Sep H H1 H' H2) (h : H p = none) (h1 : H1 p = some o) : H' p = none ∧ H2 p = some o := ⟨s.d p (by rw [h1]; exact fun q => nomatch q) h, s.c p o h1⟩
/-- from a known heap that knows more -/
theorem Sep.up {H H1 H' H2 G : Hp} (s : Sep H H1 H' H2) (e : Ex H G) (g : Ex G H1) : Sep G H1 (fun b => match G b with | some o => some o | none => H' b) H2 ∧ Ex H' (fun b => match G b with | some o => some o | none => H' b) := by
  refine ⟨⟨fun b o h => ?_, fun b o h => ?_, s.c, fun b h1 h2 => ?_, fun b ps h => ?_⟩, fun b o h => ?_⟩
  · show (match G b with | some o => some o | none => H' b) = some o
    rw [h]
  · have h : (match G b with | some o => some o | none => H' b) = some o := h
    cases q : G b with
    | some u =>
      rw [q] at h
      cases h
      exact s.c b _ (g b _ q)
    | none =>
      rw [q] at h
      exact s.b b o h
  · show (match G b with | some o => some o | none => H' b) = none
    rw [h2]
    exact s.d b h1 (e.back h2)
  · have h : (match G b with | some o => some o | none => H' b) = some (.tbl ps) := h
    cases q : G b with
    | some u =>
      rw [q] at h
      exact h
    | none =>
      rw [q] at h
      have h3 := e _ _ (s.e b ps h)
      rw [q] at h3
      cases h3
  · show (match G b with | some o => some o | none => H' b) = some o
    cases q : G b with
    | some u =>
      have e1 := s.c b _ (g b _ q)
      rw [s.b b o h] at e1
      exact e1.symm
    | none => exact h

/-- what is wanted of a value that R holds of -/
def Ret (H H1 : Hp) (R : Pr) (Q : VK) : Prop := ∀ v H' H2, Sep H H1 H' H2 → R.p H' v → Q v H2
theorem Ret.go {H H1 H' H2 : Hp} {R : Pr} {Q : VK} (k : Ret H H1 R Q) (s : Sep H H1 H' H2) : Ret H' H2 R Q := fun v K K2 t r => k v K K2 (s.trans t) r
theorem Ret.val {H H1 H' H2 : Hp} {u : V} {Q : VK} (k : Ret H H1 (pV u) Q) (s : Sep H H1 H' H2) : Q u H2 := k u H' H2 s rfl
/-- an own list is handed back -/
theorem Ret.lst {H H1 H' H2 : Hp} {ps : List Pr} {xs : List V} {Q : VK} {p : Addr} (k : Ret H H1 (pL ps) Q) (s : Sep H H1 H' H2) (h1 : H1 p = none) (h : H' p = none) (h2 : H2 p = some (.lst xs)) (r : All2 H' xs ps) : Q (.ref p) H2 :=
  k _ _ _ (s.own h1 h h2) ⟨p, xs, rfl, upd_same, r.mono (Ex.new h)⟩
theorem Ret.imp {H H1 : Hp} {R S : Pr} {Q : VK} (k : Ret H H1 S Q) (i : ∀ H' v, Ex H H' → R.p H' v → S.p H' v) : Ret H H1 R Q := fun v H' H2 s r => k v H' H2 s (i H' v s.a r)

def Ev (te : TE) (σ : L2.St) (H : Hp) (R : Pr) : Prop := ∀ H1, Ex H H1 → ∀ Q : VK, Ret H H1 R Q → te σ H1 Q
def EvT (tt : TT) (σ : L2.St) (H : Hp) (b : Bool) : Prop := ∀ H1, Ex H H1 → ∀ Q : Bool → Hp → Prop, (∀ H2, Ex H1 H2 → Q b H2) → tt σ H1 Q
def EvA (ta : TA) (σ : L2.St) (H : Hp) (ps : List Pr) : Prop := ∀ H1, Ex H H1 → ∀ Q : List V → Hp → Prop, (∀ vs H' H2, Sep H H1 H' H2 → All2 H' vs ps → Q vs H2) → ta σ H1 Q

section
variable {K : PySem.W.Frag} {σ : L2.St} {H H' : Hp} {ta tb tc te tx : TE} {t u : TT} {r : R2} {R S A B : Pr} {ps qs : List Pr} {x y z : V}
theorem Ev.mono (h : Ev te σ H R) (e : Ex H H') : Ev te σ H' R := fun H1 e1 Q q => h H1 (e.trans e1) Q fun v K K2 s r => by
  obtain ⟨s', f⟩ := s.up e e1
  exact q v _ K2 s' (R.mono f r)
theorem EvT.mono {b : Bool} (h : EvT t σ H b) (e : Ex H H') : EvT t σ H' b := fun H1 e1 Q q => h H1 (e.trans e1) Q q
theorem EvA.mono {ta : TA} (h : EvA ta σ H ps) (e : Ex H H') : EvA ta σ H' ps := fun H1 e1 Q q => h H1 (e.trans e1) Q fun v K K2 s r => by
  obtain ⟨s', f⟩ := s.up e e1
  exact q v _ K2 s' (r.mono f)
theorem Ev.imp (h : Ev te σ H R) (i : ∀ H' v, Ex H H' → R.p H' v → S.p H' v) : Ev te σ H S := fun H1 e Q q => h H1 e Q (q.imp i)
theorem Ev.eq {x y : V} (h : Ev te σ H (pV x)) (e : x = y) : Ev te σ H (pV y) := by
  rw [← e]
  exact h
theorem EvT.eq {b c : Bool} (h : EvT t σ H b) (e : b = c) : EvT t σ H c := by
  rw [← e]
  exact h
theorem ev_var {i : Nat} {v : V} (r : R.p H v) (h : σ[i]? = some (some v) := by rfl) : Ev (tVar i) σ H R := fun H1 e Q q => ⟨v, h, q v H H1 (Sep.refl e) r⟩
theorem ev_c : Ev (tC x) σ H (pV x) := fun H1 e Q q => q _ _ _ (Sep.refl e) rfl
theorem ev_op (ha : Ev ta σ H A) (hb : Ev tb σ H B) (hr : ∀ H' x y, Ex H H' → A.p H' x → B.p H' y → ∀ H1, Ex H' H1 → ∀ Q, Ret H' H1 R Q → r x y H1 Q) : Ev (tOp r ta tb) σ H R := fun H1 e Q q =>
  ha H1 e _ fun v K1 H2 s r => (hb.mono s.a) H2 s.b _ fun w K2 H3 s2 r2 => hr K2 v w (s.a.trans s2.a) (A.mono s2.a r) r2 H3 s2.b Q (q.go (s.trans s2))
theorem ev_I0 {g : Int → Int → V} {i j : Int} (ha : Ev ta σ H (pI i)) (hb : Ev tb σ H (pI j)) : Ev (tOp (rI0 g) ta tb) σ H (pV (g i j)) :=
  ev_op ha hb fun H' x y _ ex ey H1 e Q q => ⟨i, j, ex, ey, q.val (Sep.refl e)⟩
theorem ev_I {C : Int → Int → Prop} {g : Int → Int → V} {i j : Int} (ha : Ev ta σ H (pI i)) (hb : Ev tb σ H (pI j)) (hc : C i j) : Ev (tOp (rI C g) ta tb) σ H (pV (g i j)) :=
  ev_op ha hb fun H' x y _ ex ey H1 e Q q => ⟨i, j, ex, ey, hc, q.val (Sep.refl e)⟩
theorem ev_eq (ha : Ev ta σ H (pV x)) (hb : Ev tb σ H (pV y)) (h : scal x y = true := by rfl) : Ev (tOp rEq ta tb) σ H (pB (decide (x = y))) :=
  ev_op ha hb fun H' v w _ ex ey H1 e Q q => by
    cases ex
    cases ey
    exact ⟨h, q.val (Sep.refl e)⟩
theorem ev_ne (ha : Ev ta σ H (pV x)) (hb : Ev tb σ H (pV y)) (h : scal x y = true := by rfl) : Ev (tOp rNe ta tb) σ H (pB (!decide (x = y))) :=
  ev_op ha hb fun H' v w _ ex ey H1 e Q q => by
    cases ex
    cases ey
    exact ⟨h, q.val (Sep.refl e)⟩
abbrev rIsN : R2 := fun x y H Q => y = .non ∧ Q (.bl (decide (x = .non))) H
abbrev rNotN : R2 := fun x y H Q => y = .non ∧ Q (.bl (!decide (x = .non))) H
theorem ev_isN {b : Bool} (ha : Ev ta σ H A) (h : ∀ H' v, Ex H H' → A.p H' v → decide (v = .non) = b) : Ev (tOp rIsN ta (tC .non)) σ H (pB b) :=
  ev_op ha ev_c fun H' v w e1 ex ey H1 e Q q => by
    have q1 := q.val (Sep.refl e)
    rw [← h H' v e1 ex] at q1
    exact ⟨ey, q1⟩
theorem ev_notN {b : Bool} (ha : Ev ta σ H A) (h : ∀ H' v, Ex H H' → A.p H' v → (!decide (v = .non)) = b) : Ev (tOp rNotN ta (tC .non)) σ H (pB b) :=
  ev_op ha ev_c fun H' v w e1 ex ey H1 e Q q => by
    have q1 := q.val (Sep.refl e)
    rw [← h H' v e1 ex] at q1
    exact ⟨ey, q1⟩
theorem atI_of {α : Type} {xs : List α} {i : Nat} {x : α} (h : xs[i]? = some x) : atI xs ((i : Nat) : Int) = some x := atI_nat h
theorem ev_ixL {i : Nat} {p : Pr} (ha : Ev ta σ H (pL ps)) (hb : Ev tb σ H (pN i)) (hi : ps[i]? = some p) : Ev (tOp (rIxL K) ta tb) σ H p :=
  ev_op ha hb fun H' v w _ ⟨a, xs, ev, ha, hx⟩ ey H1 e Q q => by
    obtain ⟨z, hz, rz⟩ := hx.get hi
    exact ⟨a, xs, (i : Int), z, ev, ey, SqL.of (e _ _ ha), atI_nat hz, q z H' H1 (Sep.refl e) rz⟩
theorem ev_ixT {i : Nat} {p : Pr} (ha : Ev ta σ H (pT ps)) (hb : Ev tb σ H (pN i)) (hi : ps[i]? = some p) : Ev (tOp (rIxT K) ta tb) σ H p :=
  ev_op ha hb fun H' v w _ ⟨a, xs, ev, ha, hx⟩ ey H1 e Q q => by
    obtain ⟨z, hz, rz⟩ := hx.get hi
    exact ⟨a, xs, (i : Int), z, ev, ey, SqT.of (e _ _ ha), atI_nat hz, q z H' H1 (Sep.refl e) rz⟩
/-- t[0], t[1] with written places -/
theorem ev_ixT' {i : Int} {n : Nat} {p : Pr} (ha : Ev ta σ H (pT ps)) (hi : ps[n]? = some p := by rfl) (hn : i = (n : Int) := by rfl) : Ev (tOp (rIxT K) ta (tC (.int i))) σ H p := by
  subst hn
  exact ev_ixT ha ev_c hi
theorem ev_ixL' {i : Int} {n : Nat} {p : Pr} (ha : Ev ta σ H (pL ps)) (hi : ps[n]? = some p) (hn : i = (n : Int) := by rfl) : Ev (tOp (rIxL K) ta (tC (.int i))) σ H p := by
  subst hn
  exact ev_ixL ha ev_c hi
theorem ev_if {b : Bool} (h : EvT t σ H b) (h1 : b = true → Ev ta σ H R) (h2 : b = false → Ev tb σ H R) : Ev (tIf t ta tb) σ H R := fun H1 e Q q => h H1 e _ fun H2 e2 => by
  have q2 : Ret H H2 R Q := fun v K K2 s r => q v K K2 ⟨s.a, s.b, e2.trans s.c, fun b h1 h2 => s.d b (fun z => h1 (e2.back z)) h2, s.e⟩ r
  cases b with
  | true => exact h1 rfl H2 (e.trans e2) Q q2
  | false => exact h2 rfl H2 (e.trans e2) Q q2
theorem Ret.ext {H H1 H2 : Hp} {R : Pr} {Q : VK} (q : Ret H H1 R Q) (e2 : Ex H1 H2) : Ret H H2 R Q := fun v K K2 s r => q v K K2 ⟨s.a, s.b, e2.trans s.c, fun b h1 h2 => s.d b (fun z => h1 (e2.back z)) h2, s.e⟩ r
theorem ev_andV {a b : Bool} (h1 : Ev ta σ H (pB a)) (h2 : a = true → Ev tb σ H (pB b)) : Ev (tAndV ta tb) σ H (pB (a && b)) := fun H1 e Q q => h1 H1 e _ fun v K H2 s r => by
  have r : v = .bl a := r
  subst r
  refine ⟨a, rfl, ?_⟩
  cases a with
  | true => exact ((h2 rfl).mono s.a) H2 s.b Q (q.go s)
  | false => exact q.val s
theorem ev_orV {a b : Bool} (h1 : Ev ta σ H (pB a)) (h2 : a = false → Ev tb σ H (pB b)) : Ev (tOrV ta tb) σ H (pB (a || b)) := fun H1 e Q q => h1 H1 e _ fun v K H2 s r => by
  have r : v = .bl a := r
  subst r
  refine ⟨a, rfl, ?_⟩
  cases a with
  | true => exact q.val s
  | false => exact ((h2 rfl).mono s.a) H2 s.b Q (q.go s)
theorem ev_notV {a : Bool} (h1 : Ev ta σ H (pB a)) : Ev (tNotV ta) σ H (pB (!a)) := fun H1 e Q q => h1 H1 e _ fun v K H2 s r => by
  have r : v = .bl a := r
  subst r
  exact ⟨a, rfl, q.val s⟩
/-! tests -/
theorem et_test {b : Bool} (h : Ev te σ H (pB b)) : EvT (tTest te) σ H b := fun H1 e _ q => h H1 e _ fun v K H2 s r => ⟨b, r, q H2 s.c⟩
theorem et_B {b : Bool} (h : Ev te σ H (pB b)) : EvT (tB te) σ H b := fun H1 e _ q => h H1 e _ fun v K H2 s r => ⟨b, r, q H2 s.c⟩
abbrev tTru (K : PySem.W.Frag) (ta : TE) : TT := fun σ H Q => ta σ H fun x H' => ∃ k, TruV K x H' k ∧ Q k H'
theorem et_tru {b : Bool} (h : Ev te σ H A) (hb : ∀ H' v, Ex H H' → A.p H' v → ∀ H1, Ex H' H1 → TruV K v H1 b) : EvT (tTru K te) σ H b := fun H1 e _ q => h H1 e _ fun v K1 H2 s r => ⟨b, hb K1 v s.a r H2 s.b, q H2 s.c⟩
theorem et_truL (h : Ev te σ H (pL ps)) : EvT (tTru K te) σ H (!ps.isEmpty) := et_tru h fun H' v _ ⟨a, xs, ev, ha, hx⟩ H1 e1 => by
  subst ev
  refine .inl ⟨xs, SqL.of (e1 _ _ ha), ?_⟩
  have := hx.length
  cases xs <;> cases ps <;> simp at this ⊢
theorem et_not {a : Bool} (h1 : EvT t σ H a) : EvT (tNot t) σ H (!a) := fun H1 e _ q => h1 H1 e _ fun H2 e2 => q H2 e2
theorem et_and {a b : Bool} (h1 : EvT t σ H a) (h2 : a = true → EvT u σ H b) : EvT (tAnd t u) σ H (a && b) := fun H1 e Q q => h1 H1 e _ fun H2 e2 => by
  cases a with
  | true => exact h2 rfl H2 (e.trans e2) Q fun H3 e3 => q H3 (e2.trans e3)
  | false => exact q H2 e2
theorem et_or {a b : Bool} (h1 : EvT t σ H a) (h2 : a = false → EvT u σ H b) : EvT (tOr t u) σ H (a || b) := fun H1 e Q q => h1 H1 e _ fun H2 e2 => by
  cases a with
  | true => exact q H2 e2
  | false => exact h2 rfl H2 (e.trans e2) Q fun H3 e3 => q H3 (e2.trans e3)
theorem et_yes : EvT tYes σ H true := fun H1 e Q q => q H1 (Ex.refl _)
/-! arguments -/
theorem ea_nil : EvA tNil σ H [] := fun H1 e _ q => q [] H H1 (Sep.refl e) True.intro
theorem ea_cons {tr : TA} (h : Ev ta σ H A) (hr : EvA tr σ H ps) : EvA (tCons ta tr) σ H (A :: ps) := fun H1 e _ q =>
  h H1 e _ fun v K H2 s r => (hr.mono s.a) H2 s.b _ fun vs K2 H3 s2 r2 => q (v :: vs) K2 H3 (s.trans s2) ⟨A.mono s2.a r, r2⟩
theorem ea_one (h : Ev ta σ H A) : EvA (tCons ta tNil) σ H [A] := ea_cons h ea_nil
theorem ev_tup {ta : TA} (h : EvA ta σ H ps) (hl : ps.length ≤ 1000 := by exact Nat.le_of_ble_eq_true rfl) : Ev (tTup ta) σ H (pT ps) := fun H1 e Q q =>
  h H1 e _ fun vs K H2 s r => ⟨Nat.le_trans (by rw [r.length]; exact hl) (by decide), fun p hp => q _ _ _ (s.trans (Sep.new s.b hp)) ⟨p, vs, rfl, upd_same, r.mono (Ex.new (s.b.back hp))⟩⟩
theorem ev_lst {ta : TA} (h : EvA ta σ H ps) (hl : ps.length ≤ 1000 := by exact Nat.le_of_ble_eq_true rfl) : Ev (tLst ta) σ H (pL ps) := fun H1 e Q q =>
  h H1 e _ fun vs K H2 s r => ⟨Nat.le_trans (by rw [r.length]; exact hl) (by decide), fun p hp => q _ _ _ (s.trans (Sep.new s.b hp)) ⟨p, vs, rfl, upd_same, r.mono (Ex.new (s.b.back hp))⟩⟩
/-! calls -/
theorem ev_cb {ta : TA} {r : List V → Hp → VK → Prop} (h : EvA ta σ H ps) (hr : ∀ H' vs, Ex H H' → All2 H' vs ps → ∀ H1, Ex H' H1 → ∀ Q, Ret H' H1 R Q → r vs H1 Q) : Ev (tCB r ta) σ H R := fun H1 e Q q =>
  h H1 e _ fun vs K H2 s r => hr K vs s.a r H2 s.b Q (q.go s)
theorem all1 {H : Hp} {vs : List V} {A : Pr} (h : All2 H vs [A]) : ∃ v, vs = [v] ∧ A.p H v := match vs, h with
  | [v], h => ⟨v, rfl, h.1⟩
  | [], h => h.elim
  | _ :: _ :: _, h => h.2.elim
theorem all2 {H : Hp} {vs : List V} {A B : Pr} (h : All2 H vs [A, B]) : ∃ v w, vs = [v, w] ∧ A.p H v ∧ B.p H w := match vs, h with
  | [v, w], h => ⟨v, w, rfl, h.1, h.2.1⟩
  | [], h => h.elim
  | [_], h => h.2.elim
  | _ :: _ :: _ :: _, h => h.2.2.elim
abbrev rLen (K : PySem.W.Frag) : List V → Hp → VK → Prop := fun xs H Q => ∃ p ys, xs = [.ref p] ∧ (SqL K H p ys ∨ SqT K H p ys) ∧ Q (.int ys.length) H
theorem ev_len (h : Ev ta σ H (pL ps)) : Ev (tCB (rLen K) (tCons ta tNil)) σ H (pN ps.length) := ev_cb (ea_one h) fun H' vs _ hv H1 e1 Q q => by
  obtain ⟨v, rfl, a, xs, rfl, ha, hx⟩ := all1 hv
  have q1 := q.val (Sep.refl e1)
  rw [← hx.length] at q1
  exact ⟨a, xs, rfl, .inl (SqL.of (e1 _ _ ha)), q1⟩
theorem ev_lenT (h : Ev ta σ H (pT ps)) : Ev (tCB (rLen K) (tCons ta tNil)) σ H (pN ps.length) := ev_cb (ea_one h) fun H' vs _ hv H1 e1 Q q => by
  obtain ⟨v, rfl, a, xs, rfl, ha, hx⟩ := all1 hv
  have q1 := q.val (Sep.refl e1)
  rw [← hx.length] at q1
  exact ⟨a, xs, rfl, .inr (SqT.of (e1 _ _ ha)), q1⟩
abbrev rListOf (K : PySem.W.Frag) : List V → Hp → VK → Prop := fun xs H Q => ∃ p ys, xs = [.ref p] ∧ (SqL K H p ys ∨ SqT K H p ys) ∧ ∀ l, H l = none → Q (.ref l) (upd H l (.lst ys))
theorem ev_listOf (h : Ev ta σ H (pL ps)) : Ev (tCB (rListOf K) (tCons ta tNil)) σ H (pL ps) := ev_cb (ea_one h) fun H' vs _ hv H1 e1 Q q => by
  obtain ⟨v, rfl, a, xs, rfl, ha, hx⟩ := all1 hv
  exact ⟨a, xs, rfl, .inl (SqL.of (e1 _ _ ha)), fun l hl => q _ _ _ (Sep.new e1 hl) ⟨l, xs, rfl, upd_same, hx.mono (Ex.new (e1.back hl))⟩⟩
/-- a promise by its data -/
def spN {α : Type} (Ps : α → List Pr) (pre : α → Prop) (R : α → Pr) : Sp := fun vs H1 Q _ => ∃ a H, Ex H H1 ∧ pre a ∧ All2 H vs (Ps a) ∧ Ret H H1 (R a) Q
section
variable {α : Type} {Ps : α → List Pr} {pre : α → Prop} {Rs : α → Pr} {E : XK} {C : Addr} {m : Str}
theorem ev_call {ta : TA} (a : α) (h : EvA ta σ H (Ps a)) (hp : pre a) : Ev (tCall (spN Ps pre Rs) [] E ta) σ H (Rs a) := fun H1 e Q q =>
  h H1 e _ fun vs K H2 s r => ⟨a, K, s.b, hp, by rw [List.append_nil]; exact r, q.go s⟩
theorem ev_callD {ta : TA} {dvs : List V} {ds as : List Pr} (a : α) (h : EvA ta σ H as) (hd : All2 H dvs ds) (hP : Ps a = as ++ ds) (hp : pre a) : Ev (tCall (spN Ps pre Rs) dvs E ta) σ H (Rs a) := fun H1 e Q q =>
  h H1 e _ fun vs K H2 s r => ⟨a, K, s.b, hp, by rw [hP]; exact r.append (hd.mono s.a), q.go s⟩
/-- what an own instance must show for a method's call -/
def IsIns (C : Addr) (m : Str) (A : Pr) : Prop := ∀ H v, A.p H v → ∃ a dx fs, v = .ref a ∧ H a = some (.ins C dx fs) ∧ fs.lookup m = none
theorem ev_meth {ta : TA} {as : List Pr} (a : α) (ho : Ev te σ H A) (hi : IsIns C m A) (h : EvA ta σ H as) (hP : Ps a = A :: as) (hp : pre a) : Ev (tMeth C m (spN Ps pre Rs) [] E te ta) σ H (Rs a) := fun H1 e Q q =>
  ho H1 e _ fun v K H2 s r => by
    obtain ⟨b, dx, fs, rfl, hb, hl⟩ := hi K v r
    refine ⟨b, dx, fs, rfl, s.b _ _ hb, hl, (h.mono s.a) H2 s.b _ fun vs K2 H3 s2 r2 => ⟨a, K2, s2.b, hp, ?_, q.go (s.trans s2)⟩⟩
    rw [hP, List.append_nil]
    exact ⟨A.mono s2.a r, r2⟩
theorem ev_prop (a : α) (ho : Ev te σ H A) (hi : ∀ H v, A.p H v → ∃ a dx fs, v = .ref a ∧ H a = some (.ins C dx fs)) (hP : Ps a = [A]) (hp : pre a) : Ev (tProp C (spN Ps pre Rs) [] E te) σ H (Rs a) := fun H1 e Q q =>
  ho H1 e _ fun v K H2 s r => by
    obtain ⟨b, dx, fs, rfl, hb⟩ := hi K v r
    refine ⟨b, dx, fs, rfl, s.b _ _ hb, a, K, s.b, hp, ?_, q.go s⟩
    rw [hP]
    exact ⟨r, True.intro⟩
end
/-- an attribute -/
theorem ev_fld {C : Addr} {f : Str} (ho : Ev te σ H A) (hi : ∀ H v, A.p H v → ∃ a dx fs u, v = .ref a ∧ H a = some (.ins C dx fs) ∧ fs.lookup f = some u ∧ R.p H u) (c : Cls K C) (n : NoAttr K C f) : Ev (tFld K te f) σ H R := fun H1 e Q q =>
  ho H1 e _ fun v K1 H2 s r => by
    obtain ⟨b, dx, fs, u, rfl, hb, hl, hu⟩ := hi K1 v r
    exact ⟨b, C, dx, fs, u, rfl, s.b _ _ hb, c, n, hl, q u K1 H2 s hu⟩
end
end Rb
set_option Elab.async false
set_option linter.all false
set_option maxRecDepth 100000
set_option maxHeartbeats 2000000
/-! Statements, loops, comprehensions. -/
namespace Rb
open PySem PySem.Spec PyProof.Rows L2

section
variable {K : PySem.W.Frag} {σ : L2.St} {H H1 H' : Hp} {ta tb tc te tx : TE} {t u : TT} {r : R2} {R S A B : Pr} {ps qs : List Pr} {x y z : V} {D : Ends} {tu tw tz : TS} {g : TG}
/-! statements: the goal stands at the actual heap H1, H is known -/
theorem s_asg {i : Nat} (e : Ex H H1) (h : Ev te σ H R) (k : ∀ v H' H2, Sep H H1 H' H2 → R.p H' v → D.nx (σ.set i (some v)) H2) : tAsg te (gName i) D σ H1 := h H1 e _ k
theorem q_asg {i : Nat} (e : Ex H H1) (h : Ev te σ H R) (k : ∀ v H' H2, Sep H H1 H' H2 → R.p H' v → tz D (σ.set i (some v)) H2) : tSeq (tAsg te (gName i)) tz D σ H1 := h H1 e _ k
/-- a value known -/
theorem q_asgV {i : Nat} {v : V} (e : Ex H H1) (h : Ev te σ H (pV v)) (k : ∀ H2, Ex H H2 → Ex H1 H2 → tz D (σ.set i (some v)) H2) : tSeq (tAsg te (gName i)) tz D σ H1 := h H1 e _ fun u K K2 s r => by
  have r : u = v := r
  subst r
  exact k K2 (e.trans s.c) s.c
theorem s_asgV {i : Nat} {v : V} (e : Ex H H1) (h : Ev te σ H (pV v)) (k : ∀ H2, Ex H H2 → Ex H1 H2 → D.nx (σ.set i (some v)) H2) : tAsg te (gName i) D σ H1 := h H1 e _ fun u K K2 s r => by
  have r : u = v := r
  subst r
  exact k K2 (e.trans s.c) s.c
theorem s_ret (e : Ex H H1) (h : Ev te σ H R) (k : Ret H H1 R D.rt) : tRet te D σ H1 := h H1 e _ k
theorem s_drop (e : Ex H H1) (h : Ev te σ H R) (k : ∀ H' H2, Sep H H1 H' H2 → D.nx σ H2) : tDrop te D σ H1 := h H1 e _ fun v H' H2 s _ => k H' H2 s
theorem q_drop (e : Ex H H1) (h : Ev te σ H R) (k : ∀ H' H2, Sep H H1 H' H2 → tz D σ H2) : tSeq (tDrop te) tz D σ H1 := h H1 e _ fun v H' H2 s _ => k H' H2 s
theorem s_if {b : Bool} (e : Ex H H1) (h : EvT t σ H b) (h1 : b = true → ∀ H2, Ex H1 H2 → tu D σ H2) (h2 : b = false → ∀ H2, Ex H1 H2 → tw D σ H2) : tIfS t tu tw D σ H1 := h H1 e _ fun H2 e2 => by
  cases b with
  | true => exact h1 rfl H2 e2
  | false => exact h2 rfl H2 e2
theorem q_if {b : Bool} (e : Ex H H1) (h : EvT t σ H b) (h1 : b = true → ∀ H2, Ex H1 H2 → tu { D with nx := tz D } σ H2) (h2 : b = false → ∀ H2, Ex H1 H2 → tw { D with nx := tz D } σ H2) : tSeq (tIfS t tu tw) tz D σ H1 := s_if (D := { D with nx := tz D }) e h h1 h2
/-- an if that is not entered -/
theorem q_ifN (e : Ex H H1) (h : EvT t σ H false) (k : ∀ H2, Ex H1 H2 → tz D σ H2) : tSeq (tIfS t tu tNext) tz D σ H1 := q_if e h (fun q => nomatch q) fun _ H2 e2 => k H2 e2
theorem s_ifN (e : Ex H H1) (h : EvT t σ H false) (k : ∀ H2, Ex H1 H2 → D.nx σ H2) : tIfS t tu tNext D σ H1 := s_if e h (fun q => nomatch q) fun _ H2 e2 => k H2 e2
abbrev tApp (K : PySem.W.Frag) (to te : TE) : TE := tBM K "list" rAppend to (tCons te tNil)
/-- l.append(e), l an own list -/
theorem s_app {i : Nat} {l : Addr} {xs : List V} (e : Ex H H1) (hl : H l = none) (h1 : H1 l = some (.lst xs)) (hs : σ[i]? = some (some (.ref l))) (h : Ev te σ H R) (hz : xs.length < 100000) (k : ∀ v H' H2, Sep H H1 H' H2 → R.p H' v → D.nx σ (upd H2 l (.lst (xs ++ [v])))) :
    tDrop (tApp K (tVar i) te) D σ H1 := by
  refine ⟨_, hs, .inl ⟨rfl, xs, SqL.of h1⟩, h H1 e _ fun v H' H2 s r => ?_⟩
  exact ⟨l, xs, v, rfl, rfl, s.c _ _ h1, Nat.lt_of_lt_of_le hz (by decide), k v H' H2 s r⟩
theorem q_app {i : Nat} {l : Addr} {xs : List V} (e : Ex H H1) (hl : H l = none) (h1 : H1 l = some (.lst xs)) (hs : σ[i]? = some (some (.ref l))) (h : Ev te σ H R) (hz : xs.length < 100000) (k : ∀ v H' H2, Sep H H1 H' H2 → R.p H' v → tz D σ (upd H2 l (.lst (xs ++ [v])))) :
    tSeq (tDrop (tApp K (tVar i) te)) tz D σ H1 := s_app (D := { D with nx := tz D }) e hl h1 hs h hz k
/-- l = [] : an own list -/
theorem q_nil {i : Nat} (k : ∀ l, H1 l = none → tz D (σ.set i (some (.ref l))) (upd H1 l (.lst []))) : tSeq (tAsg (tLst tNil) (gName i)) tz D σ H1 := ⟨by decide, fun l hl => k l hl⟩

/-! what is walked -/
def Ylds (J : It) (H' : Hp) (ps : List Pr) : Prop := ∀ H2, Ex H' H2 → (∀ (i : Nat) (p : Pr), ps[i]? = some p → J.go i H2 ∧ ∀ x H3, J.yld i H2 x H3 → ∃ H'', Sep H' H2 H'' H3 ∧ p.p H'' x) ∧ J.stop ps.length H2
def EvI (wi : TI) (σ : L2.St) (H : Hp) (ps : List Pr) : Prop := ∀ H1, Ex H H1 → ∀ Q : It → Hp → Prop, (∀ J H' H2, Sep H H1 H' H2 → Ylds J H' ps → Q J H2) → wi σ H1 Q
theorem Ylds.mono {J : It} {H' G : Hp} (h : Ylds J H' ps) (e : Ex H' G) : Ylds J G ps := fun H2 e2 => by
  obtain ⟨a, b⟩ := h H2 (e.trans e2)
  refine ⟨fun i p hp => ⟨(a i p hp).1, fun x H3 y => ?_⟩, b⟩
  obtain ⟨L, s, r⟩ := (a i p hp).2 x H3 y
  obtain ⟨s', f⟩ := s.up e e2
  exact ⟨_, s', p.mono f r⟩
theorem EvI.mono {wi : TI} (h : EvI wi σ H ps) (e : Ex H H') : EvI wi σ H' ps := fun H1 e1 Q q => h H1 (e.trans e1) Q fun J K K2 s y => by
  obtain ⟨s', f⟩ := s.up e e1
  exact q J _ K2 s' (y.mono f)
theorem sqL_one {H : Hp} {a : Addr} {xs ys : List V} (h : H a = some (.lst xs)) (g : SqL K H a ys) (hk : K.lookup a = none) : ys = xs := by
  rcases g with (g | ⟨o, g⟩) | ⟨o, its, n, g, _⟩
  · rw [h] at g
    cases g
    rfl
  · rw [h] at g
    cases g
  · rw [hk] at g
    cases g
theorem ei_list (h : Ev te σ H (pL ps)) : EvI (iList K te) σ H ps := fun H1 e Q q => h H1 e _ fun v K1 H2 s ⟨a, xs, ev, ha, hx⟩ => by
  subst ev
  refine ⟨a, rfl, ⟨xs, SqL.of (s.b _ _ ha)⟩, q _ K1 H2 s fun H3 e3 => ⟨fun i p hp => ?_, ?_⟩⟩
  · obtain ⟨z, hz, rz⟩ := hx.get hp
    refine ⟨⟨xs, z, SqL.of (e3 _ _ ha), hz⟩, fun x H4 ⟨eH, y⟩ => ?_⟩
    have y1 := y xs (SqL.of (e3 _ _ ha))
    rw [hz] at y1
    cases y1
    subst eH
    exact ⟨K1, Sep.refl e3, rz⟩
  · exact ⟨xs, SqL.of (e3 _ _ ha), Nat.le_of_eq hx.length⟩
theorem ei_tup (h : Ev te σ H (pT ps)) : EvI (iTup K te) σ H ps := fun H1 e Q q => h H1 e _ fun v K1 H2 s ⟨a, xs, ev, ha, hx⟩ => by
  subst ev
  refine ⟨a, rfl, ⟨xs, SqT.of (s.b _ _ ha)⟩, q _ K1 H2 s fun H3 e3 => ⟨fun i p hp => ?_, ?_⟩⟩
  · obtain ⟨z, hz, rz⟩ := hx.get hp
    refine ⟨⟨xs, z, SqT.of (e3 _ _ ha), hz⟩, fun x H4 ⟨eH, y⟩ => ?_⟩
    have y1 := y xs (SqT.of (e3 _ _ ha))
    rw [hz] at y1
    cases y1
    subst eH
    exact ⟨K1, Sep.refl e3, rz⟩
  · exact ⟨xs, SqT.of (e3 _ _ ha), Nat.le_of_eq hx.length⟩
theorem ei_range {ta : TA} {n : Nat} (h : EvA ta σ H [pN n]) (hn : n ≤ 1000000) : EvI (iRng1 ta) σ H ((List.range n).map pN) := fun H1 e Q q => h H1 e _ fun vs K1 H2 s r => by
  obtain ⟨v, rfl, ev⟩ := all1 r
  have ev : v = .int (n : Int) := ev
  subst ev
  refine ⟨(n : Int), rfl, by omega, by omega, q _ K1 H2 s fun H3 e3 => ⟨fun i p hp => ?_, ?_⟩⟩
  · rw [List.getElem?_map] at hp
    cases q2 : (List.range n)[i]? with
    | none =>
      rw [q2] at hp
      cases hp
    | some j =>
      rw [q2] at hp
      obtain ⟨h1, h2⟩ := List.getElem?_eq_some_iff.mp q2
      rw [List.getElem_range] at h2
      rw [List.length_range] at h1
      cases hp
      subst h2
      refine ⟨by show i < (n : Int).toNat; omega, fun x H4 ⟨eH, y⟩ => ⟨K1, by rw [eH]; exact Sep.refl e3, ?_⟩⟩
      show x = .int (i : Int)
      rw [y, Int.zero_add]
  · show (n : Int).toNat ≤ ((List.range n).map pN).length
    rw [List.length_map, List.length_range]
    omega
theorem ei_str {z : Str} (h : Ev te σ H (pS z)) : EvI (iStr te) σ H (z.cps.toList.map fun c => pS ⟨#[c]⟩) := fun H1 e Q q => h H1 e _ fun v K1 H2 s r => by
  have r : v = .str z := r
  subst r
  refine ⟨z, rfl, q _ K1 H2 s fun H3 e3 => ⟨fun i p hp => ?_, ?_⟩⟩
  · rw [List.getElem?_map] at hp
    cases q2 : z.cps.toList[i]? with
    | none =>
      rw [q2] at hp
      cases hp
    | some c =>
      rw [q2] at hp
      cases hp
      have q3 : z.cps[i]? = some c := by simpa using q2
      refine ⟨by
        show i < z.cps.size
        exact (Array.getElem?_eq_some_iff.mp q3).1, fun x H4 ⟨eH, c', hc, y⟩ => ⟨K1, by rw [eH]; exact Sep.refl e3, ?_⟩⟩
      rw [q3] at hc
      cases hc
      exact y
  · show z.cps.size ≤ (z.cps.toList.map fun c => pS ⟨#[c]⟩).length
    simp
theorem ei_enum {ta : TA} (h : EvA ta σ H [pL ps]) : EvI (iEnum K ta) σ H (ps.mapIdx fun i p => pT [pN i, p]) := fun H1 e Q q => h H1 e _ fun vs K1 H2 s r => by
  obtain ⟨v, rfl, a, xs, rfl, ha, hx⟩ := all1 r
  refine ⟨a, xs, rfl, SqL.of (s.b _ _ ha), q _ K1 H2 s fun H3 e3 => ⟨fun i p hp => ?_, ?_⟩⟩
  · rw [List.getElem?_mapIdx] at hp
    cases q2 : ps[i]? with
    | none =>
      rw [q2] at hp
      cases hp
    | some p' =>
      rw [q2] at hp
      cases hp
      obtain ⟨z, hz, rz⟩ := hx.get q2
      refine ⟨⟨xs, z, SqL.of (e3 _ _ ha), hz⟩, fun x H4 ⟨T, x', ex, hT, eH, y⟩ => ?_⟩
      have y1 := y xs (SqL.of (e3 _ _ ha))
      rw [hz] at y1
      cases y1
      subst eH ex
      exact ⟨_, Sep.new e3 hT, T, _, rfl, upd_same, rfl, p'.mono (Ex.new (e3.back hT)) rz, True.intro⟩
  · exact ⟨xs, SqL.of (e3 _ _ ha), by rw [List.length_mapIdx]; exact Nat.le_of_eq hx.length⟩

/-- a for loop: Inv by the turn, the slots, the known and the actual heap -/
theorem s_for {wi : TI} (e : Ex H H1) (h : EvI wi σ H ps) (I : Nat → L2.St → Hp → Hp → Prop) (h0 : ∀ H' H2, Sep H H1 H' H2 → I 0 σ H' H2)
    (hs : ∀ i p v σ' G G1 G' G2, ps[i]? = some p → I i σ' G G1 → Ex H G → Sep G G1 G' G2 → p.p G' v →
      g v σ' G2 fun σ2 G3 => tu { D with nx := fun σ4 G4 => ∃ L, Ex G L ∧ Ex L G4 ∧ I (i + 1) σ4 L G4, ct := fun σ4 G4 => ∃ L, Ex G L ∧ Ex L G4 ∧ I (i + 1) σ4 L G4, bk := D.nx } σ2 G3)
    (hd : ∀ σ' G G1, Ex H G → Ex G G1 → I ps.length σ' G G1 → D.nx σ' G1) : tFor wi g tu D σ H1 := h H1 e _ fun J K1 H2 s y => by
  refine ⟨fun i m σ' G1 => m = ps.length - i ∧ i ≤ ps.length ∧ ∃ G, Ex K1 G ∧ Ex G G1 ∧ I i σ' G G1, ⟨ps.length, by simp, Nat.zero_le _, K1, Ex.refl _, s.b, h0 K1 H2 s⟩, ?_⟩
  rintro i m σ' G1 ⟨rfl, hi, G, e1, e2, w⟩
  obtain ⟨y1, y2⟩ := y.mono e1 G1 e2
  by_cases hlt : i < ps.length
  · obtain ⟨go, yl⟩ := y1 i ps[i] (List.getElem?_eq_getElem hlt)
    refine .inr ⟨go, fun σ4 G4 => ∃ L, Ex G L ∧ Ex L G4 ∧ I (i + 1) σ4 L G4, fun σ4 G4 ⟨L, a, b, c⟩ => ⟨ps.length - (i + 1), by omega, rfl, hlt, L, e1.trans a, b, c⟩, fun x G2 yx => ?_⟩
    obtain ⟨G', s2, r⟩ := yl x G2 yx
    exact hs i ps[i] x σ' G G1 G' G2 (List.getElem?_eq_getElem hlt) w (s.a.trans e1) s2 r
  · have ei : i = ps.length := by omega
    subst ei
    exact .inl ⟨y2, hd σ' G G1 (s.a.trans e1) e2 w⟩
theorem q_for {wi : TI} (e : Ex H H1) (h : EvI wi σ H ps) (I : Nat → L2.St → Hp → Hp → Prop) (h0 : ∀ H' H2, Sep H H1 H' H2 → I 0 σ H' H2)
    (hs : ∀ i p v σ' G G1 G' G2, ps[i]? = some p → I i σ' G G1 → Ex H G → Sep G G1 G' G2 → p.p G' v →
      g v σ' G2 fun σ2 G3 => tu { D with nx := fun σ4 G4 => ∃ L, Ex G L ∧ Ex L G4 ∧ I (i + 1) σ4 L G4, ct := fun σ4 G4 => ∃ L, Ex G L ∧ Ex L G4 ∧ I (i + 1) σ4 L G4, bk := tz D } σ2 G3)
    (hd : ∀ σ' G G1, Ex H G → Ex G G1 → I ps.length σ' G G1 → tz D σ' G1) : tSeq (tFor wi g tu) tz D σ H1 := s_for (D := { D with nx := tz D }) e h I h0 hs hd

/-! targets -/
def Bnd (g : TG) (v : V) (σ : L2.St) (G : Hp) (σ2 : L2.St) : Prop := ∀ G1, Ex G G1 → ∀ Q : L2.St → Hp → Prop, Q σ2 G1 → g v σ G1 Q
theorem bnd_name {i : Nat} {v : V} {G : Hp} : Bnd (gName i) v σ G (σ.set i (some v)) := fun G1 _ Q q => q
theorem bnd_pair {i j : Nat} {v : V} {G : Hp} (r : (pT [A, B]).p G v) : ∃ x y, A.p G x ∧ B.p G y ∧ Bnd (gTup K 2 (gCons (gName i) (gCons (gName j) gNil))) v σ G ((σ.set i (some x)).set j (some y)) := by
  obtain ⟨a, xs, rfl, ha, hx⟩ := r
  obtain ⟨x, y, rfl, hA, hB⟩ := all2 hx
  exact ⟨x, y, hA, hB, fun G1 e Q q => ⟨a, [x, y], rfl, SqT.of (e _ _ ha), rfl, x, [y], rfl, y, [], rfl, rfl, q⟩⟩
theorem all3 {H : Hp} {vs : List V} {A B C : Pr} (h : All2 H vs [A, B, C]) : ∃ u v w, vs = [u, v, w] ∧ A.p H u ∧ B.p H v ∧ C.p H w := match vs, h with
  | [u, v, w], h => ⟨u, v, w, rfl, h.1, h.2.1, h.2.2.1⟩
  | [], h => h.elim
  | [_], h => h.2.elim
  | [_, _], h => h.2.2.elim
  | _ :: _ :: _ :: _ :: _, h => h.2.2.2.elim
theorem bnd_tri {i j k : Nat} {C : Pr} {v : V} {G : Hp} (r : (pT [A, B, C]).p G v) : ∃ x y z, A.p G x ∧ B.p G y ∧ C.p G z ∧ Bnd (gTup K 3 (gCons (gName i) (gCons (gName j) (gCons (gName k) gNil)))) v σ G (((σ.set i (some x)).set j (some y)).set k (some z)) := by
  obtain ⟨a, xs, rfl, ha, hx⟩ := r
  obtain ⟨x, y, z, rfl, hA, hB, hC⟩ := all3 hx
  exact ⟨x, y, z, hA, hB, hC, fun G1 e Q q => ⟨a, [x, y, z], rfl, SqT.of (e _ _ ha), rfl, x, [y, z], rfl, y, [z], rfl, z, [], rfl, rfl, q⟩⟩

/-! list comprehensions -/
theorem ev_lc {α : Type} {wi : TI} {vs : List Nat} {as : List α} {f h : α → Pr} {t : α → Bool} {tt : TT} (hi : EvI wi σ H (as.map f)) (hz : as.length ≤ 100000)
    (hs : ∀ a v G, a ∈ as → Ex H G → (f a).p G v → ∃ σ2, Bnd g v (wipe σ vs) G σ2 ∧ wipe σ2 vs = wipe σ vs ∧ EvT tt σ2 G (t a) ∧ (t a = true → Ev te σ2 G (h a))) :
    Ev (tLc wi g tt te vs) σ H (pL ((as.filter t).map h)) := fun H1 e Q q => hi H1 e _ fun J K1 H2 s y L hL => by
  have kL : K1 L = none := s.b.back hL
  have hlen : (as.map f).length = as.length := List.length_map ..
  refine ⟨fun i m G1 => m = as.length - i ∧ i ≤ as.length ∧ ∃ G acc, Sep K1 H2 G G1 ∧ G L = none ∧ G1 L = some (.lst acc) ∧ All2 G acc (((as.take i).filter t).map h), ⟨as.length, by simp, Nat.zero_le _, K1, [], Sep.hid s.b hL, kL, upd_same, by simp [All2]⟩, ?_⟩
  rintro i m G1 ⟨rfl, hi2, G, acc, sG, nL, gL, r⟩
  obtain ⟨y1, y2⟩ := y.mono sG.a G1 sG.b
  by_cases hlt : i < as.length
  · have ea : as[i]? = some as[i] := List.getElem?_eq_getElem hlt
    have ef : (as.map f)[i]? = some (f as[i]) := by rw [List.getElem?_map, ea] <;> rfl
    have etk : as.take (i + 1) = as.take i ++ [as[i]] := List.take_succ_eq_append_getElem hlt
    have hacc : acc.length ≤ 100000 := by
      rw [r.length, List.length_map]
      exact Nat.le_trans (List.length_filter_le _ _) (Nat.le_trans (List.length_take_le' _ _) hz)
    obtain ⟨go, yl⟩ := y1 i _ ef
    refine .inr ⟨go, fun G4 => i + 1 ≤ as.length ∧ ∃ G acc, Sep K1 H2 G G4 ∧ G L = none ∧ G4 L = some (.lst acc) ∧ All2 G acc (((as.take (i + 1)).filter t).map h), fun G4 w => ⟨as.length - (i + 1), by omega, rfl, w⟩, fun x G2 yx => ?_⟩
    obtain ⟨G', s2, rx⟩ := yl x G2 yx
    obtain ⟨σ2, hb, hw, ht, he⟩ := hs as[i] x G' (List.getElem_mem hlt) (s.a.trans (sG.a.trans s2.a)) rx
    have n2 := s2.keep nL gL
    refine hb G2 s2.b _ ⟨hw, ht G2 s2.b _ fun G3 e3 => ?_⟩
    have s3 : Sep K1 H2 G' G3 := (sG.trans s2).ext e3
    cases hta : t as[i] with
    | false =>
      refine ⟨hlt, G', acc, s3, n2.1, e3 _ _ n2.2, ?_⟩
      rw [etk, List.filter_append, List.filter_cons, if_neg (by rw [hta]; decide)]
      simpa using r.mono s2.a
    | true =>
      refine (he hta) G3 s3.b _ fun w G4 H4 s4 rw' => ?_
      have n3 := s4.keep n2.1 (e3 _ _ n2.2)
      refine ⟨acc, n3.2, Nat.lt_of_le_of_lt hacc (by decide), hlt, G4, acc ++ [w], (s3.trans s4).mut hL n3.1, n3.1, upd_same, ?_⟩
      rw [etk, List.filter_append, List.filter_cons, if_pos hta, List.map_append]
      exact (r.mono (s2.a.trans s4.a)).snoc rw'
  · have ei : i = as.length := by omega
    subst ei
    rw [List.take_length] at r
    rw [hlen] at y2
    exact .inl ⟨y2, q _ _ _ ((s.trans sG).own (s.c.back hL) nL gL) ⟨L, acc, rfl, upd_same, r.mono (Ex.new nL)⟩⟩
/-- without a test -/
theorem ev_lcA {α : Type} {wi : TI} {vs : List Nat} {as : List α} {f h : α → Pr} (hi : EvI wi σ H (as.map f)) (hz : as.length ≤ 100000)
    (hs : ∀ a v G, a ∈ as → Ex H G → (f a).p G v → ∃ σ2, Bnd g v (wipe σ vs) G σ2 ∧ wipe σ2 vs = wipe σ vs ∧ Ev te σ2 G (h a)) :
    Ev (tLc wi g tYes te vs) σ H (pL (as.map h)) := by
  have q := ev_lc (t := fun _ => true) (tt := tYes) (h := h) hi hz fun a v G ha e r => by
    obtain ⟨σ2, h1, h2, h3⟩ := hs a v G ha e r
    exact ⟨σ2, h1, h2, et_yes, fun _ => h3⟩
  rw [List.filter_eq_self.mpr (fun _ _ => rfl)] at q
  exact q
end
end Rb
set_option Elab.async false
set_option linter.all false
set_option maxRecDepth 100000
set_option maxHeartbeats 2000000
/-! Two-clause and dict comprehensions; defs by their promises. -/
namespace Rb
open PySem PySem.Spec PyProof.Rows L2

section
variable {K : PySem.W.Frag} {σ : L2.St} {H H1 H' : Hp} {ta tb tc te tx tk tv : TE} {t u : TT} {r : R2} {R S A B : Pr} {ps qs : List Pr} {x y z : V} {D : Ends} {tu tw tz : TS} {g g1 : TG}
theorem ev_lc2 {α β : Type} {wi wi1 : TI} {vs vs1 : List Nat} {as : List α} {bs : α → List β} {f : α → Pr} {f1 h : α → β → Pr} {t : α → Bool} {t1 : α → β → Bool} {tt tt1 : TT} (hi : EvI wi σ H (as.map f)) (hz : (as.flatMap bs).length ≤ 100000)
    (hs : ∀ a v G, a ∈ as → Ex H G → (f a).p G v → ∃ σ2, Bnd g v (wipe σ vs) G σ2 ∧ wipe σ2 vs = wipe σ vs ∧ EvT tt σ2 G (t a) ∧ (t a = true → EvI wi1 σ2 G ((bs a).map (f1 a)) ∧
      ∀ b w G', b ∈ bs a → Ex G G' → (f1 a b).p G' w → ∃ σ3, Bnd g1 w (wipe σ2 vs1) G' σ3 ∧ wipe σ3 vs1 = wipe σ2 vs1 ∧ EvT tt1 σ3 G' (t1 a b) ∧ (t1 a b = true → Ev te σ3 G' (h a b)))) :
    Ev (tLc2 wi g tt wi1 g1 tt1 te vs vs1) σ H (pL ((as.filter t).flatMap fun a => ((bs a).filter (t1 a)).map (h a))) := fun H1 e Q q => hi H1 e _ fun J K1 H2 s y L hL => by
  have kL : K1 L = none := s.b.back hL
  have hlen : (as.map f).length = as.length := List.length_map ..
  generalize hsel : (fun (a : α) => ((bs a).filter (t1 a)).map (h a)) = sel
  have bsel : ∀ a, (sel a).length ≤ (bs a).length := fun a => by
    rw [← hsel]
    show (((bs a).filter (t1 a)).map (h a)).length ≤ _
    rw [List.length_map]
    exact List.length_filter_le _ _
  have bnd : ∀ l : List α, ((l.filter t).flatMap sel).length ≤ (l.flatMap bs).length := fun l => by
    induction l with
    | nil => simp
    | cons a l ih =>
      rw [List.flatMap_cons, List.length_append, List.filter_cons]
      split
      · rw [List.flatMap_cons, List.length_append]
        have := bsel a
        omega
      · omega
  refine ⟨fun i m G1 => m = as.length - i ∧ i ≤ as.length ∧ ∃ G acc, Sep K1 H2 G G1 ∧ G L = none ∧ G1 L = some (.lst acc) ∧ All2 G acc (((as.take i).filter t).flatMap sel), ⟨as.length, by simp, Nat.zero_le _, K1, [], Sep.hid s.b hL, kL, upd_same, by simp [All2]⟩, ?_⟩
  rintro i m G1 ⟨rfl, hi2, G, acc, sG, nL, gL, r⟩
  obtain ⟨y1, y2⟩ := y.mono sG.a G1 sG.b
  by_cases hlt : i < as.length
  · have ea : as[i]? = some as[i] := List.getElem?_eq_getElem hlt
    have ef : (as.map f)[i]? = some (f as[i]) := by rw [List.getElem?_map, ea] <;> rfl
    have etk : as.take (i + 1) = as.take i ++ [as[i]] := List.take_succ_eq_append_getElem hlt
    have htot : ((as.take i).flatMap bs).length + (bs as[i]).length ≤ 100000 := by
      have e1 : as = as.take (i + 1) ++ as.drop (i + 1) := (List.take_append_drop _ _).symm
      have e2 : (as.flatMap bs).length = ((as.take (i + 1)).flatMap bs).length + ((as.drop (i + 1)).flatMap bs).length := by
        conv => lhs; rw [e1]
        rw [List.flatMap_append, List.length_append]
      have e3 : ((as.take (i + 1)).flatMap bs).length = ((as.take i).flatMap bs).length + (bs as[i]).length := by
        rw [etk, List.flatMap_append, List.length_append]
        simp
      omega
    have hacc : acc.length ≤ ((as.take i).flatMap bs).length := by
      rw [r.length]
      exact bnd _
    obtain ⟨go, yl⟩ := y1 i _ ef
    refine .inr ⟨go, fun G4 => i + 1 ≤ as.length ∧ ∃ G acc, Sep K1 H2 G G4 ∧ G L = none ∧ G4 L = some (.lst acc) ∧ All2 G acc (((as.take (i + 1)).filter t).flatMap sel), fun G4 w => ⟨as.length - (i + 1), by omega, rfl, w⟩, fun x G2 yx => ?_⟩
    obtain ⟨G', s2, rx⟩ := yl x G2 yx
    obtain ⟨σ2, hb, hw, ht, he⟩ := hs as[i] x G' (List.getElem_mem hlt) (s.a.trans (sG.a.trans s2.a)) rx
    have n2 := s2.keep nL gL
    refine hb G2 s2.b _ ⟨hw, ht G2 s2.b _ fun G3 e3 => ?_⟩
    have s3 : Sep K1 H2 G' G3 := (sG.trans s2).ext e3
    cases hta : t as[i] with
    | false =>
      refine ⟨hlt, G', acc, s3, n2.1, e3 _ _ n2.2, ?_⟩
      rw [etk, List.filter_append, List.filter_cons, if_neg (by rw [hta]; decide)]
      simpa using r.mono s2.a
    | true =>
      obtain ⟨hi1, hs1⟩ := he hta
      refine hi1 G3 s3.b _ fun J1 K3 H4 s4 yi => ?_
      have n4 := s4.keep n2.1 (e3 _ _ n2.2)
      have s5 := s3.trans s4
      have hlen1 : ((bs as[i]).map (f1 as[i])).length = (bs as[i]).length := List.length_map ..
      have efin : ((as.take (i + 1)).filter t).flatMap sel = ((as.take i).filter t).flatMap sel ++ sel as[i] := by
        rw [etk, List.filter_append, List.filter_cons, if_pos hta, List.flatMap_append]
        simp
      refine ⟨fun j k G1 => k = (bs as[i]).length - j ∧ j ≤ (bs as[i]).length ∧ ∃ G acc, Ex K3 G ∧ Sep K1 H2 G G1 ∧ G L = none ∧ G1 L = some (.lst acc) ∧ All2 G acc (((as.take i).filter t).flatMap sel ++ (((bs as[i]).take j).filter (t1 as[i])).map (h as[i])),
        ⟨(bs as[i]).length, by simp, Nat.zero_le _, K3, acc, Ex.refl _, s5, n4.1, n4.2, by simpa using r.mono (s2.a.trans s4.a)⟩, ?_⟩
      rintro j k F1 ⟨rfl, hj, F, acc1, tF, sF, nF, gF, rF⟩
      obtain ⟨z1, z2⟩ := yi.mono tF F1 sF.b
      by_cases hlj : j < (bs as[i]).length
      · have eb : (bs as[i])[j]? = some (bs as[i])[j] := List.getElem?_eq_getElem hlj
        have ef1 : ((bs as[i]).map (f1 as[i]))[j]? = some (f1 as[i] (bs as[i])[j]) := by rw [List.getElem?_map, eb] <;> rfl
        have etj : (bs as[i]).take (j + 1) = (bs as[i]).take j ++ [(bs as[i])[j]] := List.take_succ_eq_append_getElem hlj
        have hac1 : acc1.length ≤ 100000 := by
          rw [rF.length, List.length_append, List.length_map]
          have h1 := bnd (as.take i)
          have h2 := List.length_filter_le (t1 as[i]) ((bs as[i]).take j)
          have h3 := List.length_take_le' j (bs as[i])
          omega
        obtain ⟨go1, yl1⟩ := z1 j _ ef1
        refine .inr ⟨go1, fun G4 => j + 1 ≤ (bs as[i]).length ∧ ∃ G acc, Ex K3 G ∧ Sep K1 H2 G G4 ∧ G L = none ∧ G4 L = some (.lst acc) ∧ All2 G acc (((as.take i).filter t).flatMap sel ++ (((bs as[i]).take (j + 1)).filter (t1 as[i])).map (h as[i])), fun G4 w => ⟨(bs as[i]).length - (j + 1), by omega, rfl, w⟩, fun x F2 yx => ?_⟩
        obtain ⟨F', s6, rx⟩ := yl1 x F2 yx
        obtain ⟨σ3, hb3, hw3, ht3, he3⟩ := hs1 (bs as[i])[j] x F' (List.getElem_mem hlj) (s4.a.trans (tF.trans s6.a)) rx
        have n6 := s6.keep nF gF
        refine hb3 F2 s6.b _ ⟨hw3, ht3 F2 s6.b _ fun F3 e6 => ?_⟩
        have s7 : Sep K1 H2 F' F3 := (sF.trans s6).ext e6
        cases htb : t1 as[i] (bs as[i])[j] with
        | false =>
          refine ⟨hlj, F', acc1, tF.trans s6.a, s7, n6.1, e6 _ _ n6.2, ?_⟩
          rw [etj, List.filter_append, List.filter_cons, if_neg (by rw [htb]; decide)]
          simpa using rF.mono s6.a
        | true =>
          refine (he3 htb) F3 s7.b _ fun w F4 H5 s8 rw' => ?_
          have n8 := s8.keep n6.1 (e6 _ _ n6.2)
          refine ⟨acc1, n8.2, Nat.lt_of_le_of_lt hac1 (by decide), hlj, F4, acc1 ++ [w], tF.trans (s6.a.trans s8.a), (s7.trans s8).mut hL n8.1, n8.1, upd_same, ?_⟩
          rw [etj, List.filter_append, List.filter_cons, if_pos htb, List.map_append, ← List.append_assoc]
          exact (rF.mono (s6.a.trans s8.a)).snoc rw'
      · have ej : j = (bs as[i]).length := by omega
        subst ej
        rw [List.take_length] at rF
        rw [hlen1] at z2
        refine .inl ⟨z2, hlt, F, acc1, sF, nF, gF, ?_⟩
        rw [efin, ← hsel]
        rw [← hsel] at rF
        exact rF
  · have ei : i = as.length := by omega
    subst ei
    rw [List.take_length] at r
    rw [hlen] at y2
    rw [← hsel] at r
    exact .inl ⟨y2, q _ _ _ ((s.trans sG).own (s.c.back hL) nL gL) ⟨L, acc, rfl, upd_same, r.mono (Ex.new nL)⟩⟩

/-! dict comprehensions: keys apart -/
theorem valV_no {κ : Type} [DecidableEq κ] : ∀ {kvs : List (κ × V)} {k : κ}, k ∉ kvs.map Prod.fst → valV kvs k = none
  | [], _, _ => rfl
  | p :: r, k, h => by
    rw [valV_neg (fun e => h (by rw [List.map_cons, e]; exact List.mem_cons_self))]
    exact valV_no fun m => h (by rw [List.map_cons]; exact List.mem_cons_of_mem _ m)
theorem zip_fst {α β : Type} {as : List α} {bs : List β} (h : as.length = bs.length) : (as.zip bs).map Prod.fst = as := List.map_fst_zip (Nat.le_of_eq h)
theorem ev_dc {α : Type} {wi : TI} {vs : List Nat} {as : List α} {key : α → Key} {f h : α → Pr} (hi : EvI wi σ H (as.map f)) (hz : as.length ≤ 100000) (hn : (as.map key).Nodup)
    (hs : ∀ a v G, a ∈ as → Ex H G → (f a).p G v → ∃ σ2, Bnd g v (wipe σ vs) G σ2 ∧ wipe σ2 vs = wipe σ vs ∧ Ev tk σ2 G (pV (kV (key a))) ∧ Ev tv σ2 G (h a)) :
    Ev (tDc wi g tYes tk tv vs) σ H (pD (as.map fun a => (key a, h a))) := fun H1 e Q q => hi H1 e _ fun J K1 H2 s y L hL => by
  have kL : K1 L = none := s.b.back hL
  have hlen : (as.map f).length = as.length := List.length_map ..
  refine ⟨fun i m G1 => m = as.length - i ∧ i ≤ as.length ∧ ∃ G acc, Sep K1 H2 G G1 ∧ G L = none ∧ G1 L = some (.dK (((as.take i).map key).zip acc)) ∧ All2 G acc ((as.take i).map h), ⟨as.length, by simp, Nat.zero_le _, K1, [], Sep.hid s.b hL, kL, upd_same, by simp [All2]⟩, ?_⟩
  rintro i m G1 ⟨rfl, hi2, G, acc, sG, nL, gL, r⟩
  obtain ⟨y1, y2⟩ := y.mono sG.a G1 sG.b
  by_cases hlt : i < as.length
  · have ea : as[i]? = some as[i] := List.getElem?_eq_getElem hlt
    have ef : (as.map f)[i]? = some (f as[i]) := by rw [List.getElem?_map, ea] <;> rfl
    have etk : as.take (i + 1) = as.take i ++ [as[i]] := List.take_succ_eq_append_getElem hlt
    have hal : acc.length = i := by
      rw [r.length, List.length_map, List.length_take]
      omega
    have hkl : ((as.take i).map key).length = acc.length := by
      rw [hal, List.length_map, List.length_take]
      omega
    obtain ⟨go, yl⟩ := y1 i _ ef
    refine .inr ⟨go, fun G4 => i + 1 ≤ as.length ∧ ∃ G acc, Sep K1 H2 G G4 ∧ G L = none ∧ G4 L = some (.dK (((as.take (i + 1)).map key).zip acc)) ∧ All2 G acc ((as.take (i + 1)).map h), fun G4 w => ⟨as.length - (i + 1), by omega, rfl, w⟩, fun x G2 yx => ?_⟩
    obtain ⟨G', s2, rx⟩ := yl x G2 yx
    obtain ⟨σ2, hb, hw, hk, hv⟩ := hs as[i] x G' (List.getElem_mem hlt) (s.a.trans (sG.a.trans s2.a)) rx
    have n2 := s2.keep nL gL
    refine hb G2 s2.b _ ⟨hw, ?_⟩
    show tk σ2 G2 _
    refine hk G2 s2.b _ fun yk G3 H3 s3 ek => ?_
    have n3 := s3.keep n2.1 n2.2
    refine (hv.mono s3.a) H3 s3.b _ fun w G4 H4 s4 rw' => ?_
    have n4 := s4.keep n3.1 n3.2
    have hnew : valV (((as.take i).map key).zip acc) (key as[i]) = none := valV_no (by
      rw [zip_fst hkl]
      intro hm
      have e1 : as.map key = (as.take i).map key ++ (as.drop i).map key := by rw [← List.map_append, List.take_append_drop]
      rw [e1] at hn
      refine (List.nodup_append.mp hn).2.2 _ hm _ ?_ rfl
      rw [List.drop_eq_getElem_cons hlt]
      exact List.mem_map.mpr ⟨_, List.mem_cons_self, rfl⟩)
    refine ⟨_, key as[i], ek, n4.2, ?_, hlt, G4, acc ++ [w], (((sG.trans s2).trans s3).trans s4).mut hL n4.1, n4.1, ?_, ?_⟩
    · rw [List.length_zip, hkl, Nat.min_self, hal]
      exact Nat.lt_of_lt_of_le hlt (Nat.le_trans hz (by decide))
    · rw [upd_same, putK_new _ hnew, etk, List.map_append, List.zip_append hkl]
      rfl
    · rw [etk, List.map_append]
      exact (r.mono (s2.a.trans (s3.a.trans s4.a))).snoc rw'
  · have ei : i = as.length := by omega
    subst ei
    rw [List.take_length] at r gL
    rw [hlen] at y2
    refine .inl ⟨y2, q _ _ _ ((s.trans sG).own (s.c.back hL) nL gL) ⟨L, acc, rfl, ?_, ?_⟩⟩
    · rw [upd_same, List.map_map]
      rfl
    · rw [List.map_map]
      exact r.mono (Ex.new nL)
end

/-! ### defs -/
section
variable {P : Program} {w : World} {K : PySem.W.Frag} {mg : Str → Option Value} {base : Heap}
/-- a def of the module, a method: its text as it stands behind the top -/
structure Df (K : PySem.W.Frag) (mg : Str → Option Value) (x : Str) (st : Stmt) (dvs : List V) (kws : List (Str × V)) : Prop where
  ex : ∃ f fd, FunD K x x (defArgs st) (defBody st) (defScope st) dvs kws f fd ∧ mg x = some (.ref f)
structure Dm (K : PySem.W.Frag) (C : Addr) (x qual : Str) (st : Stmt) : Prop where
  ex : ∃ f fd, FunD K x qual (defArgs st) (defBody st) (defScope st) [] [] f fd ∧ Meth K C x f
/-- .. with their promises -/
structure Fn (P : Program) (w : World) (K : PySem.W.Frag) (mg : Str → Option Value) (base : Heap) (k : Nat) (x : Str) (ps : List Str) (sp : Sp) : Prop where
  ex : ∃ f fd, FnOk P w K mg base CX0 k f fd ps sp ∧ mg x = some (.ref f) ∧ PySem.W.keepIn K (.ref f) = true ∧ Binds K fd ps []
structure Me (P : Program) (w : World) (K : PySem.W.Frag) (mg : Str → Option Value) (base : Heap) (k : Nat) (C : Addr) (x : Str) (ps : List Str) (sp : Sp) : Prop where
  ex : ∃ f fd, FnOk P w K mg base CX0 k f fd ps sp ∧ Meth K C x f ∧ Binds K fd ps []
/-- a property and its getter's promise -/
structure Pp (P : Program) (w : World) (K : PySem.W.Frag) (mg : Str → Option Value) (base : Heap) (k : Nat) (C : Addr) (x : Str) (sp : Sp) : Prop where
  ex : ∃ p g fd, FnOk P w K mg base CX0 k g fd ["self"] sp ∧ PropOf K C x p g ∧ Binds K fd ["self"] []
variable {x qual : Str} {params : Arguments} {body : List Stmt} {scope : Scope} {kws : List (Str × V)} {f : Addr} {fd : FuncData} {N ps : List Str} {k : Nat} {α : Type} {Ps : α → List Pr} {pre : α → Prop} {Rs : α → Pr}
/-- THE RULE for a def -/
theorem okN {dvs : List V} (F : FunD K x qual params body scope dvs kws f fd) (S : FnScope N ps scope) (hl : ∀ a, (Ps a).length = ps.length)
    (hb : ∀ (cdv : Value) (A : Around) (outer : List Env) (s : Shared) (H1 : Hp) (vs : List V) (Q : VK) (E : XK) (a : α) (H : Hp), Room k (A.deeper (envOfC qual scope s.heap.objs.size f cdv)) → Ex H H1 → pre a → All2 H vs (Ps a) → Ret H H1 (Rs a) Q →
      ∃ t, PSs (cxOf CX0 P w K mg base N qual scope f cdv A outer s H1 E).nox body t ∧ t { nx := fun _ H' => Q .non H', rt := Q } (start N vs) H1) : FnOk P w K mg base CX0 (k + 1) f fd ps (spN Ps pre Rs) :=
  F.ok S (fun vs H Q E ⟨a, H0, _, _, h, _⟩ => by rw [h.length, hl]) fun cdv A outer s H1 vs Q E hr ⟨a, H, e, hp, h, q⟩ => by
    obtain ⟨t, h1, h2⟩ := hb cdv A outer s H1 vs Q E a H hr e hp h q
    exact ⟨t, h1.nox, h2⟩
end
section
variable {X : Cx} {k j : Nat} {x m : Str} {ps : List Str} {sp : Sp} {C : Addr} {e o : Expr} {es : List Expr} {t : TA} {ta : TE} {p pos apos : Pos}
theorem pe_fn (F : Fn X.prog X.w X.K X.mg X.base k x ps sp) (hr : Room j X.A) (hk : k ≤ j) (hg : Gl X x) (ha : PA X (e :: es) t) (hdb : (x == ("__debug__" : Str)) = false := by decide)
    (he : starEach (e :: es) X.env = (false, eval e X.env) :: starEach es X.env := by rfl) (hpl : (backTo pos (starEach es X.env)).any (·.1) = false := by rfl) :
    PE X (.Call (.Name x p) (e :: es) [] pos) (tCall sp [] E0 t) := by
  obtain ⟨f, fd, G, hm, kp, hb⟩ := F.ex
  exact pe_call G (hr.mono hk) hg hm kp hb .nil pass0 ha hdb he hpl
theorem pe_me {pl : Sem Bool} (M : Me X.prog X.w X.K X.mg X.base k C m ps sp) (c : Cls X.K C) (hr : Room j X.A) (hk : k ≤ j) (ho : PE X o ta) (ha : PA X (e :: es) t)
    (hst : starEach (e :: es) X.env = (false, eval e X.env) :: starEach es X.env := by rfl) (hpl : (backTo pos (starEach es X.env)).any (·.1) = false := by rfl)
    (ht : eval (.Call (.Attribute o m apos) (e :: es) [] pos) X.env = (do
      let ov ← eval o X.env
      standAt apos.atName
      let (f, first) ← holding [ov] (getMethod ov m pl)
      callWith pos f first (backTo pos (starEach (e :: es) X.env)) (backToKw pos (keywordEach [] X.env))) := by rfl) :
    PE X (.Call (.Attribute o m apos) (e :: es) [] pos) (tMeth C m sp [] E0 ta t) := by
  obtain ⟨f, fd, G, hm, hb⟩ := M.ex
  exact pe_meth (pl := pl) ho c hm G (hr.mono hk) hb .nil pass0 ha hst hpl ht
theorem pe_me0 {pl : Sem Bool} (M : Me X.prog X.w X.K X.mg X.base k C m ps sp) (c : Cls X.K C) (hr : Room j X.A) (hk : k ≤ j) (ho : PE X o ta)
    (ht : eval (.Call (.Attribute o m apos) [] [] pos) X.env = (do
      let ov ← eval o X.env
      standAt apos.atName
      let (f, first) ← holding [ov] (getMethod ov m pl)
      callWith pos f first (backTo pos (starEach [] X.env)) (backToKw pos (keywordEach [] X.env))) := by rfl) :
    PE X (.Call (.Attribute o m apos) [] [] pos) (tMeth C m sp [] E0 ta tNil) := by
  obtain ⟨f, fd, G, hm, hb⟩ := M.ex
  exact pe_meth0 (pl := pl) ho c hm G (hr.mono hk) hb .nil pass0 ht
theorem pe_pp (M : Pp X.prog X.w X.K X.mg X.base k C m sp) (c : Cls X.K C) (hr : Room j X.A) (hk : k + 1 ≤ j) (ho : PE X o ta) (hab : attributeBase o m X.env (eval o X.env) = eval o X.env) : PE X (.Attribute o m pos) (tProp C sp [] E0 ta) := by
  obtain ⟨p, g, fd, G, hp, hb⟩ := M.ex
  exact pe_prop ho c hp G (hr.mono hk) hb .nil (fun _ _ _ _ _ _ _ h => h.elim) hab
end
end Rb
set_option Elab.async false
set_option linter.all false
set_option maxRecDepth 100000
set_option maxHeartbeats 2000000
/-! The program's text by places, the facts of its globals, logs as data. -/
namespace Rb
open PySem PySem.Spec PyProof.Rows L2

def topS (i : Nat) : Stmt := PySem.Challenge.pw_risingbars_k77_whole_bounds_of_changes.main.body.getD i (.Pass ⟨0, 0, 0, 0⟩)

/-- what the module's names stand for -/
structure Bz (K : PySem.W.Frag) (mg : Str → Option Value) (CL CC : Addr) : Prop where
  len : mg "len" = none
  range : mg "range" = none
  max : mg "max" = none
  min : mg "min" = none
  sorted : mg "sorted" = none
  set : mg "set" = none
  all : mg "all" = none
  any : mg "any" = none
  list : mg "list" = none
  dict : mg "dict" = none
  int : mg "int" = none
  abs : mg "abs" = none
  enumerate : mg "enumerate" = none
  LETTERS : ∃ t, mg "LETTERS" = some (.str "abcdefghijklmnopqrstuvwxyz0123456789" t)
  RISES : ∃ t, mg "RISES" = some (.str "rises" t)
  FALLS : ∃ t, mg "FALLS" = some (.str "falls" t)
  STAYS : ∃ t, mg "STAYS" = some (.str "stays" t)
  ANSWER : ∃ t, mg "ANSWER" = some (.str "answer" t)
  RESET : ∃ t, mg "RESET" = some (.str "reset" t)
  MOST_ITEMS : ∃ t, mg "MOST_ITEMS" = some (.int 20 t)
  MOST_JUDGES : ∃ t, mg "MOST_JUDGES" = some (.int 8 t)
  MOST_EVENTS : ∃ t, mg "MOST_EVENTS" = some (.int 120 t)
  MOST_GRADE : ∃ t, mg "MOST_GRADE" = some (.int 9 t)
  MOST_PLACES : ∃ t, mg "MOST_PLACES" = some (.int 10 t)
  MOST_ANSWERS : ∃ t, mg "MOST_ANSWERS" = some (.int 40 t)
  Log : mg "Log" = some (.ref CL)
  Case : mg "Case" = some (.ref CC)
  c_Log : Cls K CL
  c_Case : Cls K CC
  l_items : NoAttr K CL "_items"
  l_grades : NoAttr K CL "_grades"
  l_judges : NoAttr K CL "_judges"
  l_events : NoAttr K CL "_events"
  c_items : NoAttr K CC "_items"
  c_grades : NoAttr K CC "_grades"
  c_drifts : NoAttr K CC "_drifts"
  c_told : NoAttr K CC "_told"
  c_lots : NoAttr K CC "_lots"
section
variable {X : Cx} {x z : Str} {i : Int} {pos : Pos}
theorem pe_gs (hg : Gl X x) (hm : ∃ t, X.mg x = some (.str z t)) (hd : (x == ("__debug__" : Str)) = false := by decide) : PE X (.Name x pos) (tC (.str z)) := by
  obtain ⟨t, hm⟩ := hm
  exact pe_glob hg hm ⟨t, rfl⟩ hd
theorem pe_gi (hg : Gl X x) (hm : ∃ t, X.mg x = some (.int i t)) (hd : (x == ("__debug__" : Str)) = false := by decide) : PE X (.Name x pos) (tC (.int i)) := by
  obtain ⟨t, hm⟩ := hm
  exact pe_glob hg hm ⟨t, rfl⟩ hd
end

/-! ### logs -/
inductive EvD where
  | ans (j i : Str) (g : Nat)
  | res (j : Str)
  deriving DecidableEq
structure LogD where
  items : List Str
  grades : Nat
  judges : List (Str × Str)
  events : List EvD
def pJ (j : Str × Str) : Pr := pT [pS j.1, pS j.2]
def pEv : EvD → Pr
  | .ans j i g => pT [pS "answer", pS j, pS i, pN g]
  | .res j => pT [pS "reset", pS j]
def pNs (ns : List Nat) : Pr := pL (ns.map pN)
def pLog (CL : Addr) (l : LogD) : Pr := pO CL [("_items", pL (l.items.map pS)), ("_grades", pN l.grades), ("_judges", pL (l.judges.map pJ)), ("_events", pL (l.events.map pEv))]
/-- a log's instance -/
theorem pLog_at {CL : Addr} {l : LogD} {H : Hp} {v : V} (h : (pLog CL l).p H v) : ∃ a dx vi vj ve, v = .ref a ∧ H a = some (.ins CL dx [("_items", vi), ("_grades", .int l.grades), ("_judges", vj), ("_events", ve)]) ∧
    (pL (l.items.map pS)).p H vi ∧ (pL (l.judges.map pJ)).p H vj ∧ (pL (l.events.map pEv)).p H ve := by
  obtain ⟨a, dx, vs, rfl, ha, hx⟩ := h
  match vs, hx with
  | [vi, vg, vj, ve], ⟨h1, h2, h3, h4, _⟩ =>
    have h2 : vg = .int l.grades := h2
    subst h2
    exact ⟨a, dx, vi, vj, ve, rfl, ha, h1, h3, h4⟩
  | [], h => exact h.elim
  | [_], h => exact h.2.elim
  | [_, _], h => exact h.2.2.elim
  | [_, _, _], h => exact h.2.2.2.elim
  | _ :: _ :: _ :: _ :: _ :: _, h => exact h.2.2.2.2.elim
section
variable {K : PySem.W.Frag} {mg : Str → Option Value} {CL CC : Addr} {σ : L2.St} {H : Hp} {te : TE} {l : LogD}
theorem ev_l_items (Z : Bz K mg CL CC) (h : Ev te σ H (pLog CL l)) : Ev (tFld K te "_items") σ H (pL (l.items.map pS)) := ev_fld h (fun H v r => by
  obtain ⟨a, dx, vi, vj, ve, e, h, h1, h2, h3⟩ := pLog_at r
  exact ⟨a, dx, _, vi, e, h, rfl, h1⟩) Z.c_Log Z.l_items
theorem ev_l_grades (Z : Bz K mg CL CC) (h : Ev te σ H (pLog CL l)) : Ev (tFld K te "_grades") σ H (pN l.grades) := ev_fld h (fun H v r => by
  obtain ⟨a, dx, vi, vj, ve, e, h, h1, h2, h3⟩ := pLog_at r
  exact ⟨a, dx, _, _, e, h, rfl, rfl⟩) Z.c_Log Z.l_grades
theorem ev_l_judges (Z : Bz K mg CL CC) (h : Ev te σ H (pLog CL l)) : Ev (tFld K te "_judges") σ H (pL (l.judges.map pJ)) := ev_fld h (fun H v r => by
  obtain ⟨a, dx, vi, vj, ve, e, h, h1, h2, h3⟩ := pLog_at r
  exact ⟨a, dx, _, vj, e, h, rfl, h2⟩) Z.c_Log Z.l_judges
theorem ev_l_events (Z : Bz K mg CL CC) (h : Ev te σ H (pLog CL l)) : Ev (tFld K te "_events") σ H (pL (l.events.map pEv)) := ev_fld h (fun H v r => by
  obtain ⟨a, dx, vi, vj, ve, e, h, h1, h2, h3⟩ := pLog_at r
  exact ⟨a, dx, _, ve, e, h, rfl, h3⟩) Z.c_Log Z.l_events
theorem lookup_keys {m : Str} : ∀ {fs gs : List (Str × V)}, fs.map Prod.fst = gs.map Prod.fst → fs.lookup m = none → gs.lookup m = none
  | [], [], _, _ => rfl
  | (a, u) :: fs, (b, v) :: gs, h, e => by
    obtain ⟨h1, h2⟩ := List.cons.inj (show a :: fs.map Prod.fst = b :: gs.map Prod.fst from h)
    subst h1
    rw [List.lookup_cons] at e ⊢
    cases q : m == a with
    | true =>
      rw [q] at e
      cases e
    | false =>
      rw [q] at e
      exact lookup_keys h2 e
theorem log_ins {m : Str} (h : ([("_items", V.non), ("_grades", V.non), ("_judges", V.non), ("_events", V.non)] : List (Str × V)).lookup m = none) : IsIns CL m (pLog CL l) := fun H v r => by
  obtain ⟨a, dx, vi, vj, ve, e, ha, h1, h2, h3⟩ := pLog_at r
  exact ⟨a, dx, _, e, ha, lookup_keys (by rfl) h⟩
theorem log_prop (H : Hp) (v : V) (r : (pLog CL l).p H v) : ∃ a dx fs, v = .ref a ∧ H a = some (.ins CL dx fs) := by
  obtain ⟨a, dx, vi, vj, ve, e, ha, _⟩ := pLog_at r
  exact ⟨a, dx, _, e, ha⟩
end
end Rb
set_option Elab.async false
set_option linter.all false
set_option maxRecDepth 100000
set_option maxHeartbeats 3200000
/-! Rules that the hand layer lacks: len(set(xs)) of several texts; max, min with default=, of data. -/
namespace Rb
open PySem PySem.Spec PyProof.Rows L2

/-! ### set(xs), xs different texts -/
section
variable {prog : Program} {w : World} {A : Around} {R : Result → Shared → Prop} {I : Addr} {fp wr : List Addr} {G : Array GenState → Array GenState → Prop} {n : Nat} {P : Nat → Value → Prop} {T : Nat → Shared → Prop}
theorem set_fill (W : WalksS prog w A.in1 I fp wr G n P T) (S : Addr) (hS0 : S ∉ fp) (xs : List Str) (hx : xs.length = n) (hd : xs.Nodup) (hb : n + 1 < scanBound) (hv : ∀ i v, P i v → ∃ t, v = .str (xs.getD i Str.empty) t) :
    ∀ (k i : Nat) (s : Shared), n - i = k → i ≤ n → T i s → s.heap.SetOf (PySem.strKind prog w) S (fun y => (xs.take i).any (· == y)) i →
      (∀ s', Moved (S :: wr) G s s' → s'.heap.SetOf (PySem.strKind prog w) S (fun y => (xs.take n).any (· == y)) n → R (.ok (.ret .none)) s') → codeAny (model prog w) A (.builtin "set.update.loop" ⟨[.ref S, .ref I], []⟩) R s := by
  have notw : S ∉ wr := fun h => hS0 (W.sub _ h)
  have wider : ∀ b ∈ wr, b ∈ S :: wr := fun b h => List.mem_cons_of_mem _ h
  intro k
  induction k with
  | zero =>
    intro i s hk hi ht hs hR
    obtain rfl : i = n := by omega
    refine codeAny_builtin PyProof.Rows.F.entry_set_update_loop ?_
    rw [Around.under_plainId PyProof.Rows.F.plain_set_update_loop _]
    show wpAny _ A.in1 (pyNext (.ref I) >>= _) _ _ s
    refine wpAny_bind (W.done s _ _ ht fun s' m => ?_)
    show wpAny _ A.in1 (ret Value.none) _ _ s'
    obtain ⟨o, es, ep, t, ho, more⟩ := hs
    exact wpAny_pure (hR s' (m.mono wider) ⟨o, es, ep, t, m.heap S _ notw ho, more⟩)
  | succ k ih =>
    intro i s hk hi ht hs hR
    have lt : i < n := by omega
    refine codeAny_builtin PyProof.Rows.F.entry_set_update_loop ?_
    rw [Around.under_plainId PyProof.Rows.F.plain_set_update_loop _]
    show wpAny _ A.in1 (pyNext (.ref I) >>= _) _ _ s
    refine wpAny_bind (W.item i s _ _ lt ht fun v s' hP ht' m => ?_)
    obtain ⟨t, rfl⟩ := hv i v hP
    have hs' : s'.heap.SetOf (PySem.strKind prog w) S (fun y => (xs.take i).any (· == y)) i := by
      obtain ⟨o, es, ep, tb, ho, more⟩ := hs
      exact ⟨o, es, ep, tb, m.heap S _ notw ho, more⟩
    show wpAny _ A.in1 (holding [Value.str (xs.getD i Str.empty) t] (setAdd S (.str (xs.getD i Str.empty) t)) >>= _) _ _ s'
    refine wpAny_bind (wpAny_holding ?_)
    unfold setAdd
    refine wpAny_holding (wpAny_bind ((PySem.strKind prog w).pyHash (k := xs.getD i Str.empty) (strKind_is _ _ _ _) ?_))
    refine wpAny_setAddHashed_of (knd := PySem.strKind prog w) (s := { s' with toks := s'.toks + 1 }) (strKind_is _ _ _ _) rfl hs' (by omega) fun h' sb hs2 => ?_
    have hix : i < xs.length := by omega
    have eD : xs.getD i Str.empty = xs[i] := by rw [List.getD_eq_getElem?_getD, List.getElem?_eq_getElem hix] <;> rfl
    have nin : (xs.take i).any (· == xs[i]) = false := by
      rw [List.any_eq_false]
      intro y hy e
      have e : y = xs[i] := by simpa using e
      have hp : xs = xs.take i ++ xs.drop i := (List.take_append_drop _ _).symm
      rw [hp] at hd
      refine (List.nodup_append.mp hd).2.2 y hy xs[i] ?_ e
      rw [List.drop_eq_getElem_cons hix]
      exact List.mem_cons_self
    have hs3 : h'.SetOf (PySem.strKind prog w) S (fun y => (xs.take (i + 1)).any (· == y)) (i + 1) := by
      refine SetOf_congr hs2 (fun y => ?_) ?_
      · show ((xs.take i).any (· == y) || decide (y = xs.getD i Str.empty)) = (xs.take (i + 1)).any (· == y)
        rw [eD, List.take_succ_eq_append_getElem hix, List.any_append]
        by_cases e : y = xs[i]
        · subst e
          simp
        · have e2 : (xs[i] == y) = false := by simpa using fun q : xs[i] = y => e q.symm
          simp [e, e2]
      · rw [eD]
        simp [nin]
    refine wpAny_pure ⟨plainId_quiet PyProof.Rows.F.plain_set_update_loop _, ih (i + 1) _ (by omega) lt (W.frame _ s' _ _ ht' (Nat.le_succ _) fun b hb o e => ?_) hs3 fun s'' m2 hs4 => ?_⟩
    · rw [sb.2 b (fun q : b = S => hS0 (by rw [← q]; exact hb))]
      exact e
    · refine hR s'' (Moved.trans W.gtrans ((m.mono wider).then_heap (Nat.le_succ _) fun b o hb e => ?_) m2) hs4
      rw [sb.2 b (fun q : b = S => hb (by rw [q]; exact List.mem_cons_self))]
      exact e
end
section
variable {prog : Program} {w : World} {A : Around} {E : Value → Shared → Prop} {s : Shared}
/-- a new, empty set -/
abbrev set0 (led : Bool) : Obj := { cls := .type "set", dict := none, data := .set #[] 0 (.fresh 0 0 led) }
theorem call_set_texts {l : Addr} {items : Array Value} {xs : List Str} {Q : Value → Shared → Prop} (hh : A.handled = none) (hl : s.heap.IsList l items) (hi : PyProof.Rows.StrsAre items.toList xs) (hd : xs.Nodup) (hb : xs.length + 1 < scanBound)
    (h : ∀ (h' : Heap) (tk : Nat), h'.SetOf (PySem.strKind prog w) s.heap.objs.size (fun y => (xs.take items.size).any (· == y)) items.size → (∀ b o, b < s.heap.objs.size → s.heap.get? b = some o → h'.get? b = some o) → Q (.ref s.heap.objs.size) { s with heap := h', toks := tk }) :
    wpAny (model prog w) A (call (.type "set") [.ref l]) Q E s := by
  obtain ⟨c, tl, hmro⟩ := PySem.F.called_set.mro
  have f1 := PySem.F.called_set.made
  have f2 := PySem.F.called_set.sub
  refine wpAny_call (codeAny_of_tree ?_)
  show wpAny _ _ (callAny (.type "set") _) _ _ _
  refine wpAny_pure ⟨Code.quiet_builtin _ (by decide +kernel), codeAny_builtin PySem.F.entry_type_call ?_⟩
  rw [Around.under_plain (weight_type_call_type "set" [.ref l] []) rfl]
  have f3 := PySem.F.called_set.notType
  have f4 := PySem.F.called_set.canCreate
  have f5 := PySem.F.typeCall_set_1 (.ref l)
  repeat (any_goals (first | assumption | wp_step))
  refine codeAny_mono (code_set_new_1 (.ref l) (E := E) (Q₁ := fun obj z => ∃ led : Bool, obj = .ref s.heap.objs.size ∧ z = { s with heap := s.heap.push (set0 led) }) fun led => ⟨led, rfl, rfl⟩) fun r z hr => ?_
  cases r with
  | error e => exact hr
  | ok fl =>
    cases fl with
    | next => exact hr.elim
    | brk => exact hr.elim
    | cont => exact hr.elim
    | ret obj =>
      obtain ⟨led, rfl, rfl⟩ := hr
      have hS : (s.heap.push (set0 led)).get? s.heap.objs.size = some (set0 led) := Heap.get?_push_size _ rfl
      have hT : Shared.TypeIs { s with heap := s.heap.push (set0 led) } (.ref s.heap.objs.size) "set" := ⟨_, hS, rfl⟩
      have f6 := PySem.F.called_set.init.lookup
      have f7 := PySem.F.called_set.init.bind (.ref s.heap.objs.size)
      repeat (any_goals (first | assumption | wp_step))
      refine codeAny_mono (codeAny_call_builtin (R := wants (fun r z => r = .none ∧ ∃ h' tk, z = { s with heap := h', toks := tk } ∧ h'.SetOf (PySem.strKind prog w) s.heap.objs.size (fun y => (xs.take items.size).any (· == y)) items.size ∧
          (∀ b o, b < s.heap.objs.size → s.heap.get? b = some o → h'.get? b = some o)) E) PySem.F.called_set.init.plain PySem.F.entry_set_init (check_set_init_1 hT ?_)) fun r2 z2 hr2 => ?_
      · obtain ⟨⟨ocls, odict, odata, oslots⟩, hol, hcl, nl, hdl⟩ := hl
        simp only at hcl hdl
        subst hcl
        subst hdl
        have hol2 : (s.heap.push (set0 led)).get? l = some { cls := .type "list", dict := odict, data := .seq items nl, slots := oslots } := Heap.get?_push_of_some _ hol
        have f8 := PySem.F.sub_list_set
        have f9 := PySem.F.sub_list_frozenset
        have hne : (Value.type "list" == Value.type "dict") = false := by decide
        have hl1 : (s.heap.push (set0 led)).IsList l items := ⟨_, hol2, rfl, nl, rfl⟩
        unfold Builtin.«set.__init__» noKeywords Builtin.Frozenset.updateFrom
        generalize hPI : pyIter = PI
        wp_walk
        subst hPI
        refine wpAny_pyIter_list hl1 (wpAny_bind (wpAny_runValue ?_))
        have lS : l < s.heap.objs.size := Heap.lt_size hol
        have hh3 : A.in1.in1.in1.handled = none := by simp [hh]
        have hneI : l ≠ (s.heap.push (set0 led)).objs.size := by
          rw [Heap.size_push]
          exact Nat.ne_of_lt (Nat.lt_succ_of_lt lS)
        have hSf : s.heap.objs.size ∉ [(s.heap.push (set0 led)).objs.size, l] := by
          rw [Heap.size_push]
          simp only [List.mem_cons, List.not_mem_nil, or_false, not_or]
          exact ⟨Nat.ne_of_lt (Nat.lt_succ_self _), Nat.ne_of_gt lS⟩
        have hsz : xs.length = items.size := by rw [← StrsAre.len_eq hi, Array.length_toList]
        have hval : ∀ (i : Nat) (v : Value), items[i]? = some v → ∃ t, v = .str (xs.getD i Str.empty) t := fun i v hv => SS.strs_at hi i v (by rw [Array.getElem?_toList]; exact hv)
        have hget : ((s.heap.push (set0 led)).push { cls := .type "list_iterator", data := .fields #[.ref l, .int 0 0] }).get? s.heap.objs.size = some (set0 led) := Heap.get?_push_of_some _ hS
        refine set_fill ((Walks.list hh3 _ l hneI items).toS) s.heap.objs.size hSf xs hsz hd (by rw [← hsz]; exact hb) hval (items.size - 0) 0 _ (by omega) (Nat.zero_le _) ⟨⟨_, Heap.get?_push_size _ rfl, rfl, rfl⟩, hl1.push _⟩
          (PyProof.Rows.SetOf_congr ((PyProof.Rows.setObjOf_fresh (knd := PySem.strKind prog w) led).setOf hget (by unfold scanBound; omega)) (fun _ => rfl) rfl) fun s' m hs2 => ?_
        obtain ⟨h', g', d', tk', os'⟩ := s'
        obtain rfl : g' = s.gens := m.gens
        obtain rfl : d' = s.drawn := m.drawn
        obtain rfl : os' = s.os := m.os
        show wpAny _ _ _ _ _ _
        refine wpAny_pure ?_
        show wpAny _ _ (ret Value.none) _ _ _
        refine wpAny_pure ⟨rfl, h', tk', rfl, hs2, fun b o hb e => m.heap b o ?_ (Heap.get?_push_of_some _ (Heap.get?_push_of_some _ e))⟩
        simp only [List.mem_cons, List.not_mem_nil, or_false, not_or]
        refine ⟨Nat.ne_of_lt hb, ?_⟩
        rw [Heap.size_push]
        exact Nat.ne_of_lt (Nat.lt_succ_of_lt hb)
      · cases r2 with
        | error e => exact hr2
        | ok fl2 =>
          cases fl2 with
          | next => exact hr2.elim
          | brk => exact hr2.elim
          | cont => exact hr2.elim
          | ret r =>
            obtain ⟨rfl, h', tk, rfl, hs3, hk3⟩ := hr2
            repeat (any_goals (first | assumption | wp_step))
            exact h _ _ hs3 hk3
end
section
variable {X : Cx}
/-- len(set(xs)), xs a list of different texts -/
def tLenSetT (K : PySem.W.Frag) (ta : TE) : TE := fun σ H Q => ta σ H fun x H1 => ∃ l, ∃ xs : List Str, x = .ref l ∧ SqL K H1 l (xs.map V.str) ∧ xs.Nodup ∧ xs.length ≤ 100 ∧ Q (.int xs.length) H1
theorem pe_lenSetT {a : Expr} {ta : TE} {p p2 q pos : Pos} (hc : X.calm = true) (hg : Gl X "len") (hm : X.mg "len" = none) (hg2 : Gl X "set") (hm2 : X.mg "set" = none) (ha : PE X a ta)
    (na : starEach [a] X.env = (false, eval a X.env) :: starEach [] X.env := by rfl) : PE X (.Call (.Name "len" p) [.Call (.Name "set" p2) [a] [] q] [] pos) (tLenSetT X.K ta) := by
  refine ⟨fun pins s σ H Q I h => ?_⟩
  refine Call_ (ld_blt I hg hm boot_len ?_)
  refine PyProof.Rows.callWith_builtin1 (PyProof.Rows.args_cons ?_ rfl) rfl rfl
  refine Call_ (ld_blt I hg2 hm2 boot_set (PyProof.Rows.callWith_type1 (PyProof.Rows.args_cons (thn (ha.run pins s σ H _ I h) fun v s1 ⟨x, H1, I1, r1, q1⟩ => PyProof.Rows.args_nil ?_) na) na rfl))
  obtain ⟨l, xs, rfl, hq, hd, h1, q1⟩ := q1
  cases r1
  obtain ⟨its, r, pl, hz⟩ := I1.list hq
  have hl : its.toArray.size = xs.length := by rw [List.size_toArray, ← r.length, List.length_map]
  refine call_set_texts (I1.ok.hd hc) pl.isList (by simpa using strsAre_of r) hd (by unfold scanBound; omega) fun h' tk hS hk => PyProof.Rows.args_nil ?_
  rw [hl] at hS
  obtain ⟨o, es, ep, t, ho, hex, hd2, _, _, _, hf, hn⟩ := hS
  have I2 : Inv X pins σ H1 { s1 with heap := h', toks := tk } := I1.kept fun b o e => hk b o (Heap.lt_size e) e
  exact call_len_set ho hex hd2 hf (by rw [hn]; omega) ⟨.int xs.length, H1, I2.tok _, ⟨_, by rw [hn]⟩, q1⟩
end
end Rb
set_option Elab.async false
set_option linter.all false
set_option maxRecDepth 100000
set_option maxHeartbeats 3200000
/-! max, min with default=, of tuples, of data; == of int dicts. -/
namespace Rb
open PySem PySem.Spec PyProof.Rows L2

theorem ints_alike (ns : List Int) : PySem.W.AlikeAll (ns.map PyData.int) := by
  refine ⟨fun x hx y hy => ?_, fun x hx => ?_⟩
  · obtain ⟨i, _, rfl⟩ := List.mem_map.mp hx
    obtain ⟨j, _, rfl⟩ := List.mem_map.mp hy
    simp [PySem.W.alike]
  · obtain ⟨i, _, rfl⟩ := List.mem_map.mp hx
    exact fun e => nomatch e
theorem ints_depth : ∀ ns : List Int, PyData.depthAll (ns.map PyData.int) = 0
  | [] => by simp [PyData.depthAll]
  | n :: ns => by simp [PyData.depthAll, PyData.depth, ints_depth ns]
theorem reads_int {h : Heap} {v : Value} {i : Int} {as : List Addr} (r : Reads h v (.int i) as) : ∃ t, v = .int i t := by
  cases r
  exact ⟨_, rfl⟩
theorem dp_ints {K : PySem.W.Frag} {H : Hp} : ∀ ns : List Int, DpAll K H (ns.map V.int) (ns.map PyData.int)
  | [] => .nil
  | n :: ns => .cons (.int n) (dp_ints ns)
theorem vals_at : ∀ {xs : List V} {us : List Value} {i : Nat} {u : Value}, Vals xs us → us[i]? = some u → ∃ x, xs[i]? = some x ∧ RelV x u
  | [], _, i, u, r, e => by
    cases r
    simp at e
  | x :: xs, _, 0, u, r, e => by
    cases r with
    | cons r1 r2 =>
      rename_i u1 us1
      have e : u1 = u := by simpa using e
      subst e
      exact ⟨x, rfl, r1⟩
  | x :: xs, _, i + 1, u, r, e => by
    cases r with
    | cons r1 r2 =>
      obtain ⟨y, h1, h2⟩ := vals_at (i := i) (u := u) r2 (by simpa using e)
      exact ⟨y, by simpa using h1, h2⟩
abbrev maxDef (d : Int) : List Int → Int
  | [] => d
  | n :: ns => ns.foldl max n
abbrev minDef (d : Int) : List Int → Int
  | [] => d
  | n :: ns => ns.foldl min n
section
variable {X : Cx}
abbrev rMaxDef (K : PySem.W.Frag) : List V → List V → Hp → VK → Prop := fun vs zs H Q => ∃ (a : Addr) (ns : List Int) (d : Int), vs = [.ref a] ∧ zs = [.int d] ∧ SqL K H a (ns.map V.int) ∧ Q (.int (maxDef d ns)) H
abbrev rMinDef (K : PySem.W.Frag) : List V → List V → Hp → VK → Prop := fun vs zs H Q => ∃ (a : Addr) (ns : List Int) (d : Int), vs = [.ref a] ∧ zs = [.int d] ∧ SqL K H a (ns.map V.int) ∧ Q (.int (minDef d ns)) H
theorem cr_max_default (hh : X.A.handled = none) (hu : X.A.units + 64 < cLine) : CallRK X (.builtin "max") [Str.ofString "default"] (rMaxDef X.K) := by
  intro pins s σ H vs zs us ws Q I r rz h
  obtain ⟨a, ns, d, rfl, rfl, hs, q⟩ := h
  obtain rfl := Vals.ref1 r
  obtain ⟨w1, rfl, t, rfl⟩ := vals1 rz
  obtain ⟨its, rv, hl, hz⟩ := I.list hs
  obtain ⟨as, hr⟩ := Dp.readsAll I _ _ its (dp_ints ns) rv
  refine PySem.W.max_list_default hh hl.isList (show ReadsAll s.heap its.toArray.toList (ns.map PyData.int) as from hr) (ints_alike ns) (by rw [ints_depth]; omega) (fun e h' tk k => ?_) fun y ys i v h' tk bs e hv rv' k => ?_
  · have e2 : ns = [] := by simpa using e
    subst e2
    exact ⟨.int d, H, I.kept k, ⟨t, rfl⟩, q⟩
  · cases ns with
    | nil => cases e
    | cons n r =>
      obtain ⟨rfl, rfl⟩ := List.cons.inj e
      rw [PySem.W.maxD_ints] at rv'
      obtain ⟨t2, rfl⟩ := reads_int rv'
      exact ⟨.int _, H, I.kept k, ⟨t2, rfl⟩, q⟩
theorem cr_min_default (hh : X.A.handled = none) (hu : X.A.units + 64 < cLine) : CallRK X (.builtin "min") [Str.ofString "default"] (rMinDef X.K) := by
  intro pins s σ H vs zs us ws Q I r rz h
  obtain ⟨a, ns, d, rfl, rfl, hs, q⟩ := h
  obtain rfl := Vals.ref1 r
  obtain ⟨w1, rfl, t, rfl⟩ := vals1 rz
  obtain ⟨its, rv, hl, hz⟩ := I.list hs
  obtain ⟨as, hr⟩ := Dp.readsAll I _ _ its (dp_ints ns) rv
  refine PySem.W.min_list_default hh hl.isList (show ReadsAll s.heap its.toArray.toList (ns.map PyData.int) as from hr) (ints_alike ns) (by rw [ints_depth]; omega) (fun e h' tk k => ?_) fun y ys i v h' tk bs e hv rv' k => ?_
  · have e2 : ns = [] := by simpa using e
    subst e2
    exact ⟨.int d, H, I.kept k, ⟨t, rfl⟩, q⟩
  · cases ns with
    | nil => cases e
    | cons n r =>
      obtain ⟨rfl, rfl⟩ := List.cons.inj e
      rw [PySem.W.minD_ints] at rv'
      obtain ⟨t2, rfl⟩ := reads_int rv'
      exact ⟨.int _, H, I.kept k, ⟨t2, rfl⟩, q⟩
abbrev rMaxT (K : PySem.W.Frag) : List V → Hp → VK → Prop := fun vs H Q => ∃ (a : Addr) (n : Int) (ns : List Int), vs = [.ref a] ∧ SqT K H a ((n :: ns).map V.int) ∧ Q (.int (ns.foldl max n)) H
abbrev rMinT (K : PySem.W.Frag) : List V → Hp → VK → Prop := fun vs H Q => ∃ (a : Addr) (n : Int) (ns : List Int), vs = [.ref a] ∧ SqT K H a ((n :: ns).map V.int) ∧ Q (.int (ns.foldl min n)) H
theorem cr_maxT (hh : X.A.handled = none) (hu : X.A.units + 64 < cLine) : CallR X (.builtin "max") (rMaxT X.K) := by
  intro pins s σ H vs us Q I r h
  obtain ⟨a, n, ns, rfl, hs, q⟩ := h
  obtain rfl := Vals.ref1 r
  obtain ⟨its, rv, hl, hz⟩ := I.tuple hs
  obtain ⟨as, hr⟩ := Dp.readsAll I _ _ its (dp_ints (n :: ns)) rv
  refine PySem.W.max_tuple_data hh hl (show ReadsAll s.heap its.toArray.toList (PyData.int n :: ns.map PyData.int) as from hr) (ints_alike (n :: ns)) (by rw [show PyData.int n :: ns.map PyData.int = (n :: ns).map PyData.int from rfl, ints_depth]; omega) fun i v h' tk bs hv rv' k => ?_
  rw [PySem.W.maxD_ints] at rv'
  obtain ⟨t2, rfl⟩ := reads_int rv'
  exact ⟨.int _, H, I.kept k, ⟨t2, rfl⟩, q⟩
theorem cr_minT (hh : X.A.handled = none) (hu : X.A.units + 64 < cLine) : CallR X (.builtin "min") (rMinT X.K) := by
  intro pins s σ H vs us Q I r h
  obtain ⟨a, n, ns, rfl, hs, q⟩ := h
  obtain rfl := Vals.ref1 r
  obtain ⟨its, rv, hl, hz⟩ := I.tuple hs
  obtain ⟨as, hr⟩ := Dp.readsAll I _ _ its (dp_ints (n :: ns)) rv
  refine PySem.W.min_tuple_data hh hl (show ReadsAll s.heap its.toArray.toList (PyData.int n :: ns.map PyData.int) as from hr) (ints_alike (n :: ns)) (by rw [show PyData.int n :: ns.map PyData.int = (n :: ns).map PyData.int from rfl, ints_depth]; omega) fun i v h' tk bs hv rv' k => ?_
  rw [PySem.W.minD_ints] at rv'
  obtain ⟨t2, rfl⟩ := reads_int rv'
  exact ⟨.int _, H, I.kept k, ⟨t2, rfl⟩, q⟩
/-- the least of data: one of them -/
abbrev rMinD (K : PySem.W.Frag) : List V → Hp → VK → Prop := fun vs H Q => ∃ (a : Addr) (xs : List V) (ds : List PyData), vs = [.ref a] ∧ SqL K H a xs ∧ DpAll K H xs ds ∧ xs ≠ [] ∧ PySem.W.AlikeAll ds ∧ PyData.depthAll ds ≤ 50 ∧ ∀ x ∈ xs, Q x H
theorem cr_minD (hh : X.A.handled = none) (hu : X.A.units + 64 < cLine) : CallR X (.builtin "min") (rMinD X.K) := by
  intro pins s σ H vs us Q I r h
  obtain ⟨a, xs, ds, rfl, hs, hd, hne, hal, hdp, q⟩ := h
  obtain rfl := Vals.ref1 r
  obtain ⟨its, rv, hl, hz⟩ := I.list hs
  obtain ⟨as, hr⟩ := Dp.readsAll I _ _ its hd rv
  cases hd with
  | nil => exact absurd rfl hne
  | cons h1 h2 =>
    refine PySem.W.min_list_data hh hl.isList (show ReadsAll s.heap its.toArray.toList _ as from hr) hal (by omega) fun i v h' tk bs hv rv' k => ?_
    obtain ⟨x, hx, rx⟩ := vals_at rv (by simpa using hv)
    exact ⟨x, H, I.kept k, rx, q x (List.mem_of_getElem? hx)⟩
/-- == of dicts of ints, on the same keys -/
abbrev dEq (ks ls : List (Key × V)) : Bool := ks.all fun p => decide (valV ls p.1 = some p.2)
theorem hits_ints {A : Around} {s : Shared} {ls : List (Key × V)} {vb : List (Key × Value)} (rb : KV ls vb) {ks : List (Key × V)} {va : List (Key × Value)} (ra : KV ks va) :
    (∀ p ∈ ks, ∃ i j : Int, p.2 = .int i ∧ valV ls p.1 = some (.int j)) → PySem.W.KeqHits A s vb va (dEq ks ls) := by
  unfold KV at ra
  induction ra with
  | nil => intro _; exact .nil
  | @cons p q ps qs h t ih =>
    intro hp
    obtain ⟨h1, h2⟩ := h
    obtain ⟨i, j, e1, e2⟩ := hp p List.mem_cons_self
    have rr : RelO (some (V.int j)) (valueAt vb p.1) := by rw [← e2]; exact rb.val p.1
    obtain ⟨y, hy, ry⟩ := rr.some_of
    obtain ⟨k, v⟩ := q
    have h1' : p.1 = k := h1
    rw [h1'] at hy
    rw [e1] at h2
    obtain ⟨t1, ev⟩ : ∃ t, v = Value.int i t := h2
    obtain ⟨t2, rfl⟩ : ∃ t, y = Value.int j t := ry
    subst ev
    have eb : dEq (p :: ps) ls = ((i == j) && dEq ps ls) := by
      show (decide (valV ls p.1 = some p.2) && dEq ps ls) = _
      rw [e1, e2]
      congr 1
      by_cases e : i = j
      · subst e
        simp
      · have q1 : ¬ j = i := fun q => e q.symm
        simp [e, q1]
    rw [eb]
    exact .hit hy (SeqAt.EqAt.int_int i t1 j t2) (ih fun p' hm => hp p' (List.mem_cons_of_mem _ hm))
abbrev rEqDi : R2 := fun x y H Q => ∃ a b ks ls, x = .ref a ∧ y = .ref b ∧ H a = some (.dK ks) ∧ H b = some (.dK ls) ∧ ks.length = ls.length ∧ (∀ p ∈ ks, ∃ i j : Int, p.2 = .int i ∧ valV ls p.1 = some (.int j)) ∧ Q (.bl (dEq ks ls)) H
theorem op_eqDi (hu : X.A.units < cLine) : OpR X (compareOp .Eq) rEqDi := by
  intro pins s σ H x y v u Q I rx ry h
  obtain ⟨a, b, ks, ls, rfl, rfl, ea, eb, hlen, hp, q⟩ := h
  obtain rfl : v = Value.ref a := rx
  obtain rfl : u = Value.ref b := ry
  obtain ⟨_, ya, va, ra, da⟩ := (show ObjOk X.prog X.w H s.heap a (.dK ks) from I.hok a _ ea)
  obtain ⟨_, yb, vb, rb, db⟩ := (show ObjOk X.prog X.w H s.heap b (.dK ls) from I.hok b _ eb)
  have hl : va.length = vb.length := by rw [← ra.length, ← rb.length]; exact hlen
  exact PySem.W.keq_eq (knd := mixKind X.prog X.w) (r := dEq ks ls) ya yb da db hu (fun _ => hits_ints rb ra hp) (fin_bl I q (by simp [hl]))
end
end Rb
set_option Elab.async false
set_option linter.all false
set_option maxRecDepth 100000
set_option maxHeartbeats 3200000
/-! A lambda with one parameter handed to a def, called there. -/
namespace Rb
open PySem PySem.Spec PyProof.Rows L2 LamX

/-- its names: the parameter a, captured ones, globals -/
structure LamA (sc scope : Scope) (a : Str) : Prop where
  kind : scope.kind = .function
  co : scope.isCoroutine = false
  gen : scope.isGenerator = false
  par : scope.names.lookup a = some .local
  own : ∀ y ∈ scope.names, y.2 ≠ .cell ∧ (y.2 = .local → y.1 = a)
  free : ∀ y ∈ scope.names, y.2 = .free → sc.names.lookup y.1 = some .cell ∨ sc.names.lookup y.1 = some .free
def lamAB (sc scope : Scope) (a : Str) : Bool :=
  decide (scope.kind = .function) && !scope.isCoroutine && !scope.isGenerator && decide (scope.names.lookup a = some .local) && scope.names.all fun y => !decide (y.2 = .cell) && (!decide (y.2 = .local) || decide (y.1 = a)) && (!decide (y.2 = .free) || decide (sc.names.lookup y.1 = some .cell) || decide (sc.names.lookup y.1 = some .free))
theorem lamA_by {sc scope : Scope} {a : Str} (h : lamAB sc scope a = true) : LamA sc scope a := by
  unfold lamAB at h
  simp only [Bool.and_eq_true, Bool.or_eq_true, Bool.not_eq_true', decide_eq_true_eq, decide_eq_false_iff_not, List.all_eq_true] at h
  obtain ⟨⟨⟨⟨h1, h2⟩, h3⟩, h4⟩, h5⟩ := h
  refine ⟨h1, h2, h3, h4, fun y hy => ⟨(h5 y hy).1.1, fun e => (h5 y hy).1.2.elim (fun z => absurd e z) id⟩, fun y hy e => ?_⟩
  rcases (h5 y hy).2 with (z | z) | z
  · exact absurd e z
  · exact .inl z
  · exact .inr z
theorem LamA.has {X : Cx} {scope : Scope} {a : Str} (L : LamA X.env.scope scope a) (ok : X.Ok) : ∀ y ∈ scope.names, y.2 = .free → ∃ c, X.env.cells.lookup y.1 = some c := fun y hy e => by
  rcases L.free y hy e with k | k
  · exact ok.has _ (.inl k)
  · exact ok.has _ (.inr k)
/-- the context of its body -/
def lamCa (X : Cx) (A : Around) (outer : List Env) (s : Shared) (H : Hp) (scope : Scope) (f c' : Addr) (a : Str) : Cx where
  prog := X.prog
  w := X.w
  K := X.K
  mg := X.mg
  base := X.base
  A := A.deeper (lamEnv X scope s.heap.objs.size f c')
  N := X.N ++ [a]
  s_0 := s
  H_0 := H
  env := lamEnv X scope s.heap.objs.size f c'
  outer := outer
  stack := lamEnv X scope s.heap.objs.size f c' :: outer
  ex := []
  fn := fun _ => false
  calm := true
  pn := []
  xe := fun _ _ => False
section
variable {X : Cx} {pins : List (Addr × Obj)} {σ : L2.St} {H HZ : Hp} {s s1 : Shared}
theorem lam_startA {A : Around} {outer : List Env} {scope : Scope} {f c' : Addr} {a : Str} {v : V} {u : Value} {h₁ : Heap} {tk : Nat} (I : Inv X pins σ H s) (L : LamA X.env.scope scope a) (ha : a ∉ X.N) (e0 : Env0 X.prog X.w X.K X.mg X.base A outer s1 HZ) (hd : A.handled = none)
    (un : Un (frs X.stack) [] H HZ s.heap s1.heap) (rv : RelV v u) (hns : h₁.Ns s1.heap.objs.size fun y => ([(a, u)] : List (Str × Value)).reverse.lookup y) (kp : ∀ b o, s1.heap.get? b = some o → h₁.get? b = some o) :
    Inv (lamCa X A outer s1 HZ scope f c' a) [] (σ ++ [some v]) HZ { s1 with heap := h₁, toks := tk } := by
  have hfree := L.has I.ok
  have cm : ∀ {y c}, (cloFrom X.env.cells scope.names []).lookup y = some c → X.env.cells.lookup y = some c := fun {y c} e => by
    rcases cloFrom_mem (PySem.mem_of_lookup e) with hm | ⟨h1, h2⟩
    · cases hm
    · obtain ⟨c1, hc⟩ := hfree _ h1 rfl
      have hc : X.env.cells.lookup y = some c1 := hc
      have e2 : c = c1 := by
        rw [h2, hc] <;> rfl
      rw [e2]
      exact hc
  have look : ∀ {y}, scope.names.lookup y = some .free → ∃ c, (cloFrom X.env.cells scope.names []).lookup y = some c := fun {y} hl => by
    have hy : (y, NameKind.free) ∈ scope.names := PySem.mem_of_lookup hl
    exact mem_lookup (cloFrom_has (cells := X.env.cells) (acc := []) hy)
  have cellK : ∀ {c : Addr} {v : Option Value}, H c = none → s.heap.IsCell c v → h₁.IsCell c v := fun {c v} n ⟨o, ho, hd⟩ => by
    obtain ⟨sl, q⟩ := un.any ho n (by simp)
    exact ⟨_, kp _ _ q, hd⟩
  have noA : ∀ b : Addr, b ∉ (lamCa X A outer s1 HZ scope f c' a).ex := fun b z => absurd (show b ∈ ([] : List Addr) from z) (by simp)
  refine ⟨⟨e0.mod, L.kind, rfl, rfl, Nat.le_refl _, fun y z c e1 e2 => I.ok.inj y z c (cm e1) (cm e2), fun y hy => ?_, fun y c z _ => ?_, fun _ => hd, Around.frames_deeper e0.frames, .inr ⟨rfl, rfl⟩, fun b z => absurd z (noA b), e0.bs, e0.bsz, fun b _ _ => noA b,
      fun b z => absurd z (noA b), e0.funs, e0.frf⟩,
    rfl, e0.bare, Un.kept kp, ⟨_, hns, fun i y v' e1 e2 e3 => ?_⟩, fun y c e => ?_, e0.hok.fresh (Nat.le_refl _), fun y c e => ?_, fun q hq => absurd (show q ∈ ([] : List (Addr × Obj)) ++ [] from hq) (by simp), e0.hok.kept kp, ?_⟩
  · have hy : scope.names.lookup y = some .cell ∨ scope.names.lookup y = some .free := hy
    rcases hy with hy | hy
    · exact absurd rfl (L.own _ (PySem.mem_of_lookup hy)).1
    · exact look hy
  · have z : false = true := z
    cases z
  · have e1 : (X.N ++ [a])[i]? = some y := e1
    have e3 : Vis scope y := e3
    have hlen : σ.length = X.N.length := I.len
    by_cases hi : i < X.N.length
    · rw [List.getElem?_append_left hi] at e1
      rw [List.getElem?_append_left (by rw [hlen]; exact hi)] at e2
      rcases e3 with k | k | k
      · have ya : y = a := (L.own _ (PySem.mem_of_lookup k)).2 rfl
        exact absurd (List.mem_of_getElem? e1) (by rw [ya]; exact ha)
      · exact absurd rfl (L.own _ (PySem.mem_of_lookup k)).1
      · obtain ⟨m, hn, hl⟩ := I.loc
        have hvis : Vis X.env.scope y := (L.free _ (PySem.mem_of_lookup k) rfl).elim (fun k => .inr (.inl k)) (fun k => .inr (.inr k))
        obtain ⟨w', r, q⟩ := hl i y v' e1 e2 hvis
        obtain ⟨c2, h2⟩ := look k
        refine ⟨w', r, .inr ⟨.inr k, c2, h2, ?_⟩⟩
        have c1 := cm h2
        rcases q with ⟨k', _⟩ | ⟨_, c3, e', z⟩
        · have k' : X.env.scope.names.lookup y = some .local := k'
          rcases L.free _ (PySem.mem_of_lookup k) rfl with k2 | k2 <;> rw [show X.env.scope.names.lookup y = _ from k2] at k' <;> cases k'
        · rw [c1] at e'
          cases e'
          exact cellK (I.freeC y _ c1) z
    · have hi : i = X.N.length := by
        have q := (List.getElem?_eq_some_iff.mp e1).1
        rw [List.length_append, List.length_singleton] at q
        omega
      subst hi
      rw [List.getElem?_append_right (Nat.le_refl _)] at e1
      rw [← hlen, List.getElem?_append_right (Nat.le_refl _)] at e2
      have ya : a = y := by simpa using e1
      have va : v = v' := by simpa using e2
      subst ya va
      exact ⟨u, rv, .inl ⟨L.par, by simp [List.lookup]⟩⟩
  · obtain ⟨w', z⟩ := I.cell y c (cm e)
    exact ⟨w', cellK (I.freeC y c (cm e)) z⟩
  · obtain ⟨v, o, ho, hd⟩ := I.cell y c (cm e)
    exact un.free c o ho (I.freeC y c (cm e)) (by simp)
  · show (σ ++ [some v]).length = (X.N ++ [a]).length
    rw [List.length_append, List.length_append, I.len]
    rfl
/-- b(e), in the def that got the lambda as its i-th name -/
theorem pe_actA {Ng : List Str} {qg : Str} {sg : Scope} {g f c' : Addr} {cdg pm ctv : Value} {params : Arguments} {body : Expr} {scope : Scope} {k i : Nat} {a b : Str} {tb : TE} {ta : TE} {e : Expr} {p1 p2 : Pos}
    (I : Inv X pins σ H s) (L : LamA X.env.scope scope a) (hna : a ∉ X.N) (hf : s.heap.get? f = some (PySem.W.kla_obj "<lambda>" (X.env.qual ++ "<lambda>") params body scope (cloFrom X.env.cells scope.names []) pm c' ctv)) (hfn : H f = none) (hfr : f ∉ frs X.stack)
    (hbind : ∀ u, bindArgs (PySem.W.kla_fn "<lambda>" (X.env.qual ++ "<lambda>") params body scope (cloFrom X.env.cells scope.names []) pm (.ref c') ctv) ⟨[u], []⟩ = pure [(a, u)])
    (hr : Room (k + 1) (X.A.deeper (envOfC qg sg s.heap.objs.size g cdg)))
    (hbody : ∀ (A : Around) (outer : List Env) (s : Shared) (H : Hp), Room k (A.deeper (lamEnv X scope s.heap.objs.size f c')) → PE (lamCa X A outer s H scope f c' a) body tb)
    (hN : Ng[i]? = some b) (hv : Vis sg b) (he : PE (cxOf CX0 X.prog X.w X.K X.mg X.base Ng qg sg g cdg X.A X.stack s H E0).nox e ta)
    (hst : starEach [e] (cxOf CX0 X.prog X.w X.K X.mg X.base Ng qg sg g cdg X.A X.stack s H E0).nox.env = [(false, eval e (cxOf CX0 X.prog X.w X.K X.mg X.base Ng qg sg g cdg X.A X.stack s H E0).nox.env)])
    (hd : (b == ("__debug__" : Str)) = false := by decide) (hcd : (b == ("__classdict__" : Str)) = false := by decide) :
    PE (cxOf CX0 X.prog X.w X.K X.mg X.base Ng qg sg g cdg X.A X.stack s H E0).nox (.Call (.Name b p1) [e] [] p2)
      (fun σZ HZ Q => σZ[i]? = some (some (.ref f)) ∧ ta σZ HZ fun v H1 => H1 c' = some (CodeO c' (X.env.qual ++ "<lambda>")) ∧ tb (σ ++ [some v]) H1 Q) := by
  refine ⟨fun pinsZ sZ σZ HZ Q IZ h => ?_⟩
  obtain ⟨hs, ht⟩ := h
  refine wpAny_Call_Name_kw (thn ((pe_var (pos := p1) (i := i) hN hv hd hcd).run pinsZ sZ σZ HZ (fun v H1 => v = .ref f ∧ H1 = HZ) IZ ⟨.ref f, hs, rfl, rfl⟩) fun u s1 ⟨v, H1, I1, r1, q1⟩ => ?_)
  obtain ⟨ev, eH⟩ := q1
  subst ev
  rw [eH] at I1
  obtain rfl : u = Value.ref f := r1
  have at_ : ∀ {σ' : L2.St} {H' : Hp} {s' : Shared}, Inv (cxOf CX0 X.prog X.w X.K X.mg X.base Ng qg sg g cdg X.A X.stack s H E0).nox pinsZ σ' H' s' → s'.heap.get? f = some (PySem.W.kla_obj "<lambda>" (X.env.qual ++ "<lambda>") params body scope (cloFrom X.env.cells scope.names []) pm c' ctv) :=
    fun J => J.base.keep f _ hf hfn hfr (fun z => nomatch (show f ∈ ([] : List Addr) from z))
  refine PySem.W.callWith_F (first := []) ⟨_, _, _, _, at_ I1⟩ ?_ hst rfl
  rw [hst]
  refine Calls.spliced_cons (thn (he.run pinsZ s1 σZ HZ _ I1 ht) fun uv s2 ⟨v, H2, I2, r2, hc, hq⟩ => Calls.spliced_nil ⟨⟨_, _, _, _, at_ I2⟩, ?_⟩)
  show wpAny _ _ (call (.ref f) [uv]) _ _ _
  have un : Un (frs X.stack) [] H H2 s.heap s2.heap := I2.base
  obtain ⟨⟨oc, vs, t, hoc, hdc, hvc⟩, _, _⟩ := I2.hok c' _ hc
  have rc : codeAny (model X.prog X.w) (X.A.deeper (envOfC qg sg s.heap.objs.size g cdg)) (.call (.ref f) ⟨[uv], []⟩) (CR CX0 (envOfC qg sg s.heap.objs.size g cdg :: X.stack) X.prog X.w H2 s2 Q E0) s2 := by
    refine PySem.W.kla_callFunE hr.depth (at_ I2) rfl L.co L.gen rfl ⟨c', oc, vs, t, rfl, hoc, hdc, hvc⟩ ?_
    rw [hbind]
    refine wpAny_pure (wpAny_newFunctionEnv (fun y hy => (L.own y hy).1) (fun y hy => ?_) (fun h₁ hns hsb => ⟨I2.nolimit.fresh _ hsb, ?_⟩) L.kind)
    · have hy : y = (a, uv) := by simpa using hy
      rw [hy]
      exact L.par
    show codeAny _ _ (.expr body (lamEnv X scope s2.heap.objs.size f c')) _ _
    have kp : ∀ b o, s2.heap.get? b = some o → h₁.get? b = some o := fun b o e => hsb.extBut b o (Nat.ne_of_lt (Heap.lt_size e)) (Heap.get?_push_of_some _ e)
    have J : Inv (lamCa X (X.A.deeper (envOfC qg sg s.heap.objs.size g cdg)) (envOfC qg sg s.heap.objs.size g cdg :: X.stack) s2 H2 scope f c' a) [] (σ ++ [some v]) H2 { s2 with heap := h₁, toks := s2.toks + ([(a, uv)] : List (Str × Value)).length } :=
      lam_startA I L hna I2.env0 hr.hd un r2 hns kp
    refine PySem.W.kla_codeExpr (wpAny_mono ((hbody _ _ s2 H2 (hr.deeper _)).run [] _ _ H2 Q J hq) (fun v s' hq => ?_) fun e s' hq => (show False from hq).elim)
    obtain ⟨w', H', J', rv, q⟩ := hq
    exact ⟨w', H', J'.os, J'.bare, J'.base, J'.hok, rv, q⟩
  refine wpAny_call (codeAny_mono rc fun r s' hq => ?_)
  cases r with
  | error e => exact (show False from hq).elim
  | ok fl =>
    cases fl with
    | ret u => exact I2.after hq
    | next => exact False.elim hq
    | brk => exact False.elim hq
    | cont => exact False.elim hq
end
/-- the def that calls what it got: its names are Ng, the first is the plain argument, the second b is the lambda's -/
def GivesA (X : Cx) (Ng : List Str) (x : Str) (sg : Scope) (g : Addr) (cdg : Value) (bg : List Stmt) (b : Str) (q : Str) (TT : (V → Hp → VK → Prop) → V → Hp → VK → Prop) : Prop :=
  ∀ (f c' : Addr) (s : Shared) (H : Hp) (Q : VK) (v0 : V) (tl : V → Hp → VK → Prop),
    Room 8 (X.A.deeper (envOfC x sg s.heap.objs.size g cdg)) →
    (∀ (e : Expr) (ta : TE) (p1 p2 : Pos), PE (cxOf CX0 X.prog X.w X.K X.mg X.base Ng x sg g cdg X.A X.stack s H E0).nox e ta →
      starEach [e] (cxOf CX0 X.prog X.w X.K X.mg X.base Ng x sg g cdg X.A X.stack s H E0).nox.env = [(false, eval e (cxOf CX0 X.prog X.w X.K X.mg X.base Ng x sg g cdg X.A X.stack s H E0).nox.env)] →
      PE (cxOf CX0 X.prog X.w X.K X.mg X.base Ng x sg g cdg X.A X.stack s H E0).nox (.Call (.Name b p1) [e] [] p2) (fun σZ HZ Q => σZ[1]? = some (some (.ref f)) ∧ ta σZ HZ fun v H1 => H1 c' = some (CodeO c' q) ∧ tl v H1 Q)) →
    H c' = some (CodeO c' q) → TT tl v0 H Q →
    ∃ t, PSs (cxOf CX0 X.prog X.w X.K X.mg X.base Ng x sg g cdg X.A X.stack s H E0).nox bg t ∧ t { nx := fun _ H' => Q .non H', rt := Q } (L2.start Ng [v0, .ref f]) H
def tLamA (T : List (Addr × Str)) (TT : (V → Hp → VK → Prop) → V → Hp → VK → Prop) (ta t : TE) : TE := fun σ H Q => ta σ H fun v0 H0 => Tabs T H0 ∧ ∀ H1, ExtN H0 H1 → Tabs T H1 → TT (fun v H' Q' => t (σ ++ [some v]) H' Q') v0 H1 Q
section
variable {X : Cx}
/-- x(e, lambda a: body) -/
theorem pe_lamA {T : List (Addr × Str)} {TT : (V → Hp → VK → Prop) → V → Hp → VK → Prop} {x a b b0 : Str} {g c P : Addr} {k : Nat} {pg : Arguments} {bg : List Stmt} {sg : Scope} {dV kV doc pm cdv ct oc : Value} {an od : Option Addr} {osl : Array (Option Value)} {Ng : List Str}
    {params : Arguments} {body e : Expr} {scope : Scope} {ta t : TE} {p lpos pos : Pos} (hg : Gl X x) (hm : X.mg x = some (.ref g)) (hk : PySem.W.keepIn X.K (.ref g) = true)
    (lk : X.K.lookup g = some ⟨oc, od, .func (PySem.W.fnOf x x pg bg sg dV kV doc pm an cdv ct), osl⟩) (hcg : PySem.W.codeIn X.K cdv x = true) (hb : L2.Binds X.K (PySem.W.fnOf x x pg bg sg dV kV doc pm an cdv ct) [b0, b] []) (Sg : FnScope Ng [b0, b] sg) (hNg : Ng[1]? = some b) (hva : Vis sg b)
    (hG : GivesA X Ng x sg g cdv bg b (X.env.qual ++ "<lambda>") TT)
    (TB : TabB X.base X.mg c P) (hcode : X.env.code = .ref c) (hmT : (P, X.env.qual ++ "<lambda>") ∈ T) (hu : ∀ p ∈ T, p.1 = P → p.2 = X.env.qual ++ "<lambda>") (hr : Room (k + 10) X.A) (L : LamA X.env.scope scope a) (hna : a ∉ X.N) (hdef : defaultsOf params X.env = ([], []))
    (hbind : ∀ (q : Str) (cl : List (Str × Addr)) (pm cv ctv u : Value), bindArgs (PySem.W.kla_fn "<lambda>" q params body scope cl pm cv ctv) ⟨[u], []⟩ = pure [(a, u)])
    (he : PE X e ta) (hst : starEach [e, .Lambda params body scope lpos] X.env = [(false, eval e X.env), (false, eval (.Lambda params body scope lpos) X.env)])
    (hbody : ∀ (A : Around) (outer : List Env) (s : Shared) (H : Hp) (f c' : Addr), Room k (A.deeper (lamEnv X scope s.heap.objs.size f c')) → PE (lamCa X A outer s H scope f c' a) body t)
    (hdb : (x == ("__debug__" : Str)) = false := by decide) (hd : (b == ("__debug__" : Str)) = false := by decide) (hcd : (b == ("__classdict__" : Str)) = false := by decide) :
    PE X (.Call (.Name x p) [e, .Lambda params body scope lpos] [] pos) (tLamA T TT ta t) := by
  refine ⟨fun pins s σ H Q I h => ?_⟩
  refine wpAny_Call_Name_kw (ld_glob I hg hm ?_ hdb)
  refine PySem.W.callWith_K (h₀ := X.base) I.ok.mod.kin hk ?_ (by rw [hst]; rfl) (by rfl)
  rw [hst]
  show wpAny _ _ (spliced ((false, eval e X.env) :: (false, eval (.Lambda params body scope lpos) X.env) :: [])) _ _ s
  refine Calls.spliced_cons (thn (he.run pins s σ H _ I h) fun uv s0 ⟨v0, H0, I0, r0, hT, h⟩ => ?_)
  refine Calls.spliced_cons (lam_make2 I0 TB hcode hmT hu hT hdef (L.has I.ok) fun f c' pm' ctv H1 s' I1 eN T1 hf hfn hfr hco => ?_)
  refine Calls.spliced_nil ⟨I1.kIn, ?_⟩
  have rc : codeAny (model X.prog X.w) X.A (.call (.ref g) ⟨[uv, .ref f], []⟩) (CR CX0 X.stack X.prog X.w H1 s' Q E0) s' := by
    refine run_ofS (N := Ng) (ps := [b0, b]) (us := [uv, .ref f]) (vs := [v0, .ref f]) lk hcg Sg (show Room (k + 9 + 1) X.A from hr) I1.env0 (hb s' [uv, .ref f] I1.kIn rfl) (.cons r0 (.cons rfl .nil)) rfl fun hr' => ?_
    obtain ⟨t', ht', hq'⟩ := hG f c' s' H1 Q v0 (fun v H' Q' => t (σ ++ [some v]) H' Q') (hr'.mono (by omega)) (fun e2 ta2 p1 p2 he2 hst2 => pe_actA (k := k) (i := 1) I1 L hna hf hfn hfr (fun u => hbind _ _ _ _ _ u) (hr'.mono (by omega)) (fun A outer s H hr2 => hbody A outer s H f c' hr2) hNg hva he2 hst2 hd hcd) hco (h H1 eN T1)
    exact ⟨t', ht'.nox, hq'⟩
  refine wpAny_call (codeAny_mono rc fun r s2 hq => ?_)
  cases r with
  | error e => exact (show False from hq).elim
  | ok fl =>
    cases fl with
    | ret u => exact I1.after hq
    | next => exact False.elim hq
    | brk => exact False.elim hq
    | cont => exact False.elim hq
end
end Rb
set_option Elab.async false
set_option linter.all false
set_option maxRecDepth 100000
set_option maxHeartbeats 3200000
/-! Rules, further: d.values(), list of it, setdefault where keys are tuples; min(rows, key=len). -/
namespace Rb
open PySem PySem.Spec PyProof.Rows L2

/-! ### d.values() of a dict whose keys are tuples -/
def valsO (p d : Addr) : HO := .ext fun h => h.IsValuesView p d
theorem valsO_ok {P : Program} {w : World} {H : Hp} {h : Heap} {p d : Addr} (e : h.get? p = some { cls := .type "dict_values", data := .fields #[.ref d] }) : ObjOk P w H h p (valsO p d) :=
  ⟨⟨_, e, rfl, rfl⟩, ⟨_, e⟩, fun h1 h2 x k => let ⟨o, ho, r⟩ := x; ⟨o, k o ho, r⟩⟩
section
variable {X : Cx}
abbrev rValsT : V → List V → Hp → VK → Prop := fun x xs H Q => ∃ (a : Addr) (kvs : List (List L2.Key × V)), x = .ref a ∧ xs = [] ∧ H a = some (.dT kvs) ∧ ∀ p, H p = none → Q (.ref p) (upd H p (valsO p a))
theorem mt_valsT : MtR X "dict.values" rValsT := by
  intro pins s σ H x xs v us Q I rx rxs h
  obtain ⟨a, kvs, rfl, rfl, ha, q⟩ := h
  cases rx
  cases rxs
  obtain ⟨z, hd, xs', rel, dd⟩ := dt_of I.hok ha
  obtain ⟨es, ep, hr, _, _⟩ := dd.raw
  refine call_meetsIn PySem.F.slot_dict_values dd.typeIs PySem.F.entry_dict_values (PySem.F.args_dict_values_1 _) (meets_dict_values_raw a hd) ⟨⟨es, ep, hr⟩, ?_⟩
  have hf : H s.heap.objs.size = none := I.hok.fresh (Nat.le_refl _)
  exact ⟨.ref s.heap.objs.size, upd H s.heap.objs.size (valsO s.heap.objs.size a), I.laid (t' := s.toks) (fun b u e => Heap.get?_push_of_some _ e) (Nat.le_refl _) (valsO_ok (Heap.get?_push_size _ rfl)), rfl, q _ hf⟩
theorem kt_get {H : Hp} {kvs : List (List Key × V)} {xs : List (List Key × Addr × Value)} (r : KT H kvs xs) {i : Nat} {y : List Key × Addr × Value} (h : xs[i]? = some y) : ∃ q, kvs[i]? = some q ∧ q.1 = y.1 ∧ RelV q.2 y.2.2 := by
  induction r generalizing i with
  | nil => simp at h
  | @cons p q ps qs hp t ih =>
    cases i with
    | zero =>
      have h : q = y := by simpa using h
      subst h
      exact ⟨p, rfl, hp.1, hp.2.2⟩
    | succ i =>
      obtain ⟨z, e, f⟩ := ih (i := i) (by simpa using h)
      exact ⟨z, by simpa using e, f⟩
theorem vals_of_at : ∀ {xs : List V} {us : List Value}, xs.length = us.length → (∀ (i : Nat) u, us[i]? = some u → ∃ x, xs[i]? = some x ∧ RelV x u) → Vals xs us
  | [], [], _, _ => .nil
  | x :: xs, u :: us, hl, h => by
    obtain ⟨y, e, r⟩ := h 0 u rfl
    have e : x = y := by simpa using e
    subst e
    exact .cons r (vals_of_at (by simpa using hl) fun i v hv => by
      obtain ⟨z, e1, e2⟩ := h (i + 1) v (by simpa using hv)
      exact ⟨z, by simpa using e1, e2⟩)
  | [], _ :: _, hl, _ => by simp at hl
  | _ :: _, [], hl, _ => by simp at hl
/-- list(view) -/
abbrev rListVals : List V → Hp → VK → Prop := fun xs H Q => ∃ (p a : Addr) (kvs : List (List L2.Key × V)), xs = [.ref p] ∧ H p = some (valsO p a) ∧ H a = some (.dT kvs) ∧ ∀ l, H l = none → Q (.ref l) (upd H l (.lst (kvs.map Prod.snd)))
theorem call_list_vals (hh : X.A.handled = none) : CallR X (.type "list") rListVals := by
  intro pins s σ H xs us Q I r h
  obtain ⟨p, a, kvs, rfl, hp, ha, q⟩ := h
  obtain rfl := Vals.ref1 r
  obtain ⟨z, hd, xs', rel, dd⟩ := dt_of I.hok ha
  obtain ⟨es, ep, hr, hsz, hes⟩ := dd.raw
  obtain ⟨hv, _, _⟩ := I.hok p _ hp
  have hlen : kvs.length = xs'.length := Paired.length rel
  refine PySem.W.kdl_call (KdlSrc.rawValues (es := es) (ep := ep) (d := a)) hh ⟨hv, hr⟩ (by rw [hsz, ← hlen]; exact z) fun h' tk acc' c' hk hS hacc => ?_
  have hvals : Vals (kvs.map Prod.snd) acc'.toList := by
    refine vals_of_at (by rw [List.length_map, hlen, ← hsz, Array.length_toList]; exact hacc.1.symm) fun i u hu => ?_
    obtain ⟨hi, eu⟩ := hacc.2 i u (by rw [← Array.getElem?_toList]; exact hu)
    obtain ⟨y, hy, _, h2, _⟩ := hes i hi
    obtain ⟨kv, e1, _, e3⟩ := kt_get rel hy
    refine ⟨kv.2, by rw [List.getElem?_map, e1] <;> rfl, ?_⟩
    rw [eu, h2]
    exact e3
  refine ⟨.ref s.heap.objs.size, upd H s.heap.objs.size (.lst (kvs.map Prod.snd)), I.laid (t' := tk) hk (Nat.le_refl _) ⟨by rw [List.length_map]; exact z, acc'.toList, c', hvals, by rw [Array.toArray_toList]; exact hS⟩, rfl, q _ (I.hok.fresh (Nat.le_refl _))⟩
end
/-! ### d.setdefault(k, x), k a tuple -/
section
variable {X : Cx} {pins : List (Addr × Obj)} {σ : L2.St} {H : Hp} {s : Shared} {a b : Addr} {r : Value} {d : V} {k : List Key} {A : Around} {E : Value → Shared → Prop}
theorem d_setdT {kvs : List (List Key × V)} {Q : Value → Shared → Prop} (hu : A.units + 1 < cLine) (I : Inv X pins σ H s) (e : H a = some (.dT kvs)) (eb : H b = some (.tup (k.map kV))) (rd : RelV d r) (hl : kvs.length < sizeLine)
    (h1 : ∀ v, valV kvs k = some v → ∀ (w' : Value) (s' : Shared), Inv X pins σ H s' → RelV v w' → Q w' s') (h2 : valV kvs k = none → ∀ (w' : Value) (s' : Shared), Inv X pins σ (upd H a (.dT (putK kvs k d))) s' → RelV d w' → Q w' s') :
    wpAny (model X.prog X.w) A (call (.builtin "dict.setdefault") [.ref a, .ref b, r]) Q E s := by
  obtain ⟨z, hd, xs, rel, dd⟩ := dt_of I.hok e
  have hz : xs.length ≤ sizeLine := by rw [← Paired.length rel]; exact z
  refine call_setdefault_heap (knd := tupleKind (mixKind X.prog X.w)) (hsz := hz) (tupleKind_room_in1 hu) (key_of I.hok eb) hd dd (fun p hp => ?_) fun hn h' dd' hs => ?_
  · have q := rel.val k
    rw [hp] at q
    cases q0 : valV kvs k with
    | none =>
      rw [q0] at q
      exact (show False from q).elim
    | some v0 =>
      rw [q0] at q
      exact h1 v0 q0 _ _ (I.tok _) q
  · have q := rel.val k
    rw [hn] at q
    cases q0 : valV kvs k with
    | some v0 =>
      rw [q0] at q
      exact (show False from q).elim
    | none =>
      have hl2 : (putK kvs k d).length ≤ sizeLine := by
        have := length_putK kvs k d
        omega
      obtain ⟨q', es, ep, hq, h2', h3, h4, _, h5⟩ := dd'
      refine h2 q0 _ _ (d_write (t' := _) I (by rw [e]; exact True.intro) hs ⟨q', hq⟩ ⟨hl2, hd, _, (rel.put k eb rd).keeps fun c ys ec => ?_, q', es, ep, hq, h2', h3, h4, h5⟩) rd
      rw [upd_ne (ne_of ec e (fun z => nomatch z))]
      exact ec
end
abbrev tDSetdT (td ty tx : TE) : TE := fun σ H Q => td σ H fun x H1 => ∃ a, x = .ref a ∧ IsD H1 a ∧ ty σ H1 fun y H2 => tx σ H2 fun z H3 => ∃ (kvs : List (List Key × V)) (k : List Key) (b : Addr), H3 a = some (.dT kvs) ∧ y = .ref b ∧ H3 b = some (.tup (k.map kV)) ∧ kvs.length < sizeLine ∧
  (∀ v, valV kvs k = some v → Q v H3) ∧ (valV kvs k = none → Q z (upd H3 a (.dT (putK kvs k z))))
section
variable {X : Cx} {o e f : Expr} {td ty tx : TE} {apos cpos : Pos}
theorem pe_dsetdT (hu : X.A.units + 1 < cLine) (ho : PE X o td) (he : PE X e ty) (hf : PE X f tx) (m : M2 X o "setdefault" apos e f cpos) : PE X (.Call (.Attribute o "setdefault" apos) [e, f] [] cpos) (tDSetdT td ty tx) := by
  refine ⟨fun pins s σ H Q I h => ?_⟩
  refine wpAny_Call_method m.base m.few m.line PySem.F.plainAttrs_dict PySem.F.slot_dict_setdefault PySem.F.type_dict_setdefault (thn (ho.run pins s σ H _ I h) fun u s1 ⟨x, H1, I1, rx, a, ex, d, q1⟩ => ?_)
  subst ex
  obtain rfl : u = Value.ref a := rx
  obtain ⟨t1, t2, _⟩ := isD_at I1 d
  refine ⟨t1, t2, ?_⟩
  rw [m.trees]
  refine Calls.callWith_builtin rfl (Calls.evalArgs_plain (Calls.spliced_cons (thn (he.run pins s1 σ H1 _ I1 q1) fun iv s2 ⟨y, H2, I2, ry, q2⟩ =>
    Calls.spliced_cons (thn (hf.run pins s2 σ H2 _ I2 q2) fun fv s3 ⟨z, H3, I3, rz, kvs, k, b, ea, ey, eb, hl, q3, q4⟩ => Calls.spliced_nil ?_))))
  subst ey
  obtain rfl : iv = Value.ref b := ry
  exact d_setdT hu I3 ea eb rz hl (fun v hv w' s4 I4 rw' => ⟨v, _, I4, rw', q3 v hv⟩) fun hn w' s4 I4 rw' => ⟨z, _, I4, rw', q4 hn⟩
end
/-! ### min(rows, key=len), rows a list of lists -/
abbrev rMinLen : List V → Hp → VK → Prop := fun vs H Q => ∃ (a : Addr) (xs : List V), vs = [.ref a] ∧ H a = some (.lst xs) ∧ xs ≠ [] ∧ (∀ x ∈ xs, ∃ b ys, x = V.ref b ∧ H b = some (.lst ys)) ∧ ∀ x ∈ xs, Q x H
section
variable {X : Cx}
theorem run_minLen (hh : X.A.handled = none) {pins : List (Addr × Obj)} {s : Shared} {σ : L2.St} {H : Hp} {a : Addr} {xs : List V} {Q : VK} (I : Inv X pins σ H s) (ha : H a = some (.lst xs)) (hne : xs ≠ []) (hx : ∀ x ∈ xs, ∃ b ys, x = V.ref b ∧ H b = some (.lst ys)) (q : ∀ x ∈ xs, Q x H) :
    wpAny (model X.prog X.w) X.A (call (.builtin "min") [.ref a] [(Str.ofString "key", .builtin "len")]) (EP X pins σ Q) X.xe s := by
  obtain ⟨m, F⟩ := I.fr
  obtain ⟨hz, its, n, rv, hob⟩ := I.hok a _ ha
  have notL : ∀ {b u}, H b = some u → b ≠ X.env.locals := fun {b u} e z => by
    rw [z, I.free] at e
    cases e
  have notB : ∀ {b u}, H b = some u → X.base.get? b = none := fun {b u} e => by
    cases e2 : X.base.get? b with
    | none => rfl
    | some o =>
      have z := (I.bs b o e2).2
      rw [e] at z
      cases z
  have hlen := rv.length
  have kept : ∀ {h : Heap}, Fr X.base X.env.locals h m → News X.base X.env.locals h (allNews X.base s.heap X.env.locals) → ∀ b o, b ≠ X.env.locals → s.heap.get? b = some o → h.get? b = some o := fun {h} F' N' b o nb e => by
    cases e2 : X.base.get? b with
    | some u =>
      have e3 := I.bk b u e2
      rw [e] at e3
      cases e3
      exact F'.keep b _ e2
    | none => exact (N' _ (mem_allNews nb e2 e)).1
  have lens : ∀ (i : Nat) (v : Value), its[i]? = some v → ∃ b ys, v = .ref b ∧ H b = some (.lst ys) := fun i v hv => by
    obtain ⟨x, e, r⟩ := vals_at rv hv
    obtain ⟨b, ys, rfl, hb⟩ := hx x (List.mem_of_getElem? e)
    exact ⟨b, ys, r, hb⟩
  let kf : Nat → Int := fun i => match its[i]? with
    | some (.ref b) => match H b with
      | some (.lst ys) => (ys.length : Int)
      | _ => 0
    | _ => 0
  refine kmb_min (vs := its) (news := allNews X.base s.heap X.env.locals) kf hh F news_all (fun h F' N' => ⟨_, kept F' N' a _ (notL ha) hob, rfl, n, rfl⟩) (by
    rw [← hlen]
    exact List.length_pos_iff.mpr hne) (fun i v hv h tk own F' N' => ?_) fun i v h' tk' hv hb F' N' => ?_
  · obtain ⟨b, ys, rfl, hb⟩ := lens i v hv
    obtain ⟨hz2, its2, n2, rv2, hob2⟩ := I.hok b _ hb
    have N2 : News X.base X.env.locals h (allNews X.base s.heap X.env.locals) := fun p hp => N' p (List.mem_append_left _ hp)
    have hl : h.IsList b its2.toArray := ⟨_, kept F' N2 b _ (notL hb) hob2, rfl, n2, rfl⟩
    have hl2 := rv2.length
    have hs := sizeLine_eq
    have ek : kf i = (its2.toArray.size : Int) := by
      show (match its[i]? with | some (.ref b) => (match H b with | some (.lst ys) => (ys.length : Int) | _ => 0) | _ => 0) = _
      rw [hv]
      show (match H b with | some (.lst ys) => (ys.length : Int) | _ => 0) = _
      rw [hb, List.size_toArray, ← hl2]
    rw [ek]
    exact Calls.call_len_list hl (by rw [List.size_toArray]; omega) (KskEnd.intro F' N' fun p hp => hp)
  · obtain ⟨x, e, r⟩ := vals_at rv hv
    have I2 : Inv X pins σ H { s with heap := h', toks := tk' } := by
      have k := kept F' N'
      refine I.step (g' := s.gens) (d' := s.drawn) (ch := []) (fun _ z => nomatch z) (fun b o nb _ _ e _ => k b o nb e) (fun b o nb _ _ e _ => ⟨o.slots, k b o nb e⟩) (fun _ _ _ _ n => n)
        (fun b o _ e => ?_) (fun _ _ e => e) (fun _ _ _ e => e) (fun b ps e => ⟨#[], by rw [e]; simp⟩) (fun m' hm => ?_) (fun b u e => ?_) I.bare
      · by_cases hbL : b = X.env.locals
        · obtain ⟨o', _, _, ho', _⟩ := F'.ns
          exact ⟨o', by rw [hbL]; exact ho'⟩
        · exact ⟨o, k b o hbL e⟩
      · rw [SlX.ns_only hm F.ns]
        exact F'.ns
      · refine (I.hok b u e).stay (fun c v hc q => k c v ?_ q) (fun _ q => q) fun _ _ q => q
        rcases hc with z | z
        · rw [z]; exact notL e
        · exact notL z
    exact ⟨x, H, I2, r, q x (List.mem_of_getElem? e)⟩
theorem pe_minLen {e : Expr} {te : TE} {p p2 kpos pos : Pos} (hh : X.A.handled = none) (hg : Gl X "min") (hm : X.mg "min" = none) (hg2 : Gl X "len") (hm2 : X.mg "len" = none) (he : PE X e te)
    (hst0 : starEach [e] X.env = (false, eval e X.env) :: starEach [] X.env := by rfl) (hst : backTo pos (starEach [e] X.env) = (false, eval e X.env) :: backTo pos (starEach [] X.env) := by rfl) (hpl : (backTo pos (starEach [e] X.env)).any (·.1) = false := by rfl)
    (hall : (backToKw pos (keywordEach [⟨some "key", .Name "len" p2, kpos⟩] X.env)).all (·.1.isSome) = true := by rfl) (hnone : (backToKw pos (keywordEach [⟨some "key", .Name "len" p2, kpos⟩] X.env)).any (·.1.isNone) = false := by rfl) :
    PE X (.Call (.Name "min" p) [e] [⟨some "key", .Name "len" p2, kpos⟩] pos) (tCB rMinLen (tCons te tNil)) := by
  refine ⟨fun pins s σ H Q I h => ?_⟩
  refine wpAny_Call_Name_kw (ld_blt I hg hm (show bootBuiltins "min" = some (.builtin "min") by decide +kernel) ?_)
  refine PyProof.Rows.callWith_kw (thn ((pa_cons he pa_nil hst0).run pos pins s σ H _ I h) fun us s1 ⟨vs, H1, I1, r1, q1⟩ => ?_) hst hpl hall hnone
  show wpAny _ _ (evalAll ((do let v ← eval (.Name "len" p2) X.env; standAt pos; pure v) :: [])) _ _ s1
  refine wpAny_evalAll_cons (wpAny_bind (ld_blt I1 hg2 hm2 (show bootBuiltins "len" = some (.builtin "len") from PySem.boot_len) (wpAny_bind (wpAny_standAt (wpAny_pure (wpAny_evalAll_nil ?_))))))
  obtain ⟨a, xs, rfl, ha, hne, hx, q⟩ := q1
  obtain rfl := Vals.ref1 r1
  exact run_minLen hh I1 ha hne hx q
end
end Rb
set_option Elab.async false
set_option linter.all false
set_option maxRecDepth 100000
set_option maxHeartbeats 3200000
/-! Evaluation: max, min, in, slices, dicts. -/
namespace Rb
open PySem PySem.Spec PyProof.Rows L2

theorem all2_pV {α : Type} {f : α → V} {H : Hp} : ∀ {as : List α} {vs : List V}, All2 H vs (as.map fun a => pV (f a)) → vs = as.map f
  | [], [], _ => rfl
  | a :: as, v :: vs, h => by
    have h1 : v = f a := h.1
    rw [List.map_cons, h1, all2_pV (as := as) (vs := vs) h.2]
  | [], _ :: _, h => h.elim
  | _ :: _, [], h => h.elim
theorem all2_ints {H : Hp} {ns : List Nat} {vs : List V} (h : All2 H vs (ns.map pN)) : vs = (ns.map Int.ofNat).map V.int := by
  rw [all2_pV (f := fun n : Nat => V.int (n : Int)) h, List.map_map]
  rfl
theorem all2_of_pV {α : Type} {f : α → V} {H : Hp} : ∀ {as : List α}, All2 H (as.map f) (as.map fun a => pV (f a))
  | [] => True.intro
  | a :: as => ⟨rfl, all2_of_pV (as := as)⟩
def maxN (d : Nat) : List Nat → Nat
  | [] => d
  | n :: ns => ns.foldl max n
def minN (d : Nat) : List Nat → Nat
  | [] => d
  | n :: ns => ns.foldl min n
theorem foldl_max_cast : ∀ (ns : List Nat) (n : Nat), (ns.map Int.ofNat).foldl max (n : Int) = ((ns.foldl max n : Nat) : Int)
  | [], _ => rfl
  | m :: ns, n => by
    rw [List.map_cons, List.foldl_cons, List.foldl_cons, ← foldl_max_cast ns (max n m)]
    congr 1
    show max (n : Int) (m : Int) = _
    omega
theorem foldl_min_cast : ∀ (ns : List Nat) (n : Nat), (ns.map Int.ofNat).foldl min (n : Int) = ((ns.foldl min n : Nat) : Int)
  | [], _ => rfl
  | m :: ns, n => by
    rw [List.map_cons, List.foldl_cons, List.foldl_cons, ← foldl_min_cast ns (min n m)]
    congr 1
    show min (n : Int) (m : Int) = _
    omega
theorem maxDef_cast (d : Nat) : ∀ ns : List Nat, maxDef (d : Int) (ns.map Int.ofNat) = ((maxN d ns : Nat) : Int)
  | [] => rfl
  | n :: ns => foldl_max_cast ns n
theorem minDef_cast (d : Nat) : ∀ ns : List Nat, minDef (d : Int) (ns.map Int.ofNat) = ((minN d ns : Nat) : Int)
  | [] => rfl
  | n :: ns => foldl_min_cast ns n
/-- what holds of a value by its data -/
def DpP (K : PySem.W.Frag) (A : Pr) (d : PyData) : Prop := ∀ H v, A.p H v → Dp K H v d
section
variable {K : PySem.W.Frag} {σ : L2.St} {H : Hp} {ta tb tc td te ty tx : TE} {A B R S p : Pr} {ps qs : List Pr} {x y : V} {a b : Nat} {k : Key} {kps : List (Key × Pr)}
theorem dpN (n : Nat) : DpP K (pN n) (.int n) := fun H v h => by
  have h : v = .int (n : Int) := h
  rw [h]
  exact .int _
theorem dpS (x : Str) : DpP K (pS x) (.str x) := fun H v h => by
  have h : v = .str x := h
  rw [h]
  exact .str x
theorem dpAll {H : Hp} {α : Type} {f : α → Pr} {d : α → PyData} : ∀ {as : List α} {vs : List V}, (∀ a ∈ as, DpP K (f a) (d a)) → All2 H vs (as.map f) → DpAll K H vs (as.map d)
  | [], [], _, _ => .nil
  | a :: as, v :: vs, h, g => .cons (h a List.mem_cons_self _ _ g.1) (dpAll (fun b hb => h b (List.mem_cons_of_mem _ hb)) g.2)
  | [], _ :: _, _, h => h.elim
  | _ :: _, [], _, h => h.elim
theorem dpL {α : Type} {f : α → Pr} {d : α → PyData} {as : List α} (h : ∀ a ∈ as, DpP K (f a) (d a)) : DpP K (pL (as.map f)) (.list (as.map d)) := fun H v ⟨a, xs, e, ha, hx⟩ => by
  subst e
  exact .lst (SqL.of ha) (dpAll h hx)
theorem dpT2 {d e : PyData} (h1 : DpP K A d) (h2 : DpP K B e) : DpP K (pT [A, B]) (.tuple [d, e]) := fun H v ⟨a, xs, ev, ha, hx⟩ => by
  subst ev
  obtain ⟨u, w, rfl, r1, r2⟩ := all2 hx
  exact .tup (SqT.of ha) (.cons (h1 _ _ r1) (.cons (h2 _ _ r2) .nil))
theorem dpT3 {C : Pr} {d e f : PyData} (h1 : DpP K A d) (h2 : DpP K B e) (h3 : DpP K C f) : DpP K (pT [A, B, C]) (.tuple [d, e, f]) := fun H v ⟨a, xs, ev, ha, hx⟩ => by
  subst ev
  obtain ⟨u, w, z, rfl, r1, r2, r3⟩ := all3 hx
  exact .tup (SqT.of ha) (.cons (h1 _ _ r1) (.cons (h2 _ _ r2) (.cons (h3 _ _ r3) .nil)))
theorem ev_eqD {d e : PyData} (ha : Ev ta σ H A) (hb : Ev tb σ H B) (da : DpP K A d) (db : DpP K B e) (sd : SeqAt.shaped d = true) (se : SeqAt.shaped e = true) : Ev (tOp (rEqD K) ta tb) σ H (pB (PyData.eqv d e)) :=
  ev_op ha hb fun H' x y _ ex ey H1 e1 Q q => ⟨d, e, da _ _ (A.mono e1 ex), db _ _ (B.mono e1 ey), sd, se, q.val (Sep.refl e1)⟩
theorem ev_neD {d e : PyData} (ha : Ev ta σ H A) (hb : Ev tb σ H B) (da : DpP K A d) (db : DpP K B e) (sd : SeqAt.shaped d = true) (se : SeqAt.shaped e = true) : Ev (tOp (rNeD K) ta tb) σ H (pB (!PyData.eqv d e)) :=
  ev_op ha hb fun H' x y _ ex ey H1 e1 Q q => ⟨d, e, da _ _ (A.mono e1 ex), db _ _ (B.mono e1 ey), sd, se, q.val (Sep.refl e1)⟩
abbrev rMax2 : List V → Hp → VK → Prop := fun xs H Q => ∃ i j, xs = [.int i, .int j] ∧ Q (.int (if j > i then j else i)) H
theorem ev_max2 (ha : Ev ta σ H (pN a)) (hb : Ev tb σ H (pN b)) : Ev (tCB rMax2 (tCons ta (tCons tb tNil))) σ H (pN (max a b)) := ev_cb (ea_cons ha (ea_one hb)) fun H' vs _ hv H1 e1 Q q => by
  obtain ⟨v, w, rfl, e2, e3⟩ := all2 hv
  have e2 : v = .int (a : Int) := e2
  have e3 : w = .int (b : Int) := e3
  subst e2 e3
  refine ⟨_, _, rfl, ?_⟩
  have e : (if (b : Int) > (a : Int) then (b : Int) else (a : Int)) = ((max a b : Nat) : Int) := by
    split <;> omega
  rw [e]
  exact q.val (Sep.refl e1)
theorem ev_maxDef {ns : List Nat} {d : Nat} (h : Ev ta σ H (pNs ns)) (hd : Ev td σ H (pN d)) : Ev (tCKw (rMaxDef K) (tCons ta tNil) (tCons td tNil)) σ H (pN (maxN d ns)) := fun H1 e Q q =>
  ea_one h H1 e _ fun vs K1 H2 s r => ((ea_one hd).mono s.a) H2 s.b _ fun zs K2 H3 s2 r2 => by
    obtain ⟨v, rfl, l, xs, rfl, hl, hx⟩ := all1 r
    obtain ⟨w, rfl, ew⟩ := all1 r2
    have ew : w = .int (d : Int) := ew
    subst ew
    rw [all2_ints hx] at hl
    refine ⟨l, ns.map Int.ofNat, d, rfl, rfl, SqL.of (s2.c _ _ (s.b _ _ hl)), ?_⟩
    rw [maxDef_cast]
    exact q.val (s.trans s2)
theorem ev_minDef {ns : List Nat} {d : Nat} (h : Ev ta σ H (pNs ns)) (hd : Ev td σ H (pN d)) : Ev (tCKw (rMinDef K) (tCons ta tNil) (tCons td tNil)) σ H (pN (minN d ns)) := fun H1 e Q q =>
  ea_one h H1 e _ fun vs K1 H2 s r => ((ea_one hd).mono s.a) H2 s.b _ fun zs K2 H3 s2 r2 => by
    obtain ⟨v, rfl, l, xs, rfl, hl, hx⟩ := all1 r
    obtain ⟨w, rfl, ew⟩ := all1 r2
    have ew : w = .int (d : Int) := ew
    subst ew
    rw [all2_ints hx] at hl
    refine ⟨l, ns.map Int.ofNat, d, rfl, rfl, SqL.of (s2.c _ _ (s.b _ _ hl)), ?_⟩
    rw [minDef_cast]
    exact q.val (s.trans s2)
theorem ev_minT (h : Ev ta σ H (pT [pN a, pN b])) : Ev (tCB (rMinT K) (tCons ta tNil)) σ H (pN (min a b)) := ev_cb (ea_one h) fun H' vs _ hv H1 e1 Q q => by
  obtain ⟨v, rfl, l, xs, rfl, hl, hx⟩ := all1 hv
  rw [all2_ints (ns := [a, b]) hx] at hl
  refine ⟨l, a, [(b : Int)], rfl, SqT.of (e1 _ _ hl), ?_⟩
  have e : ([(b : Int)]).foldl min (a : Int) = ((min a b : Nat) : Int) := by
    show min (a : Int) (b : Int) = _
    omega
  rw [e]
  exact q.val (Sep.refl e1)
theorem ev_maxT (h : Ev ta σ H (pT [pN a, pN b])) : Ev (tCB (rMaxT K) (tCons ta tNil)) σ H (pN (max a b)) := ev_cb (ea_one h) fun H' vs _ hv H1 e1 Q q => by
  obtain ⟨v, rfl, l, xs, rfl, hl, hx⟩ := all1 hv
  rw [all2_ints (ns := [a, b]) hx] at hl
  refine ⟨l, a, [(b : Int)], rfl, SqT.of (e1 _ _ hl), ?_⟩
  have e : ([(b : Int)]).foldl max (a : Int) = ((max a b : Nat) : Int) := by
    show max (a : Int) (b : Int) = _
    omega
  rw [e]
  exact q.val (Sep.refl e1)
/-- min of data: one of them -/
theorem ev_minD {α : Type} {as : List α} {f : α → Pr} {d : α → PyData} (h : Ev ta σ H (pL (as.map f))) (hne : as ≠ []) (hd : ∀ a ∈ as, DpP K (f a) (d a)) (hal : PySem.W.AlikeAll (as.map d)) (hdp : PyData.depthAll (as.map d) ≤ 50) (hR : ∀ a ∈ as, ∀ H v, (f a).p H v → R.p H v) :
    Ev (tCB (rMinD K) (tCons ta tNil)) σ H R := ev_cb (ea_one h) fun H' vs _ hv H1 e1 Q q => by
  obtain ⟨v, rfl, l, xs, rfl, hl, hx⟩ := all1 hv
  have hlen := hx.length
  refine ⟨l, xs, as.map d, rfl, SqL.of (e1 _ _ hl), dpAll hd (hx.mono e1), fun e => ?_, hal, hdp, fun x hx' => ?_⟩
  · rw [e, List.length_map] at hlen
    exact hne (List.eq_nil_of_length_eq_zero hlen.symm)
  · obtain ⟨i, hi⟩ := List.mem_iff_getElem?.mp hx'
    have hil : i < as.length := by
      rw [List.length_map] at hlen
      rw [← hlen]
      exact (List.getElem?_eq_some_iff.mp hi).1
    have e2 : (as.map f)[i]? = some (f as[i]) := by rw [List.getElem?_map, List.getElem?_eq_getElem hil] <;> rfl
    exact q x H' H1 (Sep.refl e1) (hR _ (List.getElem_mem hil) _ _ (hx.at e2 hi))
/-- .. of lists: their lengths -/
theorem ev_minLen {α : Type} {as : List α} {f : α → List Pr} (h : Ev ta σ H (pL (as.map fun a => pL (f a)))) (hne : as ≠ []) (hR : ∀ a ∈ as, ∀ H v, (pL (f a)).p H v → R.p H v) : Ev (tCB rMinLen (tCons ta tNil)) σ H R := ev_cb (ea_one h) fun H' vs _ hv H1 e1 Q q => by
  obtain ⟨v, rfl, l, xs, rfl, hl, hx⟩ := all1 hv
  have hlen := hx.length
  have at_ : ∀ x ∈ xs, ∃ a ∈ as, (pL (f a)).p H' x := fun x hx' => by
    obtain ⟨i, hi⟩ := List.mem_iff_getElem?.mp hx'
    have hil : i < as.length := by
      rw [List.length_map] at hlen
      rw [← hlen]
      exact (List.getElem?_eq_some_iff.mp hi).1
    have e2 : (as.map fun a => pL (f a))[i]? = some (pL (f as[i])) := by rw [List.getElem?_map, List.getElem?_eq_getElem hil] <;> rfl
    exact ⟨_, List.getElem_mem hil, hx.at e2 hi⟩
  refine ⟨l, xs, rfl, e1 _ _ hl, fun e => ?_, fun x hx' => ?_, fun x hx' => ?_⟩
  · rw [e, List.length_map] at hlen
    exact hne (List.eq_nil_of_length_eq_zero hlen.symm)
  · obtain ⟨a, _, b, ys, rfl, hb, _⟩ := at_ x hx'
    exact ⟨b, ys, rfl, e1 _ _ hb⟩
  · obtain ⟨a, ha, r⟩ := at_ x hx'
    exact q x H' H1 (Sep.refl e1) (hR a ha _ _ r)
/-! in -/
theorem inV_nat (n : Nat) (ns : List Nat) : inV (.int n) (ns.map fun m : Nat => V.int (m : Int)) = decide (n ∈ ns) := by
  induction ns with
  | nil => rfl
  | cons m ns ih =>
    show (eqV (.int m) (.int n) || inV (.int n) (ns.map fun m : Nat => V.int (m : Int))) = _
    rw [ih]
    show (((m : Int) == (n : Int)) || decide (n ∈ ns)) = _
    by_cases h : m = n
    · subst h
      simp
    · have h2 : ¬ n = m := fun z => h z.symm
      have h3 : ((m : Int) == (n : Int)) = false := beq_eq_false_iff_ne.mpr (by omega)
      simp [h2, h3]
theorem inV_str (x : Str) (xs : List Str) : inV (.str x) (xs.map V.str) = decide (x ∈ xs) := by
  induction xs with
  | nil => rfl
  | cons y xs ih =>
    show (eqV (.str y) (.str x) || inV (.str x) (xs.map V.str)) = _
    rw [ih]
    show ((y == x) || decide (x ∈ xs)) = _
    by_cases h : y = x
    · subst h
      simp
    · have h2 : ¬ x = y := fun z => h z.symm
      have h3 : (y == x) = false := by simpa using h
      simp [h2, h3]
theorem flat_map {α : Type} {f : α → V} (h : ∀ a, flatV (f a) = true) (as : List α) : (as.map f).all flatV = true := by
  rw [List.all_eq_true]
  intro v hv
  obtain ⟨a, _, rfl⟩ := List.mem_map.mp hv
  exact h a
theorem ev_inN {ns : List Nat} (ha : Ev ta σ H (pN a)) (hb : Ev tb σ H (pNs ns)) : Ev (tOp (rIn K false) ta tb) σ H (pB (decide (a ∈ ns))) :=
  ev_op ha hb fun H' x y _ ex ⟨l, xs, ey, hl, hx⟩ H1 e Q q => by
    subst ey
    have ex : x = .int (a : Int) := ex
    subst ex
    have e2 := all2_pV (f := fun n : Nat => V.int (n : Int)) hx
    subst e2
    refine ⟨l, _, rfl, .inl (SqL.of (e _ _ hl)), rfl, flat_map (fun _ => rfl) ns, ?_⟩
    show Q (.bl (inV _ _)) H1
    rw [inV_nat]
    exact q.val (Sep.refl e)
theorem ev_ninN {ns : List Nat} (ha : Ev ta σ H (pN a)) (hb : Ev tb σ H (pNs ns)) : Ev (tOp (rIn K true) ta tb) σ H (pB (!decide (a ∈ ns))) :=
  ev_op ha hb fun H' x y _ ex ⟨l, xs, ey, hl, hx⟩ H1 e Q q => by
    subst ey
    have ex : x = .int (a : Int) := ex
    subst ex
    have e2 := all2_pV (f := fun n : Nat => V.int (n : Int)) hx
    subst e2
    refine ⟨l, _, rfl, .inl (SqL.of (e _ _ hl)), rfl, flat_map (fun _ => rfl) ns, ?_⟩
    show Q (.bl (!inV _ _)) H1
    rw [inV_nat]
    exact q.val (Sep.refl e)
theorem ev_inS {x : Str} {xs : List Str} (ha : Ev ta σ H (pS x)) (hb : Ev tb σ H (pL (xs.map pS))) : Ev (tOp (rIn K false) ta tb) σ H (pB (decide (x ∈ xs))) :=
  ev_op ha hb fun H' v y _ ex ⟨l, vs, ey, hl, hx⟩ H1 e Q q => by
    subst ey
    have ex : v = .str x := ex
    subst ex
    have e2 := all2_pV (f := V.str) hx
    subst e2
    refine ⟨l, _, rfl, .inl (SqL.of (e _ _ hl)), rfl, flat_map (fun _ => rfl) xs, ?_⟩
    show Q (.bl (inV _ _)) H1
    rw [inV_str]
    exact q.val (Sep.refl e)
theorem ev_inST {x : Str} {xs : List Str} (ha : Ev ta σ H (pS x)) (hb : Ev tb σ H (pT (xs.map pS))) : Ev (tOp (rIn K false) ta tb) σ H (pB (decide (x ∈ xs))) :=
  ev_op ha hb fun H' v y _ ex ⟨l, vs, ey, hl, hx⟩ H1 e Q q => by
    subst ey
    have ex : v = .str x := ex
    subst ex
    have e2 := all2_pV (f := V.str) hx
    subst e2
    refine ⟨l, _, rfl, .inr (SqT.of (e _ _ hl)), rfl, flat_map (fun _ => rfl) xs, ?_⟩
    show Q (.bl (inV _ _)) H1
    rw [inV_str]
    exact q.val (Sep.refl e)
/-! a op b op c -/
theorem ev_chain {f g : Int → Int → Bool} {i j m : Int} (ha : Ev ta σ H (pI i)) (hb : Ev tb σ H (pI j)) (hc : Ev tc σ H (pI m)) : Ev (tChain (rI0 fun i j => .bl (f i j)) (rI0 fun i j => .bl (g i j)) ta tb tc) σ H (pB (f i j && g j m)) := fun H1 e Q q =>
  ha H1 e _ fun v K1 H2 s r => (hb.mono s.a) H2 s.b _ fun w K2 H3 s2 r2 => by
    have r : v = .int i := r
    have r2 : w = .int j := r2
    subst r r2
    refine ⟨i, j, rfl, rfl, f i j, rfl, ?_⟩
    cases hf : f i j with
    | true =>
      rw [if_pos rfl]
      refine (hc.mono (s.a.trans s2.a)) H3 s2.b _ fun u K3 H4 s3 r3 => ?_
      have r3 : u = .int m := r3
      subst r3
      refine ⟨j, m, rfl, rfl, ?_⟩
      have q1 := q.val ((s.trans s2).trans s3)
      rw [hf] at q1
      exact q1
    | false =>
      rw [if_neg (by decide)]
      have q1 := q.val (s.trans s2)
      rw [hf] at q1
      exact q1
/-! slices -/
theorem all2_cut {H : Hp} {vs : List V} {ps : List Pr} (h : All2 H vs ps) (i j : Nat) : All2 H ((vs.drop i).take j) ((ps.drop i).take j) := (h.drop i).take j
theorem ev_from {n : Nat} (h : Ev ta σ H (pL ps)) (hn : Ev tb σ H (pN n)) : Ev (tSl (rSlL K) ta (tPart tb) tNoPart) σ H (pL (ps.drop n)) := fun H1 e Q q =>
  h H1 e _ fun v K1 H2 s ⟨l, xs, ev, hl, hx⟩ => (hn.mono s.a) H2 s.b _ fun w K2 H3 s2 r2 => by
    subst ev
    have r2 : w = .int (n : Int) := r2
    subst r2
    refine ⟨n, rfl, l, xs, rfl, SqL.of (s2.c _ _ (s.b _ _ hl)), fun p hp => q _ _ _ ((s.trans s2).trans (Sep.new s2.b hp)) ⟨p, _, rfl, upd_same, ?_⟩⟩
    have e1 : cutV xs (some (n : Int)) none = (xs.drop n) := by
      unfold cutV
      rw [HT.sIx_nat, HT.sIx_none]
      by_cases hn : n ≤ xs.length
      · rw [Nat.min_eq_left hn, List.take_of_length_le (by rw [List.length_drop]; omega)]
      · rw [Nat.min_eq_right (by omega), List.drop_length, List.drop_eq_nil_of_le (by omega), List.take_nil]
    rw [e1]
    exact ((hx.mono s2.a).drop n).mono (Ex.new (s2.b.back hp))
theorem ev_upto {n : Nat} (h : Ev ta σ H (pL ps)) (hn : Ev tb σ H (pN n)) : Ev (tSl (rSlL K) ta tNoPart (tPart tb)) σ H (pL (ps.take n)) := fun H1 e Q q =>
  h H1 e _ fun v K1 H2 s ⟨l, xs, ev, hl, hx⟩ => (hn.mono s.a) H2 s.b _ fun w K2 H3 s2 r2 => by
    subst ev
    have r2 : w = .int (n : Int) := r2
    subst r2
    refine ⟨n, rfl, l, xs, rfl, SqL.of (s2.c _ _ (s.b _ _ hl)), fun p hp => q _ _ _ ((s.trans s2).trans (Sep.new s2.b hp)) ⟨p, _, rfl, upd_same, ?_⟩⟩
    have e1 : cutV xs none (some (n : Int)) = (xs.take n) := by
      unfold cutV
      rw [HT.sIx_nat, HT.sIx_none, List.drop_zero, Nat.sub_zero]
      by_cases hn : n ≤ xs.length
      · rw [Nat.min_eq_left hn]
      · rw [Nat.min_eq_right (by omega), List.take_length, List.take_of_length_le (by omega)]
    rw [e1]
    exact ((hx.mono s2.a).take n).mono (Ex.new (s2.b.back hp))
/-- xs + ys -/
theorem ev_cat (ha : Ev ta σ H (pL ps)) (hb : Ev tb σ H (pL qs)) (hz : ps.length + qs.length ≤ 100000) : Ev (tOp rCat ta tb) σ H (pL (ps ++ qs)) :=
  ev_op ha hb fun H' v w _ ⟨l, xs, ev, hl, hx⟩ ⟨m, ys, ew, hm, hy⟩ H1 e Q q => by
    subst ev ew
    refine ⟨l, m, xs, ys, rfl, rfl, e _ _ hl, e _ _ hm, Nat.le_trans (by rw [hx.length, hy.length]; exact hz) (by decide), fun p hp => q _ _ _ (Sep.new e hp) ⟨p, _, rfl, upd_same, (hx.append hy).mono (Ex.new (e.back hp))⟩⟩
/-- all, any -/
theorem ev_all {bs : List Bool} (h : Ev ta σ H (pL (bs.map pB))) : Ev (tCB (rAll K) (tCons ta tNil)) σ H (pB (bs.all id)) := ev_cb (ea_one h) fun H' vs _ hv H1 e1 Q q => by
  obtain ⟨v, rfl, l, xs, rfl, hl, hx⟩ := all1 hv
  rw [all2_pV (f := V.bl) hx] at hl
  exact ⟨l, bs, rfl, SqL.of (e1 _ _ hl), q.val (Sep.refl e1)⟩
theorem ev_any {bs : List Bool} (h : Ev ta σ H (pL (bs.map pB))) : Ev (tCB (rAny K) (tCons ta tNil)) σ H (pB (bs.any id)) := ev_cb (ea_one h) fun H' vs _ hv H1 e1 Q q => by
  obtain ⟨v, rfl, l, xs, rfl, hl, hx⟩ := all1 hv
  rw [all2_pV (f := V.bl) hx] at hl
  exact ⟨l, bs, rfl, SqL.of (e1 _ _ hl), q.val (Sep.refl e1)⟩
/-- sorted -/
def srt (ns : List Nat) : List Nat := ns.mergeSort fun a b => decide (a ≤ b)
theorem srt_perm (ns : List Nat) : (srt ns).Perm ns := List.mergeSort_perm ..
theorem srt_le (ns : List Nat) : (srt ns).Pairwise (· ≤ ·) := by
  have h := List.pairwise_mergeSort (le := fun a b : Nat => decide (a ≤ b)) (fun a b c => by simp; omega) (fun a b => by simp; omega) ns
  exact h.imp fun h => by simpa using h
theorem srt_of {ns ms : List Nat} (h : ms.Perm ns) (p : ms.Pairwise (· ≤ ·)) : ms = srt ns :=
  List.Perm.eq_of_pairwise (le := fun a b : Nat => a ≤ b) (fun a b _ _ h1 h2 => Nat.le_antisymm h1 h2) p (srt_le ns) (h.trans (srt_perm ns).symm)
theorem ev_sortedN {ns : List Nat} (h : Ev ta σ H (pNs ns)) : Ev (tCB (rSortedI K) (tCons ta tNil)) σ H (pNs (srt ns)) := ev_cb (ea_one h) fun H' vs _ hv H1 e1 Q q => by
  obtain ⟨v, rfl, l, xs, rfl, hl, hx⟩ := all1 hv
  rw [all2_ints hx] at hl
  refine ⟨l, ns.map Int.ofNat, rfl, SqL.of (e1 _ _ hl), fun ns' p hp hs hn => ?_⟩
  have e2 : ns' = (srt ns).map Int.ofNat := by
    refine List.Perm.eq_of_pairwise (le := fun a b : Int => a ≤ b) (fun a b _ _ h1 h2 => by omega) hs ?_ (hp.trans ((srt_perm ns).map _).symm)
    rw [List.pairwise_map]
    exact (srt_le ns).imp fun h => Int.ofNat_le.mpr h
  subst e2
  refine q _ _ _ (Sep.new e1 hn) ⟨p, _, rfl, upd_same, ?_⟩
  rw [List.map_map]
  exact all2_of_pV (f := fun n : Nat => V.int (n : Int))
/-- links -/
def pLk (l : Nat × Nat) : Pr := pT [pN l.1, pN l.2]
abbrev pLks (ls : List (Nat × Nat)) : Pr := pL (ls.map pLk)
theorem all2_perm {H : Hp} {α : Type} {f : α → Pr} : ∀ {vs ws : List V} {as : List α}, All2 H vs (as.map f) → ws.Perm vs → ∃ bs : List α, bs.Perm as ∧ All2 H ws (bs.map f) := by
  intro vs ws as h hp
  have aux : ∀ {ws vs : List V}, ws.Perm vs → ∀ as : List α, All2 H vs (as.map f) → ∃ bs : List α, bs.Perm as ∧ All2 H ws (bs.map f) := by
    intro ws vs hp
    induction hp with
    | nil =>
      intro as h
      exact ⟨as, List.Perm.refl _, h⟩
    | cons x p ih =>
      intro as h
      cases as with
      | nil => exact h.elim
      | cons a as =>
        obtain ⟨bs, p1, h1⟩ := ih as h.2
        exact ⟨a :: bs, p1.cons a, h.1, h1⟩
    | swap x y l =>
      intro as h
      cases as with
      | nil => exact h.elim
      | cons a as =>
        cases as with
        | nil => exact h.2.elim
        | cons b as => exact ⟨b :: a :: as, List.Perm.swap a b as, h.2.1, h.1, h.2.2⟩
    | trans p1 p2 ih1 ih2 =>
      intro as h
      obtain ⟨bs, q1, h1⟩ := ih2 as h
      obtain ⟨cs, q2, h2⟩ := ih1 bs h1
      exact ⟨cs, q2.trans q1, h2⟩
  exact aux hp as h
theorem ev_sortedLk {ls : List (Nat × Nat)} (h : Ev ta σ H (pLks ls)) : Ev (tCB (rSortedP K) (tCons ta tNil)) σ H (pE (fun ms : List (Nat × Nat) => ms.Perm ls) pLks) := ev_cb (ea_one h) fun H' vs _ hv H1 e1 Q q => by
  obtain ⟨v, rfl, l, xs, rfl, hl, hx⟩ := all1 hv
  refine ⟨l, xs, rfl, SqL.of (e1 _ _ hl), fun x hx' => ?_, fun ys p hp hn => ?_⟩
  · obtain ⟨i, hi⟩ := List.mem_iff_getElem?.mp hx'
    have hlen := hx.length
    rw [List.length_map] at hlen
    have hil : i < ls.length := by
      rw [← hlen]
      exact (List.getElem?_eq_some_iff.mp hi).1
    have e2 : (ls.map pLk)[i]? = some (pLk ls[i]) := by rw [List.getElem?_map, List.getElem?_eq_getElem hil] <;> rfl
    obtain ⟨t, us, rfl, ht, hu⟩ := hx.at e2 hi
    rw [all2_ints (ns := [(ls[i]).1, (ls[i]).2]) hu] at ht
    exact ⟨t, _, _, rfl, e1 _ _ ht⟩
  · obtain ⟨ms, p1, h1⟩ := all2_perm hx hp
    exact q _ _ _ (Sep.new e1 hn) ⟨ms, p1, p, ys, rfl, upd_same, h1.mono (Ex.new (e1.back hn))⟩
/-- int(b) -/
abbrev rInt1 : List V → Hp → VK → Prop := fun xs H Q => (∃ i, xs = [.int i] ∧ Q (.int i) H) ∨ ∃ k, xs = [.bl k] ∧ Q (.int (if k then 1 else 0)) H
theorem ev_intB {b : Bool} (h : Ev ta σ H (pB b)) : Ev (tCB rInt1 (tCons ta tNil)) σ H (pN (if b then 1 else 0)) := ev_cb (ea_one h) fun H' vs _ hv H1 e1 Q q => by
  obtain ⟨v, rfl, ev⟩ := all1 hv
  have ev : v = .bl b := ev
  subst ev
  refine .inr ⟨b, rfl, ?_⟩
  have q1 := q.val (Sep.refl e1)
  cases b <;> exact q1
theorem ev_intI {i : Int} (h : Ev ta σ H (pI i)) : Ev (tCB rInt1 (tCons ta tNil)) σ H (pI i) := ev_cb (ea_one h) fun H' vs _ hv H1 e1 Q q => by
  obtain ⟨v, rfl, ev⟩ := all1 hv
  have ev : v = .int i := ev
  subst ev
  exact .inl ⟨i, rfl, q.val (Sep.refl e1)⟩
/-- a or b, b as it is where a is not true -/
theorem ev_orT {b : Bool} (ha : Ev ta σ H A) (ht : ∀ H' v, A.p H' v → ∀ H1, Ex H' H1 → TruV K v H1 b) (h1 : b = true → ∀ H' v, A.p H' v → R.p H' v) (h2 : b = false → Ev tb σ H R) : Ev (tOrT K ta tb) σ H R := fun H1 e Q q => ha H1 e _ fun v K1 H2 s r => by
  refine ⟨b, ht _ _ r _ s.b, ?_⟩
  cases b with
  | true =>
    rw [if_pos rfl]
    exact q v K1 H2 s (h1 rfl _ _ r)
  | false =>
    rw [if_neg (by decide)]
    exact ((h2 rfl).mono s.a) H2 s.b Q (q.go s)
/-- a list or None -/
def pON : Option (List Nat) → Pr
  | none => pNo
  | some ns => pNs ns
theorem ev_orN {o : Option (List Nat)} (h : Ev ta σ H (pON o)) : Ev (tOrT K ta (tLst tNil)) σ H (pNs (o.getD [])) := by
  have hl : Ev (tLst tNil) σ H (pNs []) := ev_lst ea_nil
  cases o with
  | none =>
    refine ev_orT (b := false) h (fun H' v r H1 e => ?_) (fun z => nomatch z) fun _ => hl
    have r : v = .non := r
    subst r
    rfl
  | some ns =>
    have tr : ∀ H' v, (pNs ns).p H' v → ∀ H1, Ex H' H1 → TruV K v H1 (!ns.isEmpty) := fun H' v ⟨l, xs, ev, hl, hx⟩ H1 e => by
      subst ev
      refine .inl ⟨xs, SqL.of (e _ _ hl), ?_⟩
      have := hx.length
      cases xs <;> cases ns <;> simp at this ⊢
    cases ns with
    | nil => exact ev_orT (b := false) h tr (fun z => nomatch z) fun _ => hl
    | cons n ns => exact ev_orT (b := true) h tr (fun _ _ _ r => r) fun z => nomatch z
/-! ### dicts -/
def atD (kps : List (Key × Pr)) (k : Key) : Option Pr := (kps.find? fun q => decide (q.1 = k)).map (·.2)
theorem valD {H : Hp} : ∀ {kps : List (Key × Pr)} {vs : List V}, All2 H vs (kps.map Prod.snd) → ∀ k, match atD kps k with | some p => ∃ u, valV ((kps.map Prod.fst).zip vs) k = some u ∧ p.p H u | none => valV ((kps.map Prod.fst).zip vs) k = none
  | [], [], _, k => rfl
  | (k', p) :: kps, v :: vs, h, k => by
    by_cases e : k' = k
    · have e1 : atD ((k', p) :: kps) k = some p := by simp [atD, e]
      rw [e1]
      exact ⟨v, by simp [valV, e], h.1⟩
    · have e1 : atD ((k', p) :: kps) k = atD kps k := by simp [atD, List.find?_cons, e]
      have e2 : valV ((((k', p) :: kps).map Prod.fst).zip (v :: vs)) k = valV ((kps.map Prod.fst).zip vs) k := by
        show valV ((k', v) :: (kps.map Prod.fst).zip vs) k = _
        exact valV_neg e
      rw [e1, e2]
      exact valD h.2 k
  | [], _ :: _, h, _ => h.elim
  | _ :: _, [], h, _ => h.elim
theorem rd_ex {H H' : Hp} {a : Addr} {u : HO} (h : Rd H a u) (e : Ex H H') : Rd H' a u := h.elim (fun h => .inl (e _ _ h)) fun ⟨o, h⟩ => .inr ⟨o, e _ _ h⟩
/-- raw: the dict at d, where it stands (locked, too) -/
theorem ev_dgetR {d : Addr} {kvs : List (Key × V)} {v : V} (h : Ev td σ H (pV (.ref d))) (hk : Ev ty σ H (pV (kV k))) (hd : Rd H d (.dK kvs)) (e : valV kvs k = some v) (r : R.p H v) : Ev (tDGet td ty) σ H R := fun H1 e1 Q q =>
  h H1 e1 _ fun x K1 H2 s rx => (hk.mono s.a) H2 s.b _ fun y K2 H3 s2 ry => by
    have rx : x = .ref d := rx
    have ry : y = kV k := ry
    subst rx ry
    exact ⟨d, v, rfl, .inl ⟨kvs, k, rd_ex (rd_ex (rd_ex hd s.a) s2.a) s2.b, rfl, e.symm⟩, q v _ _ (s.trans s2) (R.mono (s.a.trans s2.a) r)⟩
theorem ev_dinR {d : Addr} {kvs : List (Key × V)} {b : Bool} (hk : Ev ty σ H (pV (kV k))) (h : Ev td σ H (pV (.ref d))) (hd : Rd H d (.dK kvs)) (e : (valV kvs k).isSome = b) : Ev (tDIn ty td) σ H (pB b) := fun H1 e1 Q q =>
  hk H1 e1 _ fun y K1 H2 s ry => (h.mono s.a) H2 s.b _ fun x K2 H3 s2 rx => by
    have rx : x = .ref d := rx
    have ry : y = kV k := ry
    subst rx ry
    refine ⟨d, valV kvs k, rfl, .inl ⟨kvs, k, rd_ex (rd_ex (rd_ex hd s.a) s2.a) s2.b, rfl, rfl⟩, ?_⟩
    rw [e]
    exact q.val (s.trans s2)
theorem ev_dninR {d : Addr} {kvs : List (Key × V)} {b : Bool} (hk : Ev ty σ H (pV (kV k))) (h : Ev td σ H (pV (.ref d))) (hd : Rd H d (.dK kvs)) (e : (valV kvs k).isSome = b) : Ev (tDNotIn ty td) σ H (pB (!b)) := fun H1 e1 Q q =>
  hk H1 e1 _ fun y K1 H2 s ry => (h.mono s.a) H2 s.b _ fun x K2 H3 s2 rx => by
    have rx : x = .ref d := rx
    have ry : y = kV k := ry
    subst rx ry
    refine ⟨d, valV kvs k, rfl, .inl ⟨kvs, k, rd_ex (rd_ex (rd_ex hd s.a) s2.a) s2.b, rfl, rfl⟩, ?_⟩
    rw [e]
    exact q.val (s.trans s2)
theorem ev_dget2R {d : Addr} {kvs : List (Key × V)} {z : V} (h : Ev td σ H (pV (.ref d))) (hk : Ev ty σ H (pV (kV k))) (hx : Ev tx σ H (pV z)) (hd : Rd H d (.dK kvs)) (r : R.p H ((valV kvs k).getD z)) : Ev (tDGet2 td ty tx) σ H R := fun H1 e1 Q q =>
  h H1 e1 _ fun x K1 H2 s rx => by
    have rx : x = .ref d := rx
    subst rx
    refine ⟨d, rfl, .inl ⟨kvs, rd_ex (rd_ex hd s.a) s.b⟩, (hk.mono s.a) H2 s.b _ fun y K2 H3 s2 ry => ((hx.mono s.a).mono s2.a) H3 s2.b _ fun w K3 H4 s3 rw' => ?_⟩
    have ry : y = kV k := ry
    have rw' : w = z := rw'
    subst ry rw'
    exact ⟨valV kvs k, .inl ⟨kvs, k, rd_ex (rd_ex (rd_ex (rd_ex hd s.a) s2.a) s3.a) s3.b, rfl, rfl⟩, q _ _ _ ((s.trans s2).trans s3) (R.mono ((s.a.trans s2.a).trans s3.a) r)⟩
theorem ev_dgetD (h : Ev td σ H (pD kps)) (hk : Ev ty σ H (pV (kV k))) (e : atD kps k = some p) : Ev (tDGet td ty) σ H p := fun H1 e1 Q q =>
  h H1 e1 _ fun x K1 H2 s ⟨d, vs, ex, hd, hx⟩ => (hk.mono s.a) H2 s.b _ fun y K2 H3 s2 ry => by
    have ry : y = kV k := ry
    subst ex ry
    have z := valD hx k
    rw [e] at z
    obtain ⟨u, e2, ru⟩ := z
    exact ⟨d, u, rfl, .inl ⟨_, k, .inl (s2.c _ _ (s.b _ _ hd)), rfl, e2.symm⟩, q u _ _ (s.trans s2) (p.mono s2.a ru)⟩
theorem ev_dinD (hk : Ev ty σ H (pV (kV k))) (h : Ev td σ H (pD kps)) : Ev (tDIn ty td) σ H (pB (atD kps k).isSome) := fun H1 e1 Q q =>
  hk H1 e1 _ fun y K1 H2 s ry => (h.mono s.a) H2 s.b _ fun x K2 H3 s2 ⟨d, vs, ex, hd, hx⟩ => by
    have ry : y = kV k := ry
    subst ex ry
    refine ⟨d, _, rfl, .inl ⟨_, k, .inl (s2.b _ _ hd), rfl, rfl⟩, ?_⟩
    have z := valD hx k
    have e2 : (valV ((kps.map Prod.fst).zip vs) k).isSome = (atD kps k).isSome := by
      cases q3 : atD kps k with
      | none =>
        rw [q3] at z
        rw [show valV ((kps.map Prod.fst).zip vs) k = none from z] <;> rfl
      | some p =>
        rw [q3] at z
        obtain ⟨u, z, _⟩ := z
        rw [z] <;> rfl
    rw [e2]
    exact q.val (s.trans s2)
theorem ev_dninD (hk : Ev ty σ H (pV (kV k))) (h : Ev td σ H (pD kps)) : Ev (tDNotIn ty td) σ H (pB (!(atD kps k).isSome)) := fun H1 e1 Q q =>
  hk H1 e1 _ fun y K1 H2 s ry => (h.mono s.a) H2 s.b _ fun x K2 H3 s2 ⟨d, vs, ex, hd, hx⟩ => by
    have ry : y = kV k := ry
    subst ex ry
    refine ⟨d, _, rfl, .inl ⟨_, k, .inl (s2.b _ _ hd), rfl, rfl⟩, ?_⟩
    have z := valD hx k
    have e2 : (valV ((kps.map Prod.fst).zip vs) k).isSome = (atD kps k).isSome := by
      cases q3 : atD kps k with
      | none =>
        rw [q3] at z
        rw [show valV ((kps.map Prod.fst).zip vs) k = none from z] <;> rfl
      | some p =>
        rw [q3] at z
        obtain ⟨u, z, _⟩ := z
        rw [z] <;> rfl
    rw [e2]
    exact q.val (s.trans s2)
/-- {} -/
theorem ev_dnew : Ev tDNewK σ H (pD []) := fun H1 e Q q p hp => q _ _ _ (Sep.new e hp) ⟨p, [], rfl, upd_same, True.intro⟩
/-- dict(d) -/
abbrev rDictD : List V → Hp → VK → Prop := fun xs H Q => ∃ (a : Addr) (kvs : List (Key × V)), xs = [.ref a] ∧ Rd H a (.dK kvs) ∧ ∀ p, H p = none → Q (.ref p) (upd H p (.dK kvs))
end
section
variable {σ : L2.St} {H H1 : Hp} {te : TE} {R : Pr} {tz : TS} {g : TG} {D : Ends}
theorem q_asgG (e : Ex H H1) (h : Ev te σ H R) (k : ∀ v H' H2, Sep H H1 H' H2 → R.p H' v → ∃ σ2, Bnd g v σ H' σ2 ∧ tz D σ2 H2) : tSeq (tAsg te g) tz D σ H1 := h H1 e _ fun v H' H2 s r => by
  obtain ⟨σ2, hb, k⟩ := k v H' H2 s r
  exact hb H2 s.b _ k
end
/-! ### loops over a dict's keys: the dict is locked -/
/-- not hurt by an unlock -/
def Flat (R : Pr) : Prop := ∀ (G : Hp) (d : Addr) (o : Obj) (kvs : List (Key × V)) (v : V), G d = some (.frz o (.dK kvs)) → R.p G v → R.p (upd G d (.dK kvs)) v
theorem flat_pV (x : V) : Flat (pV x) := fun _ _ _ _ _ _ h => h
theorem all2_flat {G : Hp} {d : Addr} {o : Obj} {kvs : List (Key × V)} (hd : G d = some (.frz o (.dK kvs))) : ∀ {vs : List V} {ps : List Pr}, (∀ p ∈ ps, Flat p) → All2 G vs ps → All2 (upd G d (.dK kvs)) vs ps
  | [], [], _, _ => True.intro
  | v :: vs, p :: ps, h, g => ⟨h p List.mem_cons_self _ _ _ _ _ hd g.1, all2_flat hd (fun q hq => h q (List.mem_cons_of_mem _ hq)) g.2⟩
  | [], _ :: _, _, h => h.elim
  | _ :: _, [], _, h => h.elim
theorem flat_pT {ps : List Pr} (h : ∀ p ∈ ps, Flat p) : Flat (pT ps) := fun G d o kvs v hd ⟨a, xs, e, ha, hx⟩ => ⟨a, xs, e, by
  rw [upd_ne (ne_of ha hd (fun z => nomatch z))]
  exact ha, all2_flat hd h hx⟩
theorem flat_pL {ps : List Pr} (h : ∀ p ∈ ps, Flat p) : Flat (pL ps) := fun G d o kvs v hd ⟨a, xs, e, ha, hx⟩ => ⟨a, xs, e, by
  rw [upd_ne (ne_of ha hd (fun z => nomatch z))]
  exact ha, all2_flat hd h hx⟩
theorem flat_pLk (l : Nat × Nat) : Flat (pLk l) := flat_pT fun p hp => by
  rcases List.mem_cons.mp hp with rfl | hp
  · exact flat_pV _
  · rcases List.mem_cons.mp hp with rfl | hp
    · exact flat_pV _
    · cases hp
abbrev frzD (H : Hp) (d : Addr) (od : Obj) (kvs : List (Key × V)) : Hp := upd H d (.frz od (.dK kvs))
theorem Ex.lock {H H1 : Hp} {d : Addr} {od : Obj} {kvs : List (Key × V)} (e : Ex H H1) : Ex (frzD H d od kvs) (frzD H1 d od kvs) := fun b o h => by
  unfold frzD at h ⊢
  by_cases q : b = d
  · subst q
    rw [upd_same] at h ⊢
    exact h
  · rw [upd_ne q] at h ⊢
    exact e b o h
/-- behind the lock -/
theorem Sep.unlock {H H1 G G2 : Hp} {d : Addr} {od : Obj} {kvs : List (Key × V)} (e : Ex H H1) (hd : H d = some (.dK kvs)) (s : Sep (frzD H d od kvs) (frzD H1 d od kvs) G G2) : Sep H H1 (upd G d (.dK kvs)) (upd G2 d (.dK kvs)) := by
  refine ⟨fun b o h => ?_, fun b o h => ?_, fun b o h => ?_, fun b h1 h2 => ?_, fun b ps h => ?_⟩
  · by_cases q : b = d
    · subst q
      rw [upd_same, ← hd]
      exact h
    · rw [upd_ne q]
      exact s.a b o (by rw [frzD, upd_ne q]; exact h)
  · by_cases q : b = d
    · subst q
      rw [upd_same] at h ⊢
      exact h
    · rw [upd_ne q] at h ⊢
      exact s.b b o h
  · by_cases q : b = d
    · subst q
      rw [upd_same, ← e _ _ hd]
      exact h
    · rw [upd_ne q]
      exact s.c b o (by rw [frzD, upd_ne q]; exact h)
  · have q : b ≠ d := fun q => by
      rw [q, hd] at h2
      cases h2
    rw [upd_ne q]
    exact s.d b (by rw [frzD, upd_ne q]; exact h1) (by rw [frzD, upd_ne q]; exact h2)
  · by_cases q : b = d
    · rw [q, upd_same] at h
      cases h
    · rw [upd_ne q] at h
      have h2 := s.e b ps h
      rw [frzD, upd_ne q] at h2
      exact h2
theorem Sep.at_frz {H H1 G G2 : Hp} {d : Addr} {od : Obj} {kvs : List (Key × V)} (s : Sep (frzD H d od kvs) H1 G G2) : G d = some (.frz od (.dK kvs)) := s.a _ _ upd_same
section
variable {K : PySem.W.Frag} {σ : L2.St} {H : Hp} {ta tb tc td te ty tx : TE} {A B R S p : Pr} {g : TG} {tt : TT}
theorem ei_keys {α : Type} {as : List α} {key : α → Key} {d : Addr} {od : Obj} {kvs : List (Key × V)} (h : Ev td σ (frzD H d od kvs) (pV (.ref d))) (hk : kvs.map Prod.fst = as.map key) : EvI (iKeys td) σ (frzD H d od kvs) (as.map fun a => pV (kV (key a))) := fun H1 e Q q =>
  h H1 e _ fun v K1 H2 s r => by
    have r : v = .ref d := r
    subst r
    have hd := s.at_frz
    have hlen : kvs.length = as.length := by
      have := congrArg List.length hk
      simpa using this
    refine ⟨d, od, rfl, .inl ⟨kvs, s.b _ _ hd, q _ K1 H2 s fun H3 e3 => ⟨fun i p hp => ?_, ?_⟩⟩⟩
    · rw [List.getElem?_map] at hp
      cases qa : as[i]? with
      | none =>
        rw [qa] at hp
        cases hp
      | some a =>
        rw [qa] at hp
        cases hp
        have hi : i < as.length := (List.getElem?_eq_some_iff.mp qa).1
        refine ⟨⟨e3 _ _ hd, by show i < kvs.length; omega⟩, fun x H4 ⟨eH, k, v, hkv, ex⟩ => ⟨K1, by rw [eH]; exact Sep.refl e3, ?_⟩⟩
        show x = kV (key a)
        have e4 : (kvs.map Prod.fst)[i]? = some k := by rw [List.getElem?_map, hkv] <;> rfl
        rw [hk, List.getElem?_map, qa] at e4
        have e5 : key a = k := by simpa using e4
        rw [ex, e5]
    · refine ⟨e3 _ _ hd, ?_⟩
      rw [List.length_map]
      show kvs.length ≤ as.length
      omega
/-- [e for x in d if t], d a dict -/
theorem ev_lcK {α : Type} {as : List α} {key : α → Key} {vs : List Nat} {h : α → Pr} {t : α → Bool} {d : Addr} {kvs : List (Key × V)} (hd : H d = some (.dK kvs)) (hk : kvs.map Prod.fst = as.map key) (ht : ∀ od, Ev td σ (frzD H d od kvs) (pV (.ref d))) (hz : as.length ≤ 100000) (hf : ∀ a, Flat (h a))
    (hs : ∀ od a G, a ∈ as → Ex (frzD H d od kvs) G → ∃ σ2, Bnd g (kV (key a)) (wipe σ vs) G σ2 ∧ wipe σ2 vs = wipe σ vs ∧ EvT tt σ2 G (t a) ∧ (t a = true → Ev te σ2 G (h a))) :
    Ev (tLockE (tLc (iKeys td) g tt te vs)) σ H (pL ((as.filter t).map h)) := fun H1 e Q q => by
  refine ⟨d, .dK kvs, e _ _ hd, True.intro, fun od => ?_⟩
  refine ev_lc (t := t) (h := h) (ei_keys (ht od) hk) hz (fun a v G ha eG hv => ?_) _ (Ex.lock e) _ fun v G G2 s r => ?_
  · have hv : v = kV (key a) := hv
    subst hv
    exact hs od a G ha eG
  · have hG := s.at_frz
    refine ⟨s.b _ _ hG, q v _ _ (Sep.unlock e hd s) (flat_pL (fun p hp => ?_) _ _ _ _ _ hG r)⟩
    obtain ⟨a, _, rfl⟩ := List.mem_map.mp hp
    exact hf a
end
end Rb
set_option Elab.async false
set_option linter.all false
set_option maxRecDepth 100000
/-! Logs and cases as data: what the program computes, in plain terms. -/
namespace Rb
open PySem PySem.Spec PyProof.Rows L2

/-- a text that is a name -/
structure NameOk (x : Str) : Prop where
  lo : 1 ≤ x.length
  hi : x.length ≤ 12
  signs : ∀ c ∈ x.cps.toList, c ∈ ("abcdefghijklmnopqrstuvwxyz0123456789" : Str).cps.toList
structure NamesOk (xs : List Str) (most : Nat) : Prop where
  lo : 1 ≤ xs.length
  hi : xs.length ≤ most
  each : ∀ x ∈ xs, NameOk x
  nd : xs.Nodup
def DriftOk (x : Str) : Prop := x ∈ (["rises", "falls", "stays"] : List Str)
def isFirst (d : Str) (a b : Nat) : Bool := decide (d = ("stays" : Str)) || (if d = ("rises" : Str) then decide (a ≤ b) else decide (b ≤ a))
namespace LogD
variable (l : LogD)
def names : List Str := l.judges.map Prod.fst
def EvOk : EvD → Prop
  | .ans j i g => j ∈ l.names ∧ i ∈ l.items ∧ g ≤ l.grades
  | .res j => j ∈ l.names
/-- a log that the program takes -/
structure Ok : Prop where
  items : NamesOk l.items 20
  names : NamesOk l.names 8
  drifts : ∀ j ∈ l.judges, DriftOk j.2
  lo : 1 ≤ l.grades
  hi : l.grades ≤ 9
  few : l.events.length ≤ 120
  evs : ∀ e ∈ l.events, l.EvOk e
def driftOf (j : Str) : Str := (l.judges.lookup j).getD Str.empty
def isAns (p : Nat) : Bool := match l.events[p]? with
  | some (.ans _ _ _) => true
  | _ => false
def evJ (p : Nat) : Str := match l.events[p]? with
  | some (.ans j _ _) => j
  | some (.res j) => j
  | none => Str.empty
def itemAt (p : Nat) : Str := match l.events[p]? with
  | some (.ans _ i _) => i
  | _ => Str.empty
def gradeAt (p : Nat) : Nat := match l.events[p]? with
  | some (.ans _ _ g) => g
  | _ => 0
def answers : List Nat := (List.range l.events.length).filter l.isAns
def answersOf (j : Str) : List Nat := l.answers.filter fun p => decide (l.evJ p = j)
def resets (j : Str) : List Nat := (List.range l.events.length).filter fun p => decide (l.events[p]? = some (.res j))
def spanAt (j : Str) (p : Nat) : Nat × Nat := (maxN 0 (((l.resets j).filter fun a => decide (a < p)).map (· + 1)), minN l.events.length ((l.resets j).filter fun a => decide (p ≤ a)))
def stretchAt (j : Str) (p : Nat) : List Nat := (l.answersOf j).filter fun a => decide ((l.spanAt j p).1 ≤ a) && decide (a < (l.spanAt j p).2)
def stretchOf (p : Nat) : List Nat := l.stretchAt (l.evJ p) p
def stStep (acc : List (List Nat)) (p : Nat) : List (List Nat) := if acc.length = 0 ∨ p ∉ acc.getLastD [] then acc ++ [l.stretchOf p] else acc
def stretches (j : Str) : List (List Nat) := (l.answersOf j).foldl l.stStep []
theorem isAns_lt {l : LogD} {p : Nat} (h : l.isAns p = true) : ∃ j i g, l.events[p]? = some (.ans j i g) := by
  unfold isAns at h
  split at h
  · rename_i j i g e
    exact ⟨j, i, g, e⟩
  · cases h
theorem mem_answers {l : LogD} {p : Nat} : p ∈ l.answers ↔ l.isAns p = true := by
  unfold answers
  rw [List.mem_filter, List.mem_range]
  refine ⟨fun h => h.2, fun h => ⟨?_, h⟩⟩
  obtain ⟨j, i, g, e⟩ := isAns_lt h
  exact (List.getElem?_eq_some_iff.mp e).1
theorem ev_lt {l : LogD} {p : Nat} {e : EvD} (h : l.events[p]? = some e) : p < l.events.length := (List.getElem?_eq_some_iff.mp h).1
end LogD
theorem LogD.isAns_ev {l : LogD} {p : Nat} (h : l.isAns p = true) : l.events[p]? = some (.ans (l.evJ p) (l.itemAt p) (l.gradeAt p)) := by
  obtain ⟨j, i, g, e⟩ := LogD.isAns_lt h
  unfold LogD.evJ LogD.itemAt LogD.gradeAt
  rw [e]
theorem LogD.evJ_res {l : LogD} {p : Nat} {j : Str} (h : l.events[p]? = some (.res j)) : l.evJ p = j := by
  unfold LogD.evJ
  rw [h]
theorem LogD.Ok.judge {l : LogD} (h : l.Ok) {p : Nat} (hp : l.isAns p = true) : l.evJ p ∈ l.names := (h.evs _ (List.mem_of_getElem? (LogD.isAns_ev hp))).1
theorem LogD.Ok.item {l : LogD} (h : l.Ok) {p : Nat} (hp : l.isAns p = true) : l.itemAt p ∈ l.items := (h.evs _ (List.mem_of_getElem? (LogD.isAns_ev hp))).2.1
theorem LogD.Ok.grade {l : LogD} (h : l.Ok) {p : Nat} (hp : l.isAns p = true) : l.gradeAt p ≤ l.grades := (h.evs _ (List.mem_of_getElem? (LogD.isAns_ev hp))).2.2
theorem LogD.mem_answersOf {l : LogD} {j : Str} {p : Nat} : p ∈ l.answersOf j ↔ l.isAns p = true ∧ l.evJ p = j := by
  unfold LogD.answersOf
  rw [List.mem_filter, LogD.mem_answers, decide_eq_true_eq]
theorem LogD.answers_len (l : LogD) : l.answers.length ≤ l.events.length := Nat.le_trans (List.length_filter_le _ _) (by rw [List.length_range]; exact Nat.le_refl _)
theorem LogD.answersOf_len (l : LogD) (j : Str) : (l.answersOf j).length ≤ l.events.length := Nat.le_trans (List.length_filter_le _ _) l.answers_len
theorem LogD.resets_len (l : LogD) (j : Str) : (l.resets j).length ≤ l.events.length := Nat.le_trans (List.length_filter_le _ _) (by rw [List.length_range]; exact Nat.le_refl _)
theorem LogD.stretchAt_len (l : LogD) (j : Str) (p : Nat) : (l.stretchAt j p).length ≤ l.events.length := Nat.le_trans (List.length_filter_le _ _) (l.answersOf_len j)

end Rb
set_option Elab.async false
set_option linter.all false
set_option maxRecDepth 100000
set_option maxHeartbeats 3200000
/-! Defs by their texts. -/
namespace Rb
open PySem PySem.Spec PyProof.Rows L2

theorem pv {X : Cx} (i : Nat) {x : Str} {pos : Pos} (hN : X.N[i]? = some x := by rfl) (hv : Vis X.env.scope x := by first | exact Or.inl rfl | exact Or.inr (Or.inl rfl) | exact Or.inr (Or.inr rfl)) (hd : (x == ("__debug__" : Str)) = false := by decide) (hcd : (x == ("__classdict__" : Str)) = false := by decide) : PE X (.Name x pos) (tVar i) := pe_var hN hv hd hcd
/-! the rules with K by name (inside a comprehension's block no reading may speak of the block's own context) -/
section
variable {X : Cx} (K : PySem.W.Frag) {a b e : Expr} {es : List Expr} {ta : TE} {t : TA} {pos p tpos : Pos} {f : Str} {tg : Expr} {kk : Nat} {n : Nat} {u : TGs}
theorem ixT (h : X.K = K := by rfl) : IxR X (rIxT K) := h ▸ ix_tup
theorem ixL (h : X.K = K := by rfl) : IxR X (rIxL K) := h ▸ ix_list
theorem opIn (h : X.K = K := by rfl) : OpR X (compareOp .In) (rIn K false) := h ▸ op_in_seq
theorem opNin (h : X.K = K := by rfl) : OpR X (compareOp .NotIn) (rIn K true) := h ▸ op_notIn_seq
theorem cLen (h : X.K = K := by rfl) : CallR X (.builtin "len") (rLen K) := h ▸ call_len_seq
theorem crAll (hc : X.calm = true) (h : X.K = K := by rfl) : CallR X (.builtin "all") (rAll K) := h ▸ cr_all hc
theorem crAny (hc : X.calm = true) (h : X.K = K := by rfl) : CallR X (.builtin "any") (rAny K) := h ▸ cr_any hc
theorem cListOf (h : X.K = K := by rfl) : CallR X (.type "list") (rListOf K) := h ▸ call_list_of
theorem peFld (he : PE X e ta) (hb : attributeBase e f X.env (eval e X.env) = eval e X.env) (h : X.K = K := by rfl) : PE X (.Attribute e f pos) (tFld K ta f) := h ▸ pe_fld he hb
theorem opEqD (hu : X.A.units + 64 < cLine) (h : X.K = K := by rfl) : OpR X (compareOp .Eq) (rEqD K) := h ▸ op_eqD hu
theorem opNeD (hu : X.A.units + 64 < cLine) (h : X.K = K := by rfl) : OpR X (compareOp .NotEq) (rNeD K) := h ▸ op_neD hu
theorem piList {tl : TE} (hl : PE X e tl) (h : X.K = K := by rfl) : PI X tg e (iList K tl) := h ▸ pi_list hl
theorem piTup {tl : TE} (hl : PE X e tl) (h : X.K = K := by rfl) : PI X tg e (iTup K tl) := h ▸ pi_tup hl
theorem piEnum {elts : List Expr} (hg : Gl X "enumerate") (hm : X.mg "enumerate" = none) (ha : PA X [e] t) (hs : starEach [e] X.env = [(false, eval e X.env)] := by rfl) (h : X.K = K := by rfl) : PI X (.Tuple elts kk tpos) (.Call (.Name "enumerate" p) [e] [] pos) (iEnum K t) := h ▸ pi_enum hg hm ha hs
theorem ptTruth (ha : PE X e ta) (he : ∀ whole, isTrue e X.env whole = (do let v ← whole; standAt e.pos; holding [v] (truthy v))) (h : X.K = K := by rfl) : PT X e (tTru K ta) := h ▸ pt_truth ha he
theorem slList (h : X.K = K := by rfl) : SlR X (rSlL K) := h ▸ sl_list
theorem crMaxDef (hh : X.A.handled = none) (hu : X.A.units + 64 < cLine) (h : X.K = K := by rfl) : CallRK X (.builtin "max") [Str.ofString "default"] (rMaxDef K) := h ▸ cr_max_default hh hu
theorem crMinDef (hh : X.A.handled = none) (hu : X.A.units + 64 < cLine) (h : X.K = K := by rfl) : CallRK X (.builtin "min") [Str.ofString "default"] (rMinDef K) := h ▸ cr_min_default hh hu
theorem crMinT (hh : X.A.handled = none) (hu : X.A.units + 64 < cLine) (h : X.K = K := by rfl) : CallR X (.builtin "min") (rMinT K) := h ▸ cr_minT hh hu
theorem crMaxT (hh : X.A.handled = none) (hu : X.A.units + 64 < cLine) (h : X.K = K := by rfl) : CallR X (.builtin "max") (rMaxT K) := h ▸ cr_maxT hh hu
theorem crMinD (hh : X.A.handled = none) (hu : X.A.units + 64 < cLine) (h : X.K = K := by rfl) : CallR X (.builtin "min") (rMinD K) := h ▸ cr_minD hh hu
theorem crSortedI (h : X.K = K := by rfl) : CallR X (.builtin "sorted") (rSortedI K) := h ▸ cr_sortedI
theorem crSortedP (h : X.K = K := by rfl) : CallR X (.builtin "sorted") (rSortedP K) := h ▸ cr_sortedP
theorem pgTup {k : Nat} (hc : X.calm = true) (hu : PGs X es u) (hn : (assignEach es X.env).length = n := by rfl) (hst : (assignEach es X.env).findIdx? (·.1) = none := by rfl) (h : X.K = K := by rfl) : PG X (.Tuple es k pos) (gTup K n u) := h ▸ pg_tup hc hu hn hst
theorem peOrT {tb : TE} {rest : List Expr} (ha : PE X a ta) (hb : PE X (.BoolOp .Or (b :: rest) pos) tb) (h : X.K = K := by rfl) : PE X (.BoolOp .Or (a :: b :: rest) pos) (tOrT K ta tb) := h ▸ pe_orT ha hb
end
section
variable {X : Cx}
theorem sw_trueD {kx vx : Expr} {gs : List Comprehension} {scope : Scope} {pos py : Pos} {y : Str} {l : Nat} {env : Env} (hk : env.scope.kind = .function) (hy : env.scope.names.lookup y = some .local) (hl : (py.line == pos.line) = true)
    (ha : (scope.names.any fun (n, k) => n == y && (k == .local || k == .cell)) = false) : swapsWith (.DictComp kx vx gs scope pos) (some (.Name y py)) l env = pure true := by
  have ky : env.kindOf y = some .local := hy
  have hb : env.blockKind = .function := by unfold Env.blockKind; rw [hk] <;> rfl
  unfold swapsWith
  simp only [hb, ky, ha, Expr.pos, hl]
  rfl
theorem ps_setDc {i : Nat} {y : Str} {py : Pos} {kx vx tg iter : Expr} {ifs : List Expr} {scope : Scope} {own : List (Str × Nat)} {pos spos : Pos} {wi : TI} {g : TG} {tt : TT} {tk tv : TE} (hc : X.calm = true) (hN : X.N.Nodup) (hy : X.N[i]? = some y) (hyl : X.env.scope.names.lookup y = some .local)
    (hsw : swapsWith (.DictComp kx vx [⟨tg, iter, ifs, 0⟩] scope pos) (some (.Name y py)) spos.line X.env = pure true) (hi : PI X tg iter wi) (ok : BlkOk X.N X.env.scope scope own)
    (hg : ∀ (s : Shared) (H : Hp) (C : Addr) (cl : List (Str × Addr)) (fp : List Addr), PG (X.blk s H scope (compEnvC scope cl C X.env) fp) tg g) (ht : ∀ (s : Shared) (H : Hp) (C : Addr) (cl : List (Str × Addr)) (fp : List Addr), PTs (X.blk s H scope (compEnvC scope cl C X.env) fp) ifs tt)
    (hk : ∀ (s : Shared) (H : Hp) (C : Addr) (cl : List (Str × Addr)) (fp : List Addr), PE (X.blk s H scope (compEnvC scope cl C X.env) fp) kx tk)
    (he : ∀ (s : Shared) (H : Hp) (C : Addr) (cl : List (Str × Addr)) (fp : List Addr), PE (X.blk s H scope (compEnvC scope cl C X.env) fp) vx tv) (hs : ∀ x, foldedSetIterable iter X.env x = pure x := by intro _; rfl) :
    PS X (.Assign [.Name y py] (.DictComp kx vx [⟨tg, iter, ifs, 0⟩] scope pos) spos) (tAsg (tDc wi g tt tk tv (own.map (·.2))) (gName i)) := by
  refine ⟨fun pins s σ H D I h => ?_⟩
  rw [exec_Assign_Name_used _ _ _ _ hsw]
  refine wpAny_bind (wpAny_standAt (wpAny_bind ?_))
  show wpAny _ X.A (do let _ ← comprehension (.DictComp kx vx [⟨tg, iter, ifs, 0⟩] scope pos) scope X.env (firstIterPos [⟨tg, iter, ifs, 0⟩] pos) newDict false (eval iter X.env) (some (assign (.Name y py) X.env))) _ _ s
  have h : tDc wi g tt tk tv (own.map (·.2)) σ H (fun x H1 => gName i x σ H1 D.nx) := h
  refine wpAny_bind (thn (dc_core (Qf := fun _ s' => SP X pins D .next s') hc hN I hi ok hg ht hk he hs h fun L C s' m H' I' q hn f => ?_) fun _ s' hq => wpAny_pure (wpAny_pure hq))
  show wpAny _ _ (assign (.Name y py) X.env (.ref L)) _ _ _
  refine wpAny_assign_Name (store_ok2 (v := V.ref L) I' hN hy (.inl hyl) rfl (fun s2 I2 ⟨a, sb, ha⟩ => ?_) (.inr hyl))
  obtain ⟨f0, f1, f2, f3, f4, f5⟩ := f
  have haC : C ≠ a := by
    rcases ha with z | z
    · rw [z]; exact f1
    · exact fun e => f4 y a z e.symm
  refine ⟨m, hn.sameBut sb haC, fun h3 sb3 => ?_⟩
  exact ⟨_, H', I2.turned (t' := s2.toks) (fun b o hb e => (sb3.2 b hb).trans e) f0 f1 f3 f4 f5, q⟩
end
section
variable {P : Program} {w : World} {K : PySem.W.Frag} {mg : Str → Option Value} {base : Heap} {x qual : Str} {st : Stmt} {N ps : List Str} {k : Nat} {α : Type} {Ps : α → List Pr} {pre : α → Prop} {Rs : α → Pr} {C : Addr}
/-- how the text binds its parameters -/
def BindT (x qual : Str) (st : Stmt) (ps : List Str) : Prop := ∀ (kV doc pm : Value) (an : Option Addr) (cdv ct : Value) (us : List Value), us.length = ps.length → bindArgs (PySem.W.fnOf x qual (defArgs st) (defBody st) (defScope st) .none kV doc pm an cdv ct) ⟨us, []⟩ = pure (ps.zip us)
theorem bnd1 {a : Str} (h : ∀ (kV doc pm : Value) (an : Option Addr) (cdv ct u : Value), bindArgs (PySem.W.fnOf x qual (defArgs st) (defBody st) (defScope st) .none kV doc pm an cdv ct) ⟨[u], []⟩ = pure [(a, u)]) : BindT x qual st [a] := fun kV doc pm an cdv ct us hl => match us, hl with
  | [u], _ => h kV doc pm an cdv ct u
theorem bnd2 {a b : Str} (h : ∀ (kV doc pm : Value) (an : Option Addr) (cdv ct u v : Value), bindArgs (PySem.W.fnOf x qual (defArgs st) (defBody st) (defScope st) .none kV doc pm an cdv ct) ⟨[u, v], []⟩ = pure [(a, u), (b, v)]) : BindT x qual st [a, b] := fun kV doc pm an cdv ct us hl => match us, hl with
  | [u, v], _ => h kV doc pm an cdv ct u v
theorem bnd3 {a b c : Str} (h : ∀ (kV doc pm : Value) (an : Option Addr) (cdv ct u v y : Value), bindArgs (PySem.W.fnOf x qual (defArgs st) (defBody st) (defScope st) .none kV doc pm an cdv ct) ⟨[u, v, y], []⟩ = pure [(a, u), (b, v), (c, y)]) : BindT x qual st [a, b, c] := fun kV doc pm an cdv ct us hl => match us, hl with
  | [u, v, y], _ => h kV doc pm an cdv ct u v y
theorem bnd4 {a b c d : Str} (h : ∀ (kV doc pm : Value) (an : Option Addr) (cdv ct u v y z : Value), bindArgs (PySem.W.fnOf x qual (defArgs st) (defBody st) (defScope st) .none kV doc pm an cdv ct) ⟨[u, v, y, z], []⟩ = pure [(a, u), (b, v), (c, y), (d, z)]) : BindT x qual st [a, b, c, d] := fun kV doc pm an cdv ct us hl => match us, hl with
  | [u, v, y, z], _ => h kV doc pm an cdv ct u v y z
theorem bnd5 {a b c d e : Str} (h : ∀ (kV doc pm : Value) (an : Option Addr) (cdv ct u v y z q : Value), bindArgs (PySem.W.fnOf x qual (defArgs st) (defBody st) (defScope st) .none kV doc pm an cdv ct) ⟨[u, v, y, z, q], []⟩ = pure [(a, u), (b, v), (c, y), (d, z), (e, q)]) : BindT x qual st [a, b, c, d, e] := fun kV doc pm an cdv ct us hl => match us, hl with
  | [u, v, y, z, q], _ => h kV doc pm an cdv ct u v y z q
/-- the walk of a def's body -/
def Wk (P : Program) (w : World) (K : PySem.W.Frag) (mg : Str → Option Value) (base : Heap) (k : Nat) (N : List Str) (qual : Str) (st : Stmt) {α : Type} (Ps : α → List Pr) (pre : α → Prop) (Rs : α → Pr) : Prop :=
  ∀ (f : Addr) (cdv : Value) (A : Around) (outer : List Env) (s : Shared) (H1 : Hp) (vs : List V) (Q : VK) (E : XK) (a : α) (H : Hp), Room k (A.deeper (envOfC qual (defScope st) s.heap.objs.size f cdv)) → Ex H H1 → pre a → All2 H vs (Ps a) → Ret H H1 (Rs a) Q →
      ∃ t, PSs (cxOf CX0 P w K mg base N qual (defScope st) f cdv A outer s H1 E).nox (defBody st) t ∧ t { nx := fun _ H' => Q .non H', rt := Q } (start N vs) H1
theorem fn_mk (D : Df K mg x st [] []) (S : FnScope N ps (defScope st)) (hl : ∀ a, (Ps a).length = ps.length) (hbd : BindT x x st ps) (hb : Wk P w K mg base k N x st Ps pre Rs) : Fn P w K mg base (k + 1) x ps (spN Ps pre Rs) := by
  obtain ⟨f, fd, F, hm⟩ := D.ex
  exact ⟨f, fd, okN F S hl fun cdv A outer s H1 vs Q E a H => hb f cdv A outer s H1 vs Q E a H, hm, F.kp, F.bindsN hbd⟩
theorem me_mk (D : Dm K C x qual st) (S : FnScope N ps (defScope st)) (hl : ∀ a, (Ps a).length = ps.length) (hbd : BindT x qual st ps) (hb : Wk P w K mg base k N qual st Ps pre Rs) : Me P w K mg base (k + 1) C x ps (spN Ps pre Rs) := by
  obtain ⟨f, fd, F, hm⟩ := D.ex
  exact ⟨f, fd, okN F S hl fun cdv A outer s H1 vs Q E a H => hb f cdv A outer s H1 vs Q E a H, hm, F.bindsN hbd⟩
end
end Rb
set_option Elab.async false
set_option linter.all false
set_option maxRecDepth 100000
set_option maxHeartbeats 3200000
/-! Walks: names and events. -/
namespace Rb
open PySem PySem.Spec PyProof.Rows L2
section
variable {P : Program} {w : World} {K : PySem.W.Frag} {mg : Str → Option Value} {base : Heap} {CL CC : Addr}
theorem hu_of {k : Nat} {A : Around} (hr : Room k A) : A.units + 1 < cLine := by
  have := hr.units
  omega
theorem ev_lenS {σ : L2.St} {H : Hp} {ta : TE} {x : Str} {n : Nat} (h : Ev ta σ H (pS x)) (hn : x.length = n) (hz : n ≤ 1000) : Ev (tCB (fun xs H Q => ∃ z, xs = [.str z] ∧ z.length ≤ sizeLine ∧ Q (.int z.length) H) (tCons ta tNil)) σ H (pN n) := ev_cb (ea_one h) fun H' vs _ hv H1 e1 Q q => by
  obtain ⟨v, rfl, ev⟩ := all1 hv
  have ev : v = .str x := ev
  subst ev hn
  exact ⟨x, rfl, Nat.le_trans hz (by decide), q.val (Sep.refl e1)⟩
theorem ev_inSign {σ : L2.St} {H : Hp} {ta tb : TE} {c : Nat} {z : Str} (ha : Ev ta σ H (pS ⟨#[c]⟩)) (hb : Ev tb σ H (pS z)) : Ev (tOp (fun x y H Q => ∃ (c : Nat) (z : Str), x = .str ⟨#[c]⟩ ∧ y = .str z ∧ Q (.bl (decide (c ∈ z.cps.toList))) H) ta tb) σ H (pB (decide (c ∈ z.cps.toList))) :=
  ev_op ha hb fun H' x y _ ex ey H1 e1 Q q => by
    have ex : x = .str ⟨#[c]⟩ := ex
    have ey : y = .str z := ey
    exact ⟨c, z, ex, ey, q.val (Sep.refl e1)⟩
theorem all4 {H : Hp} {vs : List V} {A B C D : Pr} (h : All2 H vs [A, B, C, D]) : ∃ u v w y, vs = [u, v, w, y] ∧ A.p H u ∧ B.p H v ∧ C.p H w ∧ D.p H y := match vs, h with
  | [u, v, w, y], h => ⟨u, v, w, y, rfl, h.1, h.2.1, h.2.2.1, h.2.2.2.1⟩
  | [], h => h.elim
  | [_], h => h.2.elim
  | [_, _], h => h.2.2.elim
  | [_, _, _], h => h.2.2.2.elim
  | _ :: _ :: _ :: _ :: _ :: _, h => h.2.2.2.2.elim
theorem ev_lenSet {σ : L2.St} {H : Hp} {ta : TE} {xs : List Str} (h : Ev ta σ H (pL (xs.map pS))) (hn : xs.Nodup) (hz : xs.length ≤ 100) : Ev (tLenSetT K ta) σ H (pN xs.length) := fun H1 e Q q => h H1 e _ fun v K1 H2 s ⟨l, vs, ev, hl, hx⟩ => by
  subst ev
  rw [all2_pV (f := V.str) hx] at hl
  exact ⟨l, xs, rfl, SqL.of (s.b _ _ hl), hn, hz, q.val s⟩
/-- all([.. for ..]) where each is true -/
theorem all_yes {α : Type} (as : List α) : ((as.map fun _ => true).all id) = true := by
  rw [List.all_eq_true]
  intro b hb
  obtain ⟨_, _, rfl⟩ := List.mem_map.mp hb
  rfl
theorem ev_allLc {α : Type} {wi : TI} {g : TG} {te : TE} {vs : List Nat} {σ : L2.St} {H : Hp} {as : List α} {f : α → Pr} (b : α → Bool) (hi : EvI wi σ H (as.map f)) (hz : as.length ≤ 100000)
    (hs : ∀ a v G, a ∈ as → Ex H G → (f a).p G v → ∃ σ2, Bnd g v (wipe σ vs) G σ2 ∧ wipe σ2 vs = wipe σ vs ∧ Ev te σ2 G (pB (b a))) : Ev (tCB (rAll K) (tCons (tLc wi g tYes te vs) tNil)) σ H (pB (as.all b)) := by
  have h := ev_lcA (h := fun a => pB (b a)) hi hz hs
  have e : as.map (fun a => pB (b a)) = (as.map b).map pB := by rw [List.map_map] <;> rfl
  rw [e] at h
  have h2 := ev_all (K := K) h
  rw [List.all_map] at h2
  exact h2

abbrev s_is_name : Stmt := topS 21
theorem sc_is_name : FnScope ["text", "sign"] ["text"] (defScope s_is_name) := ⟨rfl, rfl, rfl, by decide +kernel, rfl, by decide +kernel, by decide +kernel⟩
abbrev n_is_name : List Str := ["text", "sign"]
theorem w_is_name (Z : Bz K mg CL CC) (D : Df K mg "is_name" s_is_name [] []) : Fn P w K mg base 1 "is_name" ["text"] (spN (fun x : Str => [pS x]) NameOk fun _ => pB true) :=
  fn_mk (k := 0) D sc_is_name (fun _ => rfl) (bnd1 fun _ _ _ _ _ _ _ => rfl) fun f cdv A outer s H1 vs Q E a H hr e hp h q => by
    have sc := sc_is_name
    obtain ⟨v, rfl, ev⟩ := all1 h
    have ev : v = .str a := ev
    subst ev
    refine ⟨_, (pss_one (ps_ret (pe_and (pe_chain op_le op_le pe_int (pe_callB call_len_str (by rfl) Z.len PySem.boot_len (pa_cons (pv 0) pa_nil)) pe_int) (pe_one (pe_callB (crAll K rfl) (by rfl) Z.all (by decide +kernel) (pa_cons (pe_lc (own := [("sign", 1)]) (g := (gName 1)) rfl sc.nd (pi_str (pv 0)) (blkOk_by (N := n_is_name) (sc := defScope s_is_name) (by decide +kernel)) (fun _ _ _ _ _ => (pg_name (i := 1) sc.nd rfl (by first | exact Or.inl rfl | exact Or.inr rfl))) (fun _ _ _ _ _ => pts_nil) (fun _ _ _ _ _ => (pe_cmpR op_in_sign (pv 1) (pe_gs rfl Z.LETTERS) (by rfl)))) pa_nil)))))), ?_⟩
    refine s_ret e ?_ q
    have h1 := hp.lo
    have h2 := hp.hi
    refine (ev_andV (a := true) (b := true) ((ev_chain (i := 1) (j := (a.length : Int)) (m := 12) ev_c (ev_lenS (ev_var (R := pS a) rfl) rfl (by omega)) ev_c).eq ?_) fun _ => (ev_allLc (fun c => decide (c ∈ ("abcdefghijklmnopqrstuvwxyz0123456789" : Str).cps.toList)) (ei_str (ev_var (R := pS a) rfl)) ?_ fun c v G _ eG rc => ⟨_, bnd_name, rfl, ev_inSign (ev_var rc) ev_c⟩).eq ?_)
    · have e1 : (decide ((1 : Int) ≤ (a.length : Int)) && decide ((a.length : Int) ≤ 12)) = true := by
        rw [Bool.and_eq_true, decide_eq_true_eq, decide_eq_true_eq]
        omega
      rw [e1]
    · have e2 : a.cps.toList.length = a.length := by simp [Str.length]
      omega
    · have e3 : (a.cps.toList.all fun c => decide (c ∈ ("abcdefghijklmnopqrstuvwxyz0123456789" : Str).cps.toList)) = true := by
        rw [List.all_eq_true]
        intro c hc
        exact decide_eq_true (hp.signs c hc)
      rw [e3]
abbrev s_is_drift : Stmt := topS 22
theorem sc_is_drift : FnScope ["text"] ["text"] (defScope s_is_drift) := ⟨rfl, rfl, rfl, by decide +kernel, rfl, by decide +kernel, by decide +kernel⟩
abbrev n_is_drift : List Str := ["text"]
theorem w_is_drift (Z : Bz K mg CL CC) (D : Df K mg "is_drift" s_is_drift [] []) : Fn P w K mg base 1 "is_drift" ["text"] (spN (fun x : Str => [pS x]) DriftOk fun _ => pB true) :=
  fn_mk (k := 0) D sc_is_drift (fun _ => rfl) (bnd1 fun _ _ _ _ _ _ _ => rfl) fun f cdv A outer s H1 vs Q E a H hr e hp h q => by
    have sc := sc_is_drift
    obtain ⟨v, rfl, ev⟩ := all1 h
    have ev : v = .str a := ev
    subst ev
    refine ⟨_, (pss_one (ps_ret (pe_cmpR (opIn K) (pv 0) (pe_tup (pa_cons (pe_gs rfl Z.RISES) (pa_cons (pe_gs rfl Z.FALLS) (pa_cons (pe_gs rfl Z.STAYS) pa_nil)))) (by rfl)))), ?_⟩
    refine s_ret e ((ev_inST (x := a) (xs := ["rises", "falls", "stays"]) (ev_var rfl) (ev_tup (ea_cons ev_c (ea_cons ev_c (ea_one ev_c))))).eq ?_) q
    have e1 : decide (a ∈ ((["rises", "falls", "stays"]) : List Str)) = true := decide_eq_true (show a ∈ (["rises", "falls", "stays"] : List Str) from hp)
    rw [e1]
abbrev s_are_names : Stmt := topS 23
theorem sc_are_names : FnScope ["texts", "most", "text"] ["texts", "most"] (defScope s_are_names) := ⟨rfl, rfl, rfl, by decide +kernel, rfl, by decide +kernel, by decide +kernel⟩
abbrev n_are_names : List Str := ["texts", "most", "text"]
theorem w_are_names (Z : Bz K mg CL CC) (D : Df K mg "are_names" s_are_names [] []) {spn : Sp} (f_is_name : Fn P w K mg base 1 "is_name" ["text"] (spN (fun x : Str => [pS x]) NameOk fun _ => pB true)) :
    Fn P w K mg base 2 "are_names" ["texts", "most"] (spN (fun a : List Str × Nat => [pL (a.1.map pS), pN a.2]) (fun a => NamesOk a.1 a.2 ∧ a.2 ≤ 50) fun _ => pB true) :=
  fn_mk (k := 1) D sc_are_names (fun _ => rfl) (bnd2 fun _ _ _ _ _ _ _ _ => rfl) fun f cdv A outer s H1 vs Q E a H hr e hp h q => by
    have sc := sc_are_names
    obtain ⟨v, v2, rfl, rv, ev⟩ := all2 h
    have ev : v2 = .int (a.2 : Int) := ev
    subst ev
    refine ⟨_, (pss_one (ps_ret (pe_and (pe_chain op_le op_le pe_int (pe_callB (cLen K) (by rfl) Z.len PySem.boot_len (pa_cons (pv 0) pa_nil)) (pv 1)) (pe_and (pe_callB (crAll K rfl) (by rfl) Z.all (by decide +kernel) (pa_cons (pe_lc (own := [("text", 2)]) (g := (gName 2)) rfl sc.nd (piList K (pv 0)) (blkOk_by (N := n_are_names) (sc := defScope s_are_names) (by decide +kernel)) (fun _ _ _ _ _ => (pg_name (i := 2) sc.nd rfl (by first | exact Or.inl rfl | exact Or.inr rfl))) (fun _ _ _ _ _ => pts_nil) (fun _ _ _ _ _ => (pe_fn f_is_name hr (by decide) (by rfl) (pa_cons (pv 2) pa_nil)))) pa_nil)) (pe_one (pe_cmpR op_eq (pe_lenSetT rfl (by rfl) Z.len (by rfl) Z.set (pv 0)) (pe_callB (cLen K) (by rfl) Z.len PySem.boot_len (pa_cons (pv 0) pa_nil)) (nomark _))))))), ?_⟩
    refine s_ret e ?_ q
    have h1 := hp.1.lo
    have h2 := hp.1.hi
    have h3 := hp.2
    refine (ev_andV (a := true) (b := true) ((ev_chain (i := 1) (j := (a.1.length : Int)) (m := (a.2 : Int)) ev_c ((ev_len (ev_var rv)).eq ?_) (ev_var rfl)).eq ?_) fun _ => ev_andV (a := true) (b := true) ((ev_allLc (fun _ => true) (ei_list (ev_var rv)) (by omega) fun x v G hx eG rc => ⟨_, bnd_name, rfl, ev_call x (ea_one (ev_var rc)) (hp.1.each x hx)⟩).eq ?_) fun _ => (ev_eq (ev_lenSet (ev_var rv) hp.1.nd (by omega)) (ev_len (ev_var rv)) rfl).eq ?_)
    · rw [List.length_map]
    · have e1 : (decide ((1 : Int) ≤ (a.1.length : Int)) && decide ((a.1.length : Int) ≤ (a.2 : Int))) = true := by
        rw [Bool.and_eq_true, decide_eq_true_eq, decide_eq_true_eq]
        omega
      rw [e1]
    · have e3 : (a.1.all fun _ => true) = true := by
        rw [List.all_eq_true]
        exact fun _ _ => rfl
      rw [e3]
    · simp
abbrev s_is_event : Stmt := topS 24
theorem sc_is_event : FnScope ["event", "items", "grades", "judges"] ["event", "items", "grades", "judges"] (defScope s_is_event) := ⟨rfl, rfl, rfl, by decide +kernel, rfl, by decide +kernel, by decide +kernel⟩
abbrev n_is_event : List Str := ["event", "items", "grades", "judges"]
theorem w_is_event (Z : Bz K mg CL CC) (D : Df K mg "is_event" s_is_event [] []) :
    Fn P w K mg base 1 "is_event" ["event", "items", "grades", "judges"] (spN (fun a : LogD × EvD => [pEv a.2, pL (a.1.items.map pS), pN a.1.grades, pL (a.1.names.map pS)]) (fun a => a.1.EvOk a.2) fun _ => pB true) :=
  fn_mk (k := 0) D sc_is_event (fun _ => rfl) (bnd4 fun _ _ _ _ _ _ _ _ _ _ => rfl) fun f cdv A outer s H1 vs Q E a H hr e hp h q => by
    have sc := sc_is_event
    obtain ⟨l, ev⟩ := a
    obtain ⟨v, vi, vg, vj, rfl, rv, ri, rg, rj⟩ := all4 h
    refine ⟨_, (pss_cons (ps_if (PW.pt (pw_and (pt_cmpR op_eq (pe_callB (cLen K) (by rfl) Z.len PySem.boot_len (pa_cons (pv 0) pa_nil)) pe_int (nomark _)) (pw_and1 (pt_cmpR op_eq (pe_ix (ixT K) (pv 0) pe_int (fun _ _ => rfl)) (pe_gs rfl Z.RESET) (nomark _))))) (pss_one (ps_ret (pe_cmpR (opIn K) (pe_ix (ixT K) (pv 0) pe_int (fun _ _ => rfl)) (pv 3) (by rfl)))) pss_nil)
    (pss_cons (ps_if (PW.pt (pw_or (pt_cmpR op_ne (pe_callB (cLen K) (by rfl) Z.len PySem.boot_len (pa_cons (pv 0) pa_nil)) pe_int (nomark _)) (pw_or1 (pt_cmpR op_ne (pe_ix (ixT K) (pv 0) pe_int (fun _ _ => rfl)) (pe_gs rfl Z.ANSWER) (nomark _))))) (pss_one (ps_ret pe_bl)) pss_nil)
    (pss_one (ps_ret (pe_and (pe_cmpR (opIn K) (pe_ix (ixT K) (pv 0) pe_int (fun _ _ => rfl)) (pv 3) (by rfl)) (pe_and (pe_cmpR (opIn K) (pe_ix (ixT K) (pv 0) pe_int (fun _ _ => rfl)) (pv 1) (by rfl)) (pe_one (pe_chain op_le op_le pe_int (pe_ix (ixT K) (pv 0) pe_int (fun _ _ => rfl)) (pv 2))))))))), ?_⟩
    cases ev with
    | res j =>
      have rv : (pT [pS "reset", pS j]).p H v := rv
      refine q_if (b := true) e ((et_and (a := true) (b := true) ((et_test (ev_eq (ev_lenT (ev_var rv)) ev_c rfl)).eq rfl) fun _ => (et_test (ev_eq (ev_ixT' (n := 0) (ev_var rv) rfl rfl) ev_c rfl)).eq rfl)) (fun _ H2 e2 => ?_) fun z => nomatch z
      have hp : j ∈ l.names := hp
      refine s_ret (e.trans e2) ((ev_inS (ev_ixT' (n := 1) (ev_var rv) rfl rfl) (ev_var rj)).eq ?_) (q.ext e2)
      rw [decide_eq_true hp]
    | ans j i g =>
      have rv : (pT [pS "answer", pS j, pS i, pN g]).p H v := rv
      have hp : j ∈ l.names ∧ i ∈ l.items ∧ g ≤ l.grades := hp
      refine q_ifN e ((et_and (a := false) (b := true) ((et_test (ev_eq (ev_lenT (ev_var rv)) ev_c rfl)).eq rfl) fun z => nomatch z)) fun H2 e2 => ?_
      refine q_ifN (e.trans e2) ((et_or (a := false) (b := false) ((et_test (ev_ne (ev_lenT (ev_var rv)) ev_c rfl)).eq rfl) fun _ => (et_test (ev_ne (ev_ixT' (n := 0) (ev_var rv) rfl rfl) ev_c rfl)).eq rfl)) fun H3 e3 => ?_
      refine s_ret ((e.trans e2).trans e3) ?_ (q.ext (e2.trans e3))
      refine (ev_andV (a := true) (b := true) ((ev_inS (ev_ixT' (n := 1) (ev_var rv) rfl rfl) (ev_var rj)).eq ?_) fun _ => ev_andV (a := true) (b := true) ((ev_inS (ev_ixT' (n := 2) (ev_var rv) rfl rfl) (ev_var ri)).eq ?_) fun _ => (ev_chain (i := 0) (j := (g : Int)) (m := (l.grades : Int)) ev_c (ev_ixT' (n := 3) (ev_var rv) rfl rfl) (ev_var rg)).eq ?_)
      · rw [decide_eq_true hp.1]
      · rw [decide_eq_true hp.2.1]
      · have e1 : (decide ((0 : Int) ≤ (g : Int)) && decide ((g : Int) ≤ (l.grades : Int))) = true := by
          rw [Bool.and_eq_true, decide_eq_true_eq, decide_eq_true_eq]
          omega
        rw [e1]
abbrev s_is_first : Stmt := topS 25
theorem sc_is_first : FnScope ["drift", "one", "other"] ["drift", "one", "other"] (defScope s_is_first) := ⟨rfl, rfl, rfl, by decide +kernel, rfl, by decide +kernel, by decide +kernel⟩
abbrev n_is_first : List Str := ["drift", "one", "other"]
theorem w_is_first (Z : Bz K mg CL CC) (D : Df K mg "is_first" s_is_first [] []) :
    Fn P w K mg base 1 "is_first" ["drift", "one", "other"] (spN (fun a : Str × Nat × Nat => [pS a.1, pN a.2.1, pN a.2.2]) (fun _ => True) fun a => pB (isFirst a.1 a.2.1 a.2.2)) :=
  fn_mk (k := 0) D sc_is_first (fun _ => rfl) (bnd3 fun _ _ _ _ _ _ _ _ _ => rfl) fun f cdv A outer s H1 vs Q E a H hr e hp h q => by
    have sc := sc_is_first
    obtain ⟨d, m, n⟩ := a
    obtain ⟨vd, vm, vn, rfl, rd, rm, rn⟩ := all3 h
    refine ⟨_, (pss_one (ps_ret (pe_or (pe_cmpR op_eq (pv 0) (pe_gs rfl Z.STAYS) (nomark _)) (pe_one (pe_ifExp (pt_cmpR op_eq (pv 0) (pe_gs rfl Z.RISES) (nomark _)) (pe_cmpR op_le (pv 1) (pv 2) (nomark _)) (pe_cmpR op_ge (pv 1) (pv 2) (nomark _))))))), ?_⟩
    refine s_ret e ?_ q
    refine (ev_orV (a := decide (d = ("stays" : Str))) (b := if d = ("rises" : Str) then decide (m ≤ n) else decide (n ≤ m)) ((ev_eq (ev_var rd) ev_c rfl).eq ?_) fun _ => ev_if (b := decide (d = ("rises" : Str))) ((et_test (ev_eq (ev_var rd) ev_c rfl)).eq ?_) (fun z => ?_) fun z => ?_)
    · simp
    · simp
    · refine (ev_I0 (ev_var rm) (ev_var rn)).eq ?_
      rw [if_pos (of_decide_eq_true z)]
      simp
    · refine (ev_I0 (ev_var rm) (ev_var rn)).eq ?_
      rw [if_neg (of_decide_eq_false z)]
      simp
end
end Rb
set_option Elab.async false
set_option linter.all false
set_option maxRecDepth 100000
set_option maxHeartbeats 3200000
/-! Walks: a log's methods. -/
namespace Rb
open PySem PySem.Spec PyProof.Rows L2
/-- a property's getter by its text -/
structure Dg (K : PySem.W.Frag) (C : Addr) (x qual : Str) (st : Stmt) : Prop where
  ex : ∃ p g fd, FunD K x qual (defArgs st) (defBody st) (defScope st) [] [] g fd ∧ PropOf K C x p g
theorem map_get {α β : Type} {f : α → β} {as : List α} {i : Nat} {p : β} (h : (as.map f)[i]? = some p) : ∃ a, as[i]? = some a ∧ f a = p := by
  rw [List.getElem?_map] at h
  cases e : as[i]? with
  | none =>
    rw [e] at h
    cases h
  | some a =>
    rw [e] at h
    exact ⟨a, rfl, Option.some.inj h⟩
theorem get_map {α β : Type} {f : α → β} {as : List α} {i : Nat} {a : α} (h : as[i]? = some a) : (as.map f)[i]? = some (f a) := by
  rw [List.getElem?_map, h] <;> rfl
section
variable {P : Program} {w : World} {K : PySem.W.Frag} {mg : Str → Option Value} {base : Heap} {CL CC : Addr} {k : Nat} {N ps : List Str} {x qual : Str} {st : Stmt} {α : Type} {Ps : α → List Pr} {pre : α → Prop} {Rs : α → Pr} {C : Addr}
theorem pp_mk (D : Dg K C x qual st) (S : FnScope N ["self"] (defScope st)) (hl : ∀ a, (Ps a).length = 1) (hbd : BindT x qual st ["self"]) (hb : Wk P w K mg base k N qual st Ps pre Rs) : Pp P w K mg base (k + 1) C x (spN Ps pre Rs) := by
  obtain ⟨p, f, fd, F, hm⟩ := D.ex
  exact ⟨p, f, fd, okN F S hl fun cdv A outer s H1 vs Q E a H => hb f cdv A outer s H1 vs Q E a H, hm, F.bindsN hbd⟩
abbrev s_Log_item_names : Stmt := inClass (topS 26) 1
theorem sc_Log_item_names : FnScope ["self"] ["self"] (defScope s_Log_item_names) := ⟨rfl, rfl, rfl, by decide +kernel, rfl, by decide +kernel, by decide +kernel⟩
abbrev n_Log_item_names : List Str := ["self"]
theorem w_item_names (Z : Bz K mg CL CC) (D : Dg K CL "item_names" "Log.item_names" s_Log_item_names) : Pp P w K mg base 1 CL "item_names" (spN (fun l : LogD => [pLog CL l]) (fun _ => True) fun l => pL (l.items.map pS)) :=
  pp_mk (k := 0) D sc_Log_item_names (fun _ => rfl) (bnd1 fun _ _ _ _ _ _ _ => rfl) fun f cdv A outer s H1 vs Q E a H hr e hp h q => by
    have sc := sc_Log_item_names
    obtain ⟨v, rfl, rv⟩ := all1 h
    exact ⟨_, (pss_one (ps_ret (pe_callTy (cListOf K) (by rfl) Z.list (by decide +kernel) (pa_cons (peFld K (pv 0) rfl) pa_nil)))), s_ret e (ev_listOf (ev_l_items Z (ev_var rv))) q⟩
abbrev s_Log_grades : Stmt := inClass (topS 26) 2
theorem sc_Log_grades : FnScope ["self"] ["self"] (defScope s_Log_grades) := ⟨rfl, rfl, rfl, by decide +kernel, rfl, by decide +kernel, by decide +kernel⟩
abbrev n_Log_grades : List Str := ["self"]
theorem w_grades (Z : Bz K mg CL CC) (D : Dg K CL "grades" "Log.grades" s_Log_grades) : Pp P w K mg base 1 CL "grades" (spN (fun l : LogD => [pLog CL l]) (fun _ => True) fun l => pN l.grades) :=
  pp_mk (k := 0) D sc_Log_grades (fun _ => rfl) (bnd1 fun _ _ _ _ _ _ _ => rfl) fun f cdv A outer s H1 vs Q E a H hr e hp h q => by
    have sc := sc_Log_grades
    obtain ⟨v, rfl, rv⟩ := all1 h
    exact ⟨_, (pss_one (ps_ret (peFld K (pv 0) rfl))), s_ret e (ev_l_grades Z (ev_var rv)) q⟩
abbrev s_Log_judges : Stmt := inClass (topS 26) 3
theorem sc_Log_judges : FnScope ["self"] ["self"] (defScope s_Log_judges) := ⟨rfl, rfl, rfl, by decide +kernel, rfl, by decide +kernel, by decide +kernel⟩
abbrev n_Log_judges : List Str := ["self"]
theorem w_judges (Z : Bz K mg CL CC) (D : Dg K CL "judges" "Log.judges" s_Log_judges) : Pp P w K mg base 1 CL "judges" (spN (fun l : LogD => [pLog CL l]) (fun _ => True) fun l => pL (l.judges.map pJ)) :=
  pp_mk (k := 0) D sc_Log_judges (fun _ => rfl) (bnd1 fun _ _ _ _ _ _ _ => rfl) fun f cdv A outer s H1 vs Q E a H hr e hp h q => by
    have sc := sc_Log_judges
    obtain ⟨v, rfl, rv⟩ := all1 h
    exact ⟨_, (pss_one (ps_ret (pe_callTy (cListOf K) (by rfl) Z.list (by decide +kernel) (pa_cons (peFld K (pv 0) rfl) pa_nil)))), s_ret e (ev_listOf (ev_l_judges Z (ev_var rv))) q⟩
abbrev s_Log_events : Stmt := inClass (topS 26) 4
theorem sc_Log_events : FnScope ["self"] ["self"] (defScope s_Log_events) := ⟨rfl, rfl, rfl, by decide +kernel, rfl, by decide +kernel, by decide +kernel⟩
abbrev n_Log_events : List Str := ["self"]
theorem w_events (Z : Bz K mg CL CC) (D : Dg K CL "events" "Log.events" s_Log_events) : Pp P w K mg base 1 CL "events" (spN (fun l : LogD => [pLog CL l]) (fun _ => True) fun l => pL (l.events.map pEv)) :=
  pp_mk (k := 0) D sc_Log_events (fun _ => rfl) (bnd1 fun _ _ _ _ _ _ _ => rfl) fun f cdv A outer s H1 vs Q E a H hr e hp h q => by
    have sc := sc_Log_events
    obtain ⟨v, rfl, rv⟩ := all1 h
    exact ⟨_, (pss_one (ps_ret (pe_callTy (cListOf K) (by rfl) Z.list (by decide +kernel) (pa_cons (peFld K (pv 0) rfl) pa_nil)))), s_ret e (ev_listOf (ev_l_events Z (ev_var rv))) q⟩

theorem lookup_first {j : Str} : ∀ {js : List (Str × Str)} {i : Nat} {d : Str}, js[i]? = some (j, d) → (∀ k < i, ∀ p, js[k]? = some p → p.1 ≠ j) → js.lookup j = some d
  | [], _, _, h, _ => by simp at h
  | (x, d') :: js, 0, d, h, _ => by
    have h : (x, d') = (j, d) := by simpa using h
    cases h
    simp [List.lookup]
  | (x, d') :: js, i + 1, d, h, hn => by
    have hx : x ≠ j := hn 0 (by omega) (x, d') rfl
    have e : (j == x) = false := by simpa using fun z : j = x => hx z.symm
    rw [List.lookup_cons, e]
    exact lookup_first (i := i) (by simpa using h) fun k hk p hp => hn (k + 1) (by omega) p (by simpa using hp)
abbrev s_Log_drift_of : Stmt := inClass (topS 26) 5
theorem sc_Log_drift_of : FnScope ["self", "judge", "name", "drift"] ["self", "judge"] (defScope s_Log_drift_of) := ⟨rfl, rfl, rfl, by decide +kernel, rfl, by decide +kernel, by decide +kernel⟩
abbrev n_Log_drift_of : List Str := ["self", "judge", "name", "drift"]
theorem w_drift_of (Z : Bz K mg CL CC) (D : Dm K CL "drift_of" "Log.drift_of" s_Log_drift_of) : Me P w K mg base 1 CL "drift_of" ["self", "judge"] (spN (fun a : LogD × Str => [pLog CL a.1, pS a.2]) (fun a => a.2 ∈ a.1.names) fun a => pS (a.1.driftOf a.2)) :=
  me_mk (k := 0) D sc_Log_drift_of (fun _ => rfl) (bnd2 fun _ _ _ _ _ _ _ _ => rfl) fun f cdv A outer s H1 vs Q E a H hr e hp h q => by
    have sc := sc_Log_drift_of
    obtain ⟨l, j⟩ := a
    obtain ⟨v, v2, rfl, rv, ev⟩ := all2 h
    have ev : v2 = .str j := ev
    subst ev
    refine ⟨_, (pss_cons (ps_for PassesOwn.never rfl (piList K (peFld K (pv 0) rfl)) (pgTup K rfl (pgs_cons (pg_name (i := 2) sc.nd rfl (by first | exact Or.inl rfl | exact Or.inr rfl)) (pgs_cons (pg_name (i := 3) sc.nd rfl (by first | exact Or.inl rfl | exact Or.inr rfl)) pgs_nil))) (pss_one (ps_if (pt_cmpR op_eq (pv 2) (pv 1) (nomark _)) (pss_one (ps_ret (pv 3))) pss_nil)))
    (pss_one ps_never)), ?_⟩
    refine q_for e (ei_list (ev_l_judges Z (ev_var rv))) (fun i σ G G1 => Sep H H1 G G1 ∧ (∃ x y, σ = [some v, some (.str j), x, y]) ∧ ∀ k < i, ∀ p, l.judges[k]? = some p → p.1 ≠ j) (fun H' H2 s => ⟨s, ⟨_, _, rfl⟩, fun k hk => by omega⟩) ?_ ?_
    · rintro i p u σ' G G1 G' G2 hpi ⟨sG, ⟨x, y, rfl⟩, hI⟩ eG s2 rp
      obtain ⟨⟨nm, dr⟩, hj, rfl⟩ := map_get hpi
      obtain ⟨x1, y1, r1, r2, hb⟩ := bnd_pair rp
      refine hb G2 s2.b _ ?_
      have r1 : x1 = .str nm := r1
      have r2 : y1 = .str dr := r2
      subst r1 r2
      refine s_if (b := decide (nm = j)) s2.b ((et_test (ev_eq (ev_var (R := pS nm) rfl) (ev_var (R := pS j) rfl) rfl)).eq (by simp)) (fun z H2 e2 => ?_) fun z H2 e2 => ?_
      · have z : nm = j := of_decide_eq_true z
        refine s_ret (s2.b.trans e2) ((ev_var (R := pS dr) rfl).eq ?_) ((q.go (sG.trans s2)).ext e2)
        subst z
        show V.str dr = V.str ((l.judges.lookup nm).getD Str.empty)
        rw [lookup_first hj hI]
        rfl
      · refine ⟨G', s2.a, s2.b.trans e2, (sG.trans s2).ext e2, ⟨_, _, rfl⟩, fun k hk p hp => ?_⟩
        by_cases hki : k = i
        · subst hki
          rw [hj] at hp
          cases hp
          exact of_decide_eq_false z
        · exact hI k (by omega) p hp
    · rintro σ' G G1 eG eG1 ⟨_, _, hI⟩
      have hp : j ∈ l.names := hp
      obtain ⟨p, hp1, hp2⟩ := List.mem_map.mp hp
      obtain ⟨i, hi⟩ := List.mem_iff_getElem?.mp hp1
      rw [List.length_map] at hI
      exact hI i (List.getElem?_eq_some_iff.mp hi).1 p hi hp2
abbrev s_Log_is_answer : Stmt := inClass (topS 26) 6
theorem sc_Log_is_answer : FnScope ["self", "place"] ["self", "place"] (defScope s_Log_is_answer) := ⟨rfl, rfl, rfl, by decide +kernel, rfl, by decide +kernel, by decide +kernel⟩
abbrev n_Log_is_answer : List Str := ["self", "place"]
theorem w_is_answer (Z : Bz K mg CL CC) (D : Dm K CL "is_answer" "Log.is_answer" s_Log_is_answer) : Me P w K mg base 1 CL "is_answer" ["self", "place"] (spN (fun a : LogD × Nat => [pLog CL a.1, pN a.2]) (fun a => True) fun a => pB (a.1.isAns a.2)) :=
  me_mk (k := 0) D sc_Log_is_answer (fun _ => rfl) (bnd2 fun _ _ _ _ _ _ _ _ => rfl) fun f cdv A outer s H1 vs Q E a H hr e hp h q => by
    have sc := sc_Log_is_answer
    obtain ⟨l, p⟩ := a
    obtain ⟨v, v2, rfl, rv, ev⟩ := all2 h
    refine ⟨_, (pss_one (ps_ret (pe_and (pe_chain op_le op_lt pe_int (pv 1) (pe_callB (cLen K) (by rfl) Z.len PySem.boot_len (pa_cons (peFld K (pv 0) rfl) pa_nil))) (pe_one (pe_cmpR op_eq (pe_ix (ixT K) (pe_ix (ixL K) (peFld K (pv 0) rfl) (pv 1) (fun _ _ => rfl)) pe_int (fun _ _ => rfl)) (pe_gs rfl Z.ANSWER) (nomark _)))))), ?_⟩
    refine s_ret e ?_ q
    refine (ev_andV (a := decide (p < l.events.length)) (b := l.isAns p) ((ev_chain (i := 0) (j := (p : Int)) (m := (l.events.length : Int)) ev_c (ev_var ev) ((ev_len (ev_l_events Z (ev_var rv))).eq (by simp))).eq ?_) fun z => ?_).eq ?_
    · congr 1
      have e1 : decide ((0 : Int) ≤ (p : Int)) = true := decide_eq_true (by omega)
      rw [e1, Bool.true_and]
      simp
    · have z : p < l.events.length := of_decide_eq_true z
      have he : l.events[p]? = some l.events[p] := List.getElem?_eq_getElem z
      have hq := get_map (f := pEv) he
      have eA : l.isAns p = match l.events[p] with | .ans _ _ _ => true | .res _ => false := by
        unfold LogD.isAns
        rw [he]
        cases l.events[p] <;> rfl
      rw [eA]
      cases hev : l.events[p] with
      | ans j i g =>
        rw [hev] at hq
        exact (ev_eq (ev_ixT' (n := 0) (ev_ixL (p := pT [pS "answer", pS j, pS i, pN g]) (ev_l_events Z (ev_var rv)) (ev_var ev) hq) rfl rfl) ev_c rfl).eq rfl
      | res j =>
        rw [hev] at hq
        exact (ev_eq (ev_ixT' (n := 0) (ev_ixL (p := pT [pS "reset", pS j]) (ev_l_events Z (ev_var rv)) (ev_var ev) hq) rfl rfl) ev_c rfl).eq rfl
    · congr 1
      by_cases z : l.isAns p = true
      · obtain ⟨j, i, g, hh⟩ := LogD.isAns_lt z
        rw [z, decide_eq_true (LogD.ev_lt hh)] <;> rfl
      · rw [Bool.not_eq_true] at z
        rw [z, Bool.and_false]
abbrev s_Log_answers : Stmt := inClass (topS 26) 7
theorem sc_Log_answers : FnScope ["self", "place"] ["self"] (defScope s_Log_answers) := ⟨rfl, rfl, rfl, by decide +kernel, rfl, by decide +kernel, by decide +kernel⟩
abbrev n_Log_answers : List Str := ["self", "place"]
theorem w_answers (Z : Bz K mg CL CC) (D : Dm K CL "answers" "Log.answers" s_Log_answers) (m_Log_is_answer : Me P w K mg base 1 CL "is_answer" ["self", "place"] (spN (fun a : LogD × Nat => [pLog CL a.1, pN a.2]) (fun a => True) fun a => pB (a.1.isAns a.2))) :
    Me P w K mg base 2 CL "answers" ["self"] (spN (fun a : LogD => [pLog CL a]) (fun a => a.events.length ≤ 120) fun a => pNs a.answers) :=
  me_mk (k := 1) D sc_Log_answers (fun _ => rfl) (bnd1 fun _ _ _ _ _ _ _ => rfl) fun f cdv A outer s H1 vs Q E a H hr e hp h q => by
    have sc := sc_Log_answers
    obtain ⟨v, rfl, rv⟩ := all1 h
    refine ⟨_, (pss_one (ps_ret (pe_lc (own := [("place", 1)]) (g := (gName 1)) rfl sc.nd (pi_range1 (by rfl) Z.range (pa_cons (pe_callB (cLen K) (by rfl) Z.len PySem.boot_len (pa_cons (peFld K (pv 0) rfl) pa_nil)) pa_nil)) (blkOk_by (N := n_Log_answers) (sc := defScope s_Log_answers) (by decide +kernel)) (fun _ _ _ _ _ => (pg_name (i := 1) sc.nd rfl (by first | exact Or.inl rfl | exact Or.inr rfl))) (fun _ _ _ _ _ => pts_one (pt_val (pe_me m_Log_is_answer Z.c_Log hr (by decide) (pv 0) (pa_cons (pv 1) pa_nil)))) (fun _ _ _ _ _ => (pv 1))))), ?_⟩
    refine s_ret e ?_ q
    exact ev_lc (f := pN) (h := pN) (t := a.isAns) (ei_range (n := a.events.length) (ea_one ((ev_len (ev_l_events Z (ev_var rv))).eq (by simp))) (by omega)) (by rw [List.length_range]; omega) fun n u G hn eG ru => ⟨_, bnd_name, rfl, et_B (ev_meth (as := [pN n]) (a, n) (ev_var ((pLog CL a).mono eG rv)) (log_ins rfl) (ea_one (ev_var ru)) rfl True.intro), fun _ => ev_var ru⟩
end
end Rb
set_option Elab.async false
set_option linter.all false
set_option maxRecDepth 100000
/-! Cases as data. -/
namespace Rb
open PySem PySem.Spec PyProof.Rows L2
structure Tld where
  j : Str
  i : Str
  g : Nat
  lot : Nat
  part : Nat
structure CaseD where
  items : List Str
  grades : Nat
  drifts : List (Str × Str)
  told : List (Nat × Tld)
  lots : List (List Nat)
def pTld (t : Tld) : Pr := pT [pS t.j, pS t.i, pN t.g, pT [pS t.j, pN t.lot], pN t.part]
def kDr (d : Str × Str) : Key × Pr := (.inr d.1, pS d.2)
def kTd (t : Nat × Tld) : Key × Pr := (.inl (t.1 : Int), pTld t.2)
def pCase (CC : Addr) (c : CaseD) : Pr := pO CC [("_items", pL (c.items.map pS)), ("_grades", pN c.grades), ("_drifts", pD (c.drifts.map kDr)), ("_told", pD (c.told.map kTd)), ("_lots", pL (c.lots.map pNs))]
namespace CaseD
variable (c : CaseD)
def tld (p : Nat) : Tld := (c.told.lookup p).getD ⟨Str.empty, Str.empty, 0, 0, 0⟩
def ps : List Nat := c.told.map Prod.fst
/-- a case as the program makes it -/
structure Ok : Prop where
  nd : c.ps.Nodup
  items : c.items.Nodup
  many : c.items.length ≤ 50
  pos : 0 < c.items.length
  few : c.told.length ≤ 150
  lots : c.lots.length ≤ 150
  each : ∀ r ∈ c.lots, r.length ≤ 150
  inLots : ∀ r ∈ c.lots, ∀ p ∈ r, p ∈ c.ps
  itemOk : ∀ p ∈ c.ps, (c.tld p).i ∈ c.items
  judge : ∀ p ∈ c.ps, (c.tld p).j ∈ c.drifts.map Prod.fst
  name : ∀ p ∈ c.ps, NameOk (c.tld p).j
  all : (c.lots.flatMap id).length ≤ 150
def driftOf (j : Str) : Str := (c.drifts.lookup j).getD Str.empty
def ord (a b : Nat) : Bool := isFirst (c.driftOf (c.tld a).j) a b
def tog (a b : Nat) : Bool := decide ((c.tld a).part = (c.tld b).part)
def inOrder (a b : Nat) : Bool := decide ((c.tld a).j = (c.tld b).j ∧ (c.tld a).lot = (c.tld b).lot) && c.ord a b
def ahead (r : List Nat) (p : Nat) : List Nat := r.filter fun a => c.ord a p || c.tog a p
def linksAt (r : List Nat) (p : Nat) : List (Nat × Nat) := ((c.ahead r p).filter fun a => decide ((c.tld a).g < (c.tld p).g)).map fun a => (a, p)
def links : List (Nat × Nat) := c.lots.flatMap fun r => r.flatMap fun p => c.linksAt r p
end CaseD
theorem lookup_mem {κ β : Type} [BEq κ] [LawfulBEq κ] {k : κ} {v : β} : ∀ {l : List (κ × β)}, l.lookup k = some v → (k, v) ∈ l
  | [], h => by simp at h
  | (a, b) :: l, h => by
    rw [List.lookup_cons] at h
    cases q : k == a with
    | true =>
      rw [q] at h
      have h : b = v := by simpa using h
      have e : k = a := by simpa using q
      rw [e, h]
      exact List.mem_cons_self
    | false =>
      rw [q] at h
      exact List.mem_cons_of_mem _ (lookup_mem h)
theorem lookup_of {κ β : Type} [BEq κ] [LawfulBEq κ] {k : κ} : ∀ {l : List (κ × β)}, k ∈ l.map Prod.fst → ∃ v, l.lookup k = some v
  | [], h => by simp at h
  | (a, b) :: l, h => by
    rw [List.lookup_cons]
    cases q : k == a with
    | true => exact ⟨b, rfl⟩
    | false =>
      have e : ¬ k = a := by simpa using q
      rw [List.map_cons] at h
      rcases List.mem_cons.mp h with z | z
      · exact absurd z e
      · exact lookup_of z
theorem CaseD.tld_some {c : CaseD} {p : Nat} (h : p ∈ c.ps) : c.told.lookup p = some (c.tld p) := by
  obtain ⟨v, hv⟩ := lookup_of h
  unfold CaseD.tld
  rw [hv]
  rfl
theorem atD_map {β κ : Type} [BEq κ] [LawfulBEq κ] {f : κ × β → Key × Pr} {key : κ → Key} {g : κ → β → Pr} (hf : ∀ q, f q = (key q.1, g q.1 q.2)) (hk : ∀ a b, key a = key b → a = b) {k : κ} : ∀ {l : List (κ × β)}, atD (l.map f) (key k) = (l.lookup k).map (g k)
  | [] => rfl
  | (a, b) :: l => by
    rw [List.map_cons, hf, List.lookup_cons]
    by_cases e : a = k
    · subst e
      simp [atD]
    · have e1 : ¬ key a = key k := fun z => e (hk _ _ z)
      have e2 : (k == a) = false := by simpa using fun z : k = a => e z.symm
      rw [e2]
      have e3 : atD ((key a, g a b) :: l.map f) (key k) = atD (l.map f) (key k) := by simp [atD, List.find?_cons, e1]
      rw [e3]
      exact atD_map hf hk
theorem atD_told {c : CaseD} {p : Nat} (h : p ∈ c.ps) : atD (c.told.map kTd) (.inl (p : Int)) = some (pTld (c.tld p)) := by
  have e := atD_map (f := kTd) (key := fun n : Nat => (.inl (n : Int) : Key)) (g := fun _ t => pTld t) (fun _ => rfl) (fun a b h => by
    have h : (a : Int) = (b : Int) := by injection h
    omega) (k := p) (l := c.told)
  rw [e, CaseD.tld_some h]
  rfl
theorem atD_str {β : Type} {f : Str × β → Key × Pr} {g : β → Pr} (hf : ∀ q, f q = (.inr q.1, g q.2)) {k : Str} {l : List (Str × β)} : atD (l.map f) (.inr k) = (l.lookup k).map g :=
  atD_map (f := f) (key := fun x : Str => (.inr x : Key)) (g := fun _ t => g t) hf (fun a b h => by injection h)
theorem atD_drift {c : CaseD} {j : Str} (h : j ∈ c.drifts.map Prod.fst) : atD (c.drifts.map kDr) (.inr j) = some (pS (c.driftOf j)) := by
  obtain ⟨v, hv⟩ := lookup_of h
  rw [atD_str (f := kDr) (g := pS) (fun _ => rfl), hv]
  unfold CaseD.driftOf
  rw [hv]
  rfl
/-! ### edges -/
abbrev EdgeD := List (Str × List (Str × (Nat × Nat)))
def kLk (q : Str × (Nat × Nat)) : Key × Pr := (.inr q.1, pLk q.2)
def kEd (q : Str × List (Str × (Nat × Nat))) : Key × Pr := (.inr q.1, pD (q.2.map kLk))
def pEdges (E : EdgeD) : Pr := pD (E.map kEd)
def outs (E : EdgeD) (u : Str) : List (Str × (Nat × Nat)) := (E.lookup u).getD []
abbrev isEd (E : EdgeD) (u v : Str) : Prop := v ∈ (outs E u).map Prod.fst
/-- the edges of a case -/
structure EdgeOk (c : CaseD) (E : EdgeD) : Prop where
  keys : E.map Prod.fst = c.items
  nd : ∀ q ∈ E, (q.2.map Prod.fst).Nodup
  link : ∀ q ∈ E, ∀ r ∈ q.2, r.2 ∈ c.links ∧ (c.tld r.2.1).i = q.1 ∧ (c.tld r.2.2).i = r.1
  has : ∀ lk ∈ c.links, isEd E (c.tld lk.1).i (c.tld lk.2).i
/-- one round of depths -/
def grow (E : EdgeD) (d : Str → Nat) (v : Str) : Nat := E.foldl (fun acc q => if v ∈ q.2.map Prod.fst then max acc (d q.1 + 1) else acc) (d v)
def depthAt (E : EdgeD) : Nat → Str → Nat
  | 0 => fun _ => 0
  | k + 1 => grow E (depthAt E k)
def stable (E : EdgeD) (k : Nat) : Prop := ∀ x ∈ E.map Prod.fst, depthAt E (k + 1) x = depthAt E k x
/-- what _depths says: None, or not -/
def pDepths (E : EdgeD) : Pr := ⟨fun _ v => v = .non ↔ ∀ k < E.length, ¬ stable E k, fun _ h => h⟩
/-- how far a goal is -/
structure FarOk (E : EdgeD) (goal : Str) (far : List (Str × Nat)) : Prop where
  nd : (far.map Prod.fst).Nodup
  keys : ∀ x ∈ far.map Prod.fst, x ∈ E.map Prod.fst
  zero : ∀ x, far.lookup x = some 0 ↔ x = goal
  next : ∀ x n, far.lookup x = some (n + 1) → ∃ y, isEd E x y ∧ far.lookup y = some n
  closed : ∀ x y, isEd E x y → y ∈ far.map Prod.fst → x ∈ far.map Prod.fst
  low : ∀ x n, far.lookup x = some n → n < far.length
def kFar (q : Str × Nat) : Key × Pr := (.inr q.1, pN q.2)
def pFar (far : List (Str × Nat)) : Pr := pD (far.map kFar)
/-- links one behind another, from an item to an item -/
def Way (c : CaseD) : Str → Str → List (Nat × Nat) → Prop
  | x, y, [] => x = y
  | x, y, lk :: r => lk ∈ c.links ∧ (c.tld lk.1).i = x ∧ Way c (c.tld lk.2).i y r
def IsRing (c : CaseD) (r : List (Nat × Nat)) : Prop := r ≠ [] ∧ ∃ x, Way c x x r
/-- a ring, or None where there is none -/
def pRing (c : CaseD) : Pr := pE (fun o : Option (List (Nat × Nat)) => match o with
  | none => ¬ ∃ r, IsRing c r
  | some r => IsRing c r ∧ r.length ≤ 51) fun o => match o with
  | none => pNo
  | some r => pLks r
end Rb
set_option Elab.async false
set_option linter.all false
set_option maxRecDepth 100000
/-! How far a goal is: the search, as data; edges on the heap. -/
namespace Rb
open PySem PySem.Spec PyProof.Rows L2
structure FInv (E : EdgeD) (goal : Str) (far : List (Str × Nat)) (wait : List Str) (pend : Str → Str → Prop) : Prop where
  nd : (far.map Prod.fst).Nodup
  keys : ∀ x ∈ far.map Prod.fst, x ∈ E.map Prod.fst
  zero : ∀ x, far.lookup x = some 0 ↔ x = goal
  next : ∀ x n, far.lookup x = some (n + 1) → ∃ y, isEd E x y ∧ far.lookup y = some n
  ws : ∀ y ∈ wait, y ∈ far.map Prod.fst
  cl : ∀ x y, isEd E x y → y ∈ far.map Prod.fst → x ∈ far.map Prod.fst ∨ y ∈ wait ∨ pend x y
  low : ∀ x n, far.lookup x = some n → n < far.length
theorem isEd_key {E : EdgeD} {x y : Str} (h : isEd E x y) : x ∈ E.map Prod.fst := by
  unfold isEd outs at h
  cases e : E.lookup x with
  | none =>
    rw [e] at h
    simp at h
  | some r => exact List.mem_map.mpr ⟨_, lookup_mem e, rfl⟩
theorem lookup_none {κ β : Type} [BEq κ] [LawfulBEq κ] {k : κ} : ∀ {l : List (κ × β)}, l.lookup k = none → k ∉ l.map Prod.fst := fun {l} h hm => by
  obtain ⟨v, hv⟩ := lookup_of hm
  rw [h] at hv
  cases hv
theorem lookup_not {κ β : Type} [BEq κ] [LawfulBEq κ] {k : κ} {l : List (κ × β)} (h : k ∉ l.map Prod.fst) : l.lookup k = none := by
  cases e : l.lookup k with
  | none => rfl
  | some v => exact absurd (List.mem_map.mpr ⟨_, lookup_mem e, rfl⟩) h
theorem lookup_snoc {κ β : Type} [BEq κ] [LawfulBEq κ] {k : κ} {l : List (κ × β)} {a : κ} {b : β} : (l ++ [(a, b)]).lookup k = match l.lookup k with
  | some v => some v
  | none => if k == a then some b else none := by
  rw [List.lookup_append]
  cases l.lookup k with
  | some v => rfl
  | none =>
    show ([(a, b)] : List (κ × β)).lookup k = _
    rw [List.lookup_cons]
    cases k == a <;> rfl
theorem FInv.init {E : EdgeD} {goal : Str} (hg : goal ∈ E.map Prod.fst) : FInv E goal [(goal, 0)] [goal] fun _ _ => False := by
  refine ⟨by simp, fun x hx => ?_, fun x => ?_, fun x n h => ?_, fun y hy => by simpa using hy, fun x y h hy => ?_, fun x n h => ?_⟩
  · have hx : x = goal := by simpa using hx
    rw [hx]
    exact hg
  · rw [List.lookup_cons]
    cases e : x == goal with
    | true => simpa using e
    | false =>
      have : ¬ x = goal := by simpa using e
      simp [this]
  · rw [List.lookup_cons] at h
    cases e : x == goal with
    | true =>
      rw [e] at h
      simp at h
    | false =>
      rw [e] at h
      simp at h
  · exact .inr (.inl (by simpa using hy))
  · rw [List.lookup_cons] at h
    cases e : x == goal with
    | true =>
      rw [e] at h
      have h : 0 = n := Option.some.inj h
      rw [← h]
      exact Nat.one_pos
    | false =>
      rw [e] at h
      simp at h
theorem FInv.pop {E : EdgeD} {goal here : Str} {far : List (Str × Nat)} {w : List Str} (h : FInv E goal far (here :: w) fun _ _ => False) : FInv E goal far w fun x y => y = here ∧ x ∈ (E.map Prod.fst).drop 0 := by
  refine ⟨h.nd, h.keys, h.zero, h.next, fun y hy => h.ws y (List.mem_cons_of_mem _ hy), fun x y he hy => ?_, h.low⟩
  rcases h.cl x y he hy with z | z | z
  · exact .inl z
  · rcases List.mem_cons.mp z with z | z
    · exact .inr (.inr ⟨z, isEd_key he⟩)
    · exact .inr (.inl z)
  · exact z.elim
theorem FInv.add {E : EdgeD} {goal here item : Str} {far : List (Str × Nat)} {w : List Str} {j n : Nat} (h : FInv E goal far w fun x y => y = here ∧ x ∈ (E.map Prod.fst).drop j) (hj : (E.map Prod.fst)[j]? = some item)
    (hn : item ∉ far.map Prod.fst) (he : isEd E item here) (hh : far.lookup here = some n) : FInv E goal (far ++ [(item, n + 1)]) (w ++ [item]) fun x y => y = here ∧ x ∈ (E.map Prod.fst).drop (j + 1) := by
  have lk : ∀ x m, far.lookup x = some m → (far ++ [(item, n + 1)]).lookup x = some m := fun x m e => by rw [lookup_snoc, e]
  have li : (far ++ [(item, n + 1)]).lookup item = some (n + 1) := by
    rw [lookup_snoc, lookup_not hn]
    simp
  have lo : ∀ x, x ≠ item → (far ++ [(item, n + 1)]).lookup x = far.lookup x := fun x hx => by
    rw [lookup_snoc]
    cases far.lookup x with
    | some v => rfl
    | none =>
      have : (x == item) = false := by simpa using hx
      simp [this]
  have hd : (E.map Prod.fst).drop j = item :: (E.map Prod.fst).drop (j + 1) := by
    have hjl := (List.getElem?_eq_some_iff.mp hj)
    rw [List.drop_eq_getElem_cons hjl.1, hjl.2]
  refine ⟨?_, fun x hx => ?_, fun x => ?_, fun x m hx => ?_, fun y hy => ?_, fun x y hxy hy => ?_, fun x m hx => ?_⟩
  · rw [List.map_append, List.nodup_append]
    refine ⟨h.nd, by simp, fun a ha b hb e => ?_⟩
    have hb : b = item := by simpa using hb
    exact hn (by rw [← hb, ← e]; exact ha)
  · rw [List.map_append, List.mem_append] at hx
    rcases hx with hx | hx
    · exact h.keys x hx
    · have hx : x = item := by simpa using hx
      rw [hx]
      exact List.mem_of_getElem? hj
  · by_cases hx : x = item
    · rw [hx, li]
      have hg := (h.zero goal).mpr rfl
      refine ⟨fun z => absurd (Option.some.inj z) (by omega), fun z => ?_⟩
      exact absurd (List.mem_map.mpr ⟨_, lookup_mem (by rw [z]; exact hg), rfl⟩) hn
    · rw [lo x hx]
      exact h.zero x
  · by_cases hxi : x = item
    · rw [hxi, li] at hx
      have hm : n = m := by
        have := Option.some.inj hx
        omega
      rw [hxi, ← hm]
      exact ⟨here, he, lk _ _ hh⟩
    · rw [lo x hxi] at hx
      obtain ⟨y, h1, h2⟩ := h.next x m hx
      exact ⟨y, h1, lk _ _ h2⟩
  · rw [List.map_append, List.mem_append]
    rcases List.mem_append.mp hy with hy | hy
    · exact .inl (h.ws y hy)
    · exact .inr (by simpa using hy)
  · rw [List.map_append, List.mem_append] at hy ⊢
    rcases hy with hy | hy
    · rcases h.cl x y hxy hy with z | z | ⟨z1, z2⟩
      · exact .inl (.inl z)
      · exact .inr (.inl (List.mem_append_left _ z))
      · rw [hd] at z2
        rcases List.mem_cons.mp z2 with z2 | z2
        · exact .inl (.inr (by simpa using z2))
        · exact .inr (.inr ⟨z1, z2⟩)
    · exact .inr (.inl (List.mem_append_right _ (by simpa using hy)))
  · rw [List.length_append, List.length_singleton]
    by_cases hxi : x = item
    · rw [hxi, li] at hx
      have := h.low _ _ hh
      have := Option.some.inj hx
      omega
    · rw [lo x hxi] at hx
      have := h.low _ _ hx
      omega
theorem FInv.skip {E : EdgeD} {goal here item : Str} {far : List (Str × Nat)} {w : List Str} {j : Nat} (h : FInv E goal far w fun x y => y = here ∧ x ∈ (E.map Prod.fst).drop j) (hj : (E.map Prod.fst)[j]? = some item)
    (hn : ¬ (item ∉ far.map Prod.fst ∧ isEd E item here)) : FInv E goal far w fun x y => y = here ∧ x ∈ (E.map Prod.fst).drop (j + 1) := by
  have hd : (E.map Prod.fst).drop j = item :: (E.map Prod.fst).drop (j + 1) := by
    have hjl := (List.getElem?_eq_some_iff.mp hj)
    rw [List.drop_eq_getElem_cons hjl.1, hjl.2]
  refine ⟨h.nd, h.keys, h.zero, h.next, h.ws, fun x y hxy hy => ?_, h.low⟩
  rcases h.cl x y hxy hy with z | z | ⟨z1, z2⟩
  · exact .inl z
  · exact .inr (.inl z)
  · rw [hd] at z2
    rcases List.mem_cons.mp z2 with z2 | z2
    · refine .inl ?_
      rw [z2]
      rw [z2, z1] at hxy
      exact Classical.byContradiction fun q => hn ⟨q, hxy⟩
    · exact .inr (.inr ⟨z1, z2⟩)
theorem FInv.turn {E : EdgeD} {goal here : Str} {far : List (Str × Nat)} {w : List Str} (h : FInv E goal far w fun x y => y = here ∧ x ∈ (E.map Prod.fst).drop E.length) : FInv E goal far w fun _ _ => False := by
  refine ⟨h.nd, h.keys, h.zero, h.next, h.ws, fun x y hxy hy => ?_, h.low⟩
  rcases h.cl x y hxy hy with z | z | ⟨z1, z2⟩
  · exact .inl z
  · exact .inr (.inl z)
  · rw [List.drop_eq_nil_of_le (by rw [List.length_map]; exact Nat.le_refl _)] at z2
    cases z2
theorem FInv.done {E : EdgeD} {goal : Str} {far : List (Str × Nat)} (h : FInv E goal far [] fun _ _ => False) : FarOk E goal far :=
  ⟨h.nd, h.keys, h.zero, h.next, fun x y hxy hy => by
    rcases h.cl x y hxy hy with z | z | z
    · exact z
    · cases z
    · exact z.elim, h.low⟩
theorem nodup_len {α : Type} [DecidableEq α] : ∀ {xs ys : List α}, xs.Nodup → (∀ x ∈ xs, x ∈ ys) → xs.length ≤ ys.length
  | [], _, _, _ => Nat.zero_le _
  | x :: xs, ys, hn, h => by
    have hx := h x List.mem_cons_self
    have h1 := nodup_len (xs := xs) (ys := ys.erase x) (List.nodup_cons.mp hn).2 fun y hy => by
      have hne : y ≠ x := fun z => (List.nodup_cons.mp hn).1 (by rw [← z]; exact hy)
      exact (List.mem_erase_of_ne hne).mpr (h y (List.mem_cons_of_mem _ hy))
    rw [List.length_erase_of_mem hx] at h1
    have h2 := List.length_pos_of_mem hx
    rw [List.length_cons]
    omega
theorem FInv.len {E : EdgeD} {goal : Str} {far : List (Str × Nat)} {w : List Str} {pend : Str → Str → Prop} (h : FInv E goal far w pend) : far.length ≤ E.length := by
  have := nodup_len h.nd h.keys
  rwa [List.length_map, List.length_map] at this
/-! on the heap -/
abbrev dV (far : List (Str × Nat)) : List (Key × V) := far.map fun q => ((.inr q.1 : Key), V.int (q.2 : Int))
theorem valV_dV (x : Str) : ∀ far : List (Str × Nat), valV (dV far) (.inr x) = (far.lookup x).map fun n => V.int (n : Int)
  | [] => rfl
  | (y, n) :: far => by
    rw [List.lookup_cons]
    by_cases e : y = x
    · subst e
      simp [valV]
    · have e1 : (x == y) = false := by simpa using fun z : x = y => e z.symm
      rw [e1]
      have e2 : ¬ ((.inr y : Key) = .inr x) := fun z => e (by injection z)
      show valV ((.inr y, V.int (n : Int)) :: dV far) (.inr x) = _
      rw [valV_neg e2]
      exact valV_dV x far
theorem dV_zip : ∀ far : List (Str × Nat), dV far = ((far.map kFar).map Prod.fst).zip (far.map fun q => V.int (q.2 : Int))
  | [] => rfl
  | q :: far => congrArg (List.cons ((.inr q.1 : Key), V.int (q.2 : Int))) (dV_zip far)
theorem dV_far {far : List (Str × Nat)} {H : Hp} {d : Addr} (h : H d = some (.dK (dV far))) : (pFar far).p H (.ref d) := by
  refine ⟨d, far.map fun q => V.int (q.2 : Int), rfl, by rw [h, dV_zip], ?_⟩
  rw [List.map_map]
  exact all2_of_pV (f := fun q : Str × Nat => V.int (q.2 : Int))
theorem far_dV {far : List (Str × Nat)} {H : Hp} {v : V} (h : (pFar far).p H v) : ∃ d, v = .ref d ∧ H d = some (.dK (dV far)) := by
  obtain ⟨d, vs, rfl, hd, hx⟩ := h
  rw [List.map_map] at hx
  rw [all2_pV (f := fun q : Str × Nat => V.int (q.2 : Int)) (as := far) hx, ← dV_zip] at hd
  exact ⟨d, rfl, hd⟩
theorem putK_dV {far : List (Str × Nat)} {x : Str} {n : Nat} (h : x ∉ far.map Prod.fst) : putK (dV far) (.inr x) (.int (n : Int)) = dV (far ++ [(x, n)]) := by
  rw [putK_new _ (by rw [valV_dV, lookup_not h] <;> rfl)]
  unfold dV
  rw [List.map_append]
  rfl
/-- what a case's edges are on the heap -/
structure EdgeAt (E : EdgeD) (H : Hp) (de : Addr) (kv : List (Key × V)) : Prop where
  at_ : H de = some (.dK kv)
  keys : kv.map Prod.fst = (E.map Prod.fst).map fun u => (.inr u : Key)
  inner : ∀ u ∈ E.map Prod.fst, ∃ a iv, valV kv (.inr u) = some (.ref a) ∧ H a = some (.dK iv) ∧ a ≠ de ∧ iv.map Prod.fst = (outs E u).map (fun q => (.inr q.1 : Key)) ∧ (∀ v, (valV iv (.inr v)).isSome = decide (isEd E u v)) ∧
    ∀ v lk, (outs E u).lookup v = some lk → ∃ z, valV iv (.inr v) = some z ∧ (pLk lk).p H z
theorem edge_at {E : EdgeD} {H : Hp} {v : V} (h : (pEdges E).p H v) : ∃ de kv, v = .ref de ∧ EdgeAt E H de kv := by
  obtain ⟨de, vs, rfl, hd, hx⟩ := h
  have hlen := hx.length
  have hk : ((E.map kEd).map Prod.fst).length = vs.length := by
    rw [hlen, List.length_map, List.length_map, List.length_map, List.length_map]
  refine ⟨de, _, rfl, hd, ?_, fun u hu => ?_⟩
  · rw [zip_fst hk, List.map_map, List.map_map]
    rfl
  · obtain ⟨inn, hi⟩ := lookup_of hu
    have z := valD hx (.inr u)
    rw [atD_str (f := kEd) (g := fun r => pD (r.map kLk)) (fun _ => rfl), hi] at z
    obtain ⟨w, e1, a, ws, rfl, ha, hw⟩ := z
    have ho : outs E u = inn := by
      unfold outs
      rw [hi]
      rfl
    have hwl := hw.length
    have hwk : ((inn.map kLk).map Prod.fst).length = ws.length := by
      rw [hwl, List.length_map, List.length_map, List.length_map, List.length_map]
    have look : ∀ x, match inn.lookup x with
      | some lk => ∃ z, valV (((inn.map kLk).map Prod.fst).zip ws) (.inr x) = some z ∧ (pLk lk).p H z
      | none => valV (((inn.map kLk).map Prod.fst).zip ws) (.inr x) = none := fun x => by
      have z := valD hw (.inr x)
      rw [atD_str (f := kLk) (g := pLk) (fun _ => rfl)] at z
      cases e : inn.lookup x with
      | none =>
        rw [e] at z
        exact z
      | some lk =>
        rw [e] at z
        exact z
    refine ⟨a, _, e1, ha, fun q => ?_, ?_, fun x => ?_, fun x lk hl => ?_⟩
    · rw [q] at ha e1
      rw [hd] at ha
      have e3 := Option.some.inj ha
      have e4 : ((E.map kEd).map Prod.fst).zip vs = ((inn.map kLk).map Prod.fst).zip ws := by injection e3
      rw [e4] at e1
      have l2 := look u
      cases e : inn.lookup u with
      | none =>
        rw [e] at l2
        have l2 : valV (((inn.map kLk).map Prod.fst).zip ws) (.inr u) = none := l2
        rw [l2] at e1
        cases e1
      | some lk =>
        rw [e] at l2
        obtain ⟨z, z1, b, xs, z2, z3, _⟩ := l2
        rw [e1] at z1
        have z1 := Option.some.inj z1
        rw [← z1] at z2
        have z2 : de = b := by injection z2
        rw [← z2, hd] at z3
        cases z3
    · rw [zip_fst hwk, ho, List.map_map]
      rfl
    · have l2 := look x
      unfold isEd
      rw [ho]
      cases e : inn.lookup x with
      | none =>
        rw [e] at l2
        have l2 : valV (((inn.map kLk).map Prod.fst).zip ws) (.inr x) = none := l2
        rw [l2, decide_eq_false (lookup_none e)] <;> rfl
      | some lk =>
        rw [e] at l2
        obtain ⟨z, z1, _⟩ := l2
        rw [z1, decide_eq_true (List.mem_map.mpr ⟨_, lookup_mem e, rfl⟩)] <;> rfl
    · rw [ho] at hl
      have l2 := look x
      rw [hl] at l2
      exact l2
theorem EdgeAt.ex {E : EdgeD} {H H' : Hp} {de : Addr} {kv : List (Key × V)} (h : EdgeAt E H de kv) (e : Ex H H') : EdgeAt E H' de kv := by
  refine ⟨e _ _ h.at_, h.keys, fun u hu => ?_⟩
  obtain ⟨a, iv, h1, h2, h3, h4, h5, h6⟩ := h.inner u hu
  refine ⟨a, iv, h1, e _ _ h2, h3, h4, h5, fun v lk hl => ?_⟩
  obtain ⟨z, z1, z2⟩ := h6 v lk hl
  exact ⟨z, z1, (pLk lk).mono e z2⟩
end Rb
set_option Elab.async false
set_option linter.all false
set_option maxRecDepth 100000
/-! Depths and rings, plainly. -/
namespace Rb
open PySem PySem.Spec PyProof.Rows L2
/-- what the edges must be for the rounds of depths -/
structure EdW (E : EdgeD) : Prop where
  nd : (E.map Prod.fst).Nodup
  inn : ∀ u v, isEd E u v → v ∈ E.map Prod.fst
theorem foldl_ge {α : Type} {p : α → Bool} {g : α → Nat} : ∀ (l : List α) (a : Nat), a ≤ l.foldl (fun acc q => if p q then max acc (g q) else acc) a
  | [], _ => Nat.le_refl _
  | q :: l, a => by
    rw [List.foldl_cons]
    refine Nat.le_trans ?_ (foldl_ge l _)
    split <;> omega
theorem foldl_hit {α : Type} {p : α → Bool} {g : α → Nat} : ∀ (l : List α) (a : Nat) (q : α), q ∈ l → p q = true → g q ≤ l.foldl (fun acc q => if p q then max acc (g q) else acc) a
  | q' :: l, a, q, h, hp => by
    rw [List.foldl_cons]
    rcases List.mem_cons.mp h with z | z
    · subst z
      refine Nat.le_trans ?_ (foldl_ge l _)
      rw [if_pos hp]
      omega
    · exact foldl_hit l _ q z hp
  | [], _, _, h, _ => by cases h
theorem foldl_from {α : Type} {p : α → Bool} {g : α → Nat} : ∀ (l : List α) (a : Nat), l.foldl (fun acc q => if p q then max acc (g q) else acc) a = a ∨ ∃ q ∈ l, p q = true ∧ l.foldl (fun acc q => if p q then max acc (g q) else acc) a = g q
  | [], _ => .inl rfl
  | q :: l, a => by
    rw [List.foldl_cons]
    rcases foldl_from l (if p q then max a (g q) else a) with h | ⟨r, hr, hp, h⟩
    · cases hq : p q with
      | false =>
        rw [hq] at h
        exact .inl h
      | true =>
        rw [hq, if_pos rfl] at h
        by_cases hm : g q ≤ a
        · refine .inl ?_
          rw [if_pos rfl, h]
          omega
        · refine .inr ⟨q, List.mem_cons_self, hq, ?_⟩
          rw [if_pos rfl, h]
          omega
    · exact .inr ⟨r, List.mem_cons_of_mem _ hr, hp, h⟩
theorem grow_eq (E : EdgeD) (d : Str → Nat) (v : Str) : grow E d v = E.foldl (fun acc q => if decide (v ∈ q.2.map Prod.fst) then max acc (d q.1 + 1) else acc) (d v) := by
  unfold grow
  congr 1
  funext acc q
  by_cases h : v ∈ q.2.map Prod.fst <;> simp [h]
theorem outs_mem {E : EdgeD} {u : Str} {r : List (Str × (Nat × Nat))} (h : E.lookup u = some r) : outs E u = r := by
  unfold outs
  rw [h]
  rfl
theorem edge_entry {E : EdgeD} {u v : Str} (h : isEd E u v) : ∃ q ∈ E, q.1 = u ∧ v ∈ q.2.map Prod.fst := by
  unfold isEd outs at h
  cases e : E.lookup u with
  | none =>
    rw [e] at h
    simp at h
  | some r =>
    rw [e] at h
    exact ⟨(u, r), lookup_mem e, rfl, h⟩
theorem lookup_nd' {κ β : Type} [BEq κ] [LawfulBEq κ] {l : List (κ × β)} (hn : (l.map Prod.fst).Nodup) {q : κ × β} (hq : q ∈ l) : l.lookup q.1 = some q.2 := by
  induction l with
  | nil => cases hq
  | cons p l ih =>
    rw [List.map_cons, List.nodup_cons] at hn
    obtain ⟨a, b⟩ := p
    rw [List.lookup_cons]
    rcases List.mem_cons.mp hq with z | z
    · rw [z]
      simp
    · have hne : q.1 ≠ a := fun e => hn.1 (by
        show a ∈ l.map Prod.fst
        rw [← e]
        exact List.mem_map.mpr ⟨q, z, rfl⟩)
      have : (q.1 == a) = false := by simpa using hne
      rw [this]
      exact ih hn.2 z
theorem entry_edge {E : EdgeD} (hE : EdW E) {q : Str × List (Str × (Nat × Nat))} (hq : q ∈ E) {v : Str} (h : v ∈ q.2.map Prod.fst) : isEd E q.1 v := by
  unfold isEd
  rw [outs_mem (lookup_nd' hE.nd hq)]
  exact h
theorem grow_edge {E : EdgeD} {d : Str → Nat} {u v : Str} (h : isEd E u v) : d u + 1 ≤ grow E d v := by
  obtain ⟨q, hq, rfl, hv⟩ := edge_entry h
  rw [grow_eq]
  exact foldl_hit (p := fun q : Str × List (Str × (Nat × Nat)) => decide (v ∈ q.2.map Prod.fst)) (g := fun q => d q.1 + 1) E (d v) q hq (decide_eq_true hv)
theorem grow_from {E : EdgeD} (hE : EdW E) (d : Str → Nat) (v : Str) : grow E d v = d v ∨ ∃ u, isEd E u v ∧ grow E d v = d u + 1 := by
  rw [grow_eq]
  rcases foldl_from (p := fun q : Str × List (Str × (Nat × Nat)) => decide (v ∈ q.2.map Prod.fst)) (g := fun q => d q.1 + 1) E (d v) with h | ⟨q, hq, hp, h⟩
  · exact .inl h
  · exact .inr ⟨q.1, entry_edge hE hq (of_decide_eq_true hp), h⟩
theorem depth_up {E : EdgeD} (k : Nat) (v : Str) : depthAt E k v ≤ depthAt E (k + 1) v := by
  show depthAt E k v ≤ grow E (depthAt E k) v
  rw [grow_eq]
  exact foldl_ge (p := fun q : Str × List (Str × (Nat × Nat)) => decide (v ∈ q.2.map Prod.fst)) (g := fun q => depthAt E k q.1 + 1) E _
/-- vertices one behind another -/
def Chn (E : EdgeD) : List Str → Prop
  | [] => True
  | [_] => True
  | x :: y :: r => isEd E x y ∧ Chn E (y :: r)
theorem Chn.snoc {E : EdgeD} {u v : Str} : ∀ {xs : List Str}, Chn E (xs ++ [u]) → isEd E u v → Chn E (xs ++ [u] ++ [v])
  | [], _, h => ⟨h, True.intro⟩
  | [x], h1, h => ⟨h1.1, h, True.intro⟩
  | x :: y :: r, h1, h => ⟨h1.1, Chn.snoc (xs := y :: r) h1.2 h⟩
theorem Chn.tail {E : EdgeD} : ∀ {p r : List Str}, Chn E (p ++ r) → Chn E r
  | [], _, h => h
  | [x], [], _ => True.intro
  | [x], y :: r, h => h.2
  | x :: y :: p, r, h => Chn.tail (p := y :: p) h.2
theorem chain_of {E : EdgeD} (hE : EdW E) : ∀ (k : Nat) (v : Str), depthAt E (k + 1) v ≠ depthAt E k v → ∃ xs u, xs.length = k ∧ Chn E (xs ++ [u] ++ [v]) ∧ ∀ x ∈ xs ++ [u], x ∈ E.map Prod.fst
  | 0, v, h => by
    rcases grow_from hE (depthAt E 0) v with z | ⟨u, hu, _⟩
    · exact absurd z h
    · exact ⟨[], u, rfl, ⟨hu, True.intro⟩, fun x hx => by
        have hx : x = u := by simpa using hx
        rw [hx]
        exact isEd_key hu⟩
  | k + 1, v, h => by
    rcases grow_from hE (depthAt E (k + 1)) v with z | ⟨u, hu, hz⟩
    · exact absurd z h
    · have h1 : depthAt E (k + 1) u ≠ depthAt E k u := fun e => by
        have h2 : depthAt E k u + 1 ≤ depthAt E (k + 1) v := grow_edge hu
        have h3 : depthAt E (k + 1) v ≤ depthAt E (k + 2) v := depth_up (k + 1) v
        have h4 : depthAt E (k + 2) v = depthAt E (k + 1) u + 1 := hz
        have h5 : depthAt E (k + 2) v ≠ depthAt E (k + 1) v := h
        omega
      obtain ⟨xs, w, hl, hc, hk⟩ := chain_of hE k u h1
      refine ⟨xs ++ [w], u, by rw [List.length_append, List.length_singleton, hl], ?_, fun x hx => ?_⟩
      · exact Chn.snoc (xs := xs ++ [w]) hc hu
      · rcases List.mem_append.mp hx with hx | hx
        · exact hk x hx
        · have hx : x = u := by simpa using hx
          rw [hx]
          exact isEd_key hu
theorem dup_split {α : Type} [DecidableEq α] : ∀ {xs : List α}, ¬ xs.Nodup → ∃ x p q s, xs = p ++ (x :: (q ++ (x :: s)))
  | [], h => absurd List.nodup_nil h
  | x :: xs, h => by
    by_cases hx : x ∈ xs
    · obtain ⟨q, s, e⟩ := List.append_of_mem hx
      exact ⟨x, [], q, s, by rw [e]; rfl⟩
    · obtain ⟨y, p, q, s, e⟩ := dup_split (xs := xs) fun hn => h (List.nodup_cons.mpr ⟨hx, hn⟩)
      exact ⟨y, x :: p, q, s, by rw [e]; rfl⟩
/-- never stable: a closed chain -/
theorem loop_of {E : EdgeD} (hE : EdW E) (h0 : 0 < E.length) (h : ∀ k < E.length, ¬ stable E k) : ∃ x q s, Chn E (x :: (q ++ (x :: s))) := by
  obtain ⟨n, hn⟩ : ∃ n, E.length = n + 1 := ⟨E.length - 1, by omega⟩
  have h1 := h n (by omega)
  unfold stable at h1
  obtain ⟨v, hv⟩ := Classical.not_forall.mp h1
  obtain ⟨hvm, hv⟩ := Classical.not_imp.mp hv
  obtain ⟨xs, u, hl, hc, hk⟩ := chain_of hE n v hv
  have hnd : ¬ (xs ++ [u] ++ [v]).Nodup := fun z => by
    have h2 := nodup_len (ys := E.map Prod.fst) z fun x hx => by
      rcases List.mem_append.mp hx with hx | hx
      · exact hk x hx
      · have hx : x = v := by simpa using hx
        rw [hx]
        exact hvm
    rw [List.length_append, List.length_append, List.length_singleton, List.length_singleton, hl, List.length_map, hn] at h2
    omega
  obtain ⟨x, p, q, s, e⟩ := dup_split hnd
  rw [e] at hc
  exact ⟨x, q, s, hc.tail⟩
theorem far_chain {E : EdgeD} {goal : Str} {far : List (Str × Nat)} (hF : FarOk E goal far) {x : Str} {s : List Str} (hx : x ∈ far.map Prod.fst) : ∀ {q : List Str} {z : Str}, Chn E (z :: (q ++ (x :: s))) → z ∈ far.map Prod.fst
  | [], z, h => hF.closed z x h.1 hx
  | y :: q, z, h => hF.closed z y h.1 (far_chain hF hx (q := q) h.2)
theorem loop_far {E : EdgeD} {x : Str} {q s : List Str} (h : Chn E (x :: (q ++ (x :: s)))) {far : List (Str × Nat)} (hF : FarOk E x far) : ∃ z, isEd E x z ∧ z ∈ far.map Prod.fst := by
  have hx : x ∈ far.map Prod.fst := List.mem_map.mpr ⟨_, lookup_mem ((hF.zero x).mpr rfl), rfl⟩
  cases q with
  | nil => exact ⟨x, h.1, hx⟩
  | cons y q => exact ⟨y, h.1, far_chain hF hx (q := q) h.2⟩
theorem EdgeOk.edW {c : CaseD} {E : EdgeD} (h : EdgeOk c E) (hn : c.items.Nodup) (hi : ∀ lk ∈ c.links, (c.tld lk.2).i ∈ c.items) : EdW E := by
  refine ⟨by rw [h.keys]; exact hn, fun u v he => ?_⟩
  obtain ⟨q, hq, _, hv⟩ := edge_entry he
  obtain ⟨r, hr, rfl⟩ := List.mem_map.mp hv
  obtain ⟨h1, _, h3⟩ := h.link q hq r hr
  rw [h.keys, ← h3]
  exact hi _ h1
theorem EdgeOk.ed_link {c : CaseD} {E : EdgeD} (h : EdgeOk c E) {u v : Str} (he : isEd E u v) : ∃ lk ∈ c.links, (c.tld lk.1).i = u ∧ (c.tld lk.2).i = v := by
  obtain ⟨q, hq, h1, hv⟩ := edge_entry he
  obtain ⟨r, hr, rfl⟩ := List.mem_map.mp hv
  obtain ⟨h2, h3, h4⟩ := h.link q hq r hr
  exact ⟨r.2, h2, by rw [h3, h1], h4⟩
theorem chain_way {c : CaseD} {E : EdgeD} (h : EdgeOk c E) {x : Str} {s : List Str} : ∀ {q : List Str} {z : Str}, Chn E (z :: (q ++ (x :: s))) → ∃ r, r ≠ [] ∧ Way c z x r
  | [], z, hc => by
    obtain ⟨lk, h1, h2, h3⟩ := h.ed_link hc.1
    exact ⟨[lk], by simp, h1, h2, h3⟩
  | y :: q, z, hc => by
    obtain ⟨lk, h1, h2, h3⟩ := h.ed_link hc.1
    obtain ⟨r, _, hr⟩ := chain_way h (q := q) hc.2
    exact ⟨lk :: r, by simp, h1, h2, by rw [h3]; exact hr⟩
theorem way_pot {c : CaseD} {d : Str → Nat} (hd : ∀ lk ∈ c.links, d (c.tld lk.1).i + 1 ≤ d (c.tld lk.2).i) : ∀ {r : List (Nat × Nat)} {x y : Str}, Way c x y r → d x + r.length ≤ d y
  | [], x, y, h => by
    have h : x = y := h
    rw [h]
    exact Nat.le_refl _
  | lk :: r, x, y, ⟨h1, h2, h3⟩ => by
    have a := hd lk h1
    have b := way_pot hd h3
    rw [h2] at a
    rw [List.length_cons]
    omega
/-- the case is explained exactly if it has no ring -/
theorem ring_iff {c : CaseD} {E : EdgeD} (h : EdgeOk c E) (hn : c.items.Nodup) (hi : ∀ lk ∈ c.links, (c.tld lk.2).i ∈ c.items) (h0 : 0 < E.length) : (∀ k < E.length, ¬ stable E k) ↔ ∃ r, IsRing c r := by
  have hE := h.edW hn hi
  refine ⟨fun hs => ?_, fun ⟨r, hr, x, hw⟩ k _ hs => ?_⟩
  · obtain ⟨x, q, s, hc⟩ := loop_of hE h0 hs
    obtain ⟨r, h1, h2⟩ := chain_way h hc
    exact ⟨r, h1, x, h2⟩
  · have hd : ∀ lk ∈ c.links, depthAt E k (c.tld lk.1).i + 1 ≤ depthAt E k (c.tld lk.2).i := fun lk hlk => by
      have a : depthAt E k (c.tld lk.1).i + 1 ≤ depthAt E (k + 1) (c.tld lk.2).i := grow_edge (h.has lk hlk)
      have b := hs (c.tld lk.2).i (by rw [h.keys]; exact hi lk hlk)
      omega
    have := way_pot hd hw
    have := List.length_pos_iff.mpr hr
    omega
end Rb
set_option Elab.async false
set_option linter.all false
set_option maxRecDepth 100000
/-! A case made of a log: what is gathered. -/
namespace Rb
open PySem PySem.Spec PyProof.Rows L2
namespace LogD
variable (l : LogD)
def isRes (p : Nat) : Bool := match l.events[p]? with
  | some (.res _) => true
  | _ => false
def lotC (R : List Nat) (j : Str) (i : Nat) : Nat := ((List.range i).filter fun q => decide (l.evJ q = j) && (l.isRes q || decide (q ∈ R))).length
def movesAt (M : Option (List Nat)) (q : Nat) : Bool := match M with
  | none => true
  | some m => decide (q ∈ m)
def partC (M : Option (List Nat)) (j : Str) (i : Nat) : Nat := ((List.range i).filter fun q => decide (l.evJ q = j) && movesAt M q).length
def tldAt (R : List Nat) (M : Option (List Nat)) (p : Nat) : Tld := ⟨l.evJ p, l.itemAt p, l.gradeAt p, l.lotC R (l.evJ p) (p + 1), l.partC M (l.evJ p) (p + 1)⟩
def toldTo (S R : List Nat) (M : Option (List Nat)) (i : Nat) : List (Nat × Tld) := ((List.range i).filter fun p => l.isAns p && !decide (p ∈ S)).map fun p => (p, l.tldAt R M p)
end LogD
/-- a place joins its row -/
def addRow (rows : List ((Str × Nat) × List Nat)) (k : Str × Nat) (p : Nat) : List ((Str × Nat) × List Nat) :=
  if k ∈ rows.map Prod.fst then rows.map fun r => if r.1 = k then (r.1, r.2 ++ [p]) else r else rows ++ [(k, [p])]
def rowsOf (ts : List (Nat × Tld)) : List ((Str × Nat) × List Nat) := ts.foldl (fun rows t => addRow rows (t.2.j, t.2.lot) t.1) []
def mkCase (l : LogD) (S R : List Nat) (M : Option (List Nat)) : CaseD where
  items := l.items
  grades := l.grades
  drifts := l.judges
  told := l.toldTo S R M l.events.length
  lots := (rowsOf (l.toldTo S R M l.events.length)).map Prod.snd
theorem lotC_succ (l : LogD) (R : List Nat) (j : Str) (i : Nat) : l.lotC R j (i + 1) = if l.evJ i = j ∧ (l.isRes i = true ∨ i ∈ R) then l.lotC R j i + 1 else l.lotC R j i := by
  unfold LogD.lotC
  rw [List.range_succ, List.filter_append, List.length_append]
  by_cases h1 : l.evJ i = j
  · by_cases h2 : l.isRes i = true
    · simp [h1, h2]
    · rw [Bool.not_eq_true] at h2
      by_cases h3 : i ∈ R
      · simp [h1, h2, h3]
      · simp [h1, h2, h3]
  · simp [h1]
theorem partC_succ (l : LogD) (M : Option (List Nat)) (j : Str) (i : Nat) : l.partC M j (i + 1) = if l.evJ i = j ∧ LogD.movesAt M i = true then l.partC M j i + 1 else l.partC M j i := by
  unfold LogD.partC
  rw [List.range_succ, List.filter_append, List.length_append]
  by_cases h1 : l.evJ i = j
  · by_cases h2 : LogD.movesAt M i = true
    · simp [h1, h2]
    · rw [Bool.not_eq_true] at h2
      simp [h1, h2]
  · simp [h1]
theorem toldTo_succ (l : LogD) (S R : List Nat) (M : Option (List Nat)) (i : Nat) : l.toldTo S R M (i + 1) = if l.isAns i = true ∧ i ∉ S then l.toldTo S R M i ++ [(i, l.tldAt R M i)] else l.toldTo S R M i := by
  unfold LogD.toldTo
  rw [List.range_succ, List.filter_append, List.map_append]
  by_cases h1 : l.isAns i = true
  · by_cases h2 : i ∈ S
    · simp [h1, h2]
    · simp [h1, h2]
  · rw [Bool.not_eq_true] at h1
    simp [h1]
theorem addRow_keys (rows : List ((Str × Nat) × List Nat)) (k : Str × Nat) (p : Nat) : (addRow rows k p).map Prod.fst = if k ∈ rows.map Prod.fst then rows.map Prod.fst else rows.map Prod.fst ++ [k] := by
  unfold addRow
  split
  · rw [List.map_map]
    refine List.map_congr_left fun r _ => ?_
    show (if r.1 = k then (r.1, r.2 ++ [p]) else r).1 = r.1
    split <;> rfl
  · rw [List.map_append]
    rfl
theorem addRow_nd {rows : List ((Str × Nat) × List Nat)} {k : Str × Nat} {p : Nat} (h : (rows.map Prod.fst).Nodup) : ((addRow rows k p).map Prod.fst).Nodup := by
  rw [addRow_keys]
  split
  · exact h
  · rename_i hk
    rw [List.nodup_append]
    refine ⟨h, by simp, fun a ha b hb z => ?_⟩
    have hb : b = k := by simpa using hb
    exact hk (by rw [← hb, ← z]; exact ha)
theorem rowsOf_snoc (ts : List (Nat × Tld)) (t : Nat × Tld) : rowsOf (ts ++ [t]) = addRow (rowsOf ts) (t.2.j, t.2.lot) t.1 := by
  unfold rowsOf
  rw [List.foldl_append]
  rfl
theorem snoc_ind {α : Type} {P : List α → Prop} (h0 : P []) (hs : ∀ xs x, P xs → P (xs ++ [x])) (xs : List α) : P xs := by
  have h : ∀ ys : List α, P ys.reverse := by
    intro ys
    induction ys with
    | nil => exact h0
    | cons y ys ih =>
      rw [List.reverse_cons]
      exact hs _ _ ih
  have := h xs.reverse
  rwa [List.reverse_reverse] at this
theorem rowsOf_nd (ts : List (Nat × Tld)) : ((rowsOf ts).map Prod.fst).Nodup := by
  refine snoc_ind (P := fun ts => ((rowsOf ts).map Prod.fst).Nodup) List.nodup_nil (fun xs x h => ?_) ts
  rw [rowsOf_snoc]
  exact addRow_nd h
theorem mem_addRow {rows : List ((Str × Nat) × List Nat)} {k : Str × Nat} {p : Nat} (hn : (rows.map Prod.fst).Nodup) {k' : Str × Nat} {x : Nat} : (∃ r ∈ addRow rows k p, r.1 = k' ∧ x ∈ r.2) ↔ (∃ r ∈ rows, r.1 = k' ∧ x ∈ r.2) ∨ (k' = k ∧ x = p) := by
  unfold addRow
  split
  · rename_i hk
    constructor
    · rintro ⟨r, hr, rfl, hx⟩
      obtain ⟨r0, hr0, rfl⟩ := List.mem_map.mp hr
      by_cases h : r0.1 = k
      · rw [if_pos h] at hx ⊢
        rcases List.mem_append.mp hx with z | z
        · exact .inl ⟨r0, hr0, rfl, z⟩
        · exact .inr ⟨h, by simpa using z⟩
      · rw [if_neg h] at hx ⊢
        exact .inl ⟨r0, hr0, rfl, hx⟩
    · rintro (⟨r, hr, rfl, hx⟩ | ⟨rfl, rfl⟩)
      · refine ⟨_, List.mem_map.mpr ⟨r, hr, rfl⟩, ?_, ?_⟩
        · split <;> rfl
        · split
          · exact List.mem_append_left _ hx
          · exact hx
      · obtain ⟨r, hr, rfl⟩ := List.mem_map.mp hk
        refine ⟨_, List.mem_map.mpr ⟨r, hr, rfl⟩, ?_, ?_⟩
        · rw [if_pos rfl]
        · rw [if_pos rfl]
          exact List.mem_append_right _ (by simp)
  · constructor
    · rintro ⟨r, hr, rfl, hx⟩
      rcases List.mem_append.mp hr with z | z
      · exact .inl ⟨r, z, rfl, hx⟩
      · have z : r = (k, [p]) := by simpa using z
        subst z
        exact .inr ⟨rfl, by simpa using hx⟩
    · rintro (⟨r, hr, rfl, hx⟩ | ⟨rfl, rfl⟩)
      · exact ⟨r, List.mem_append_left _ hr, rfl, hx⟩
      · exact ⟨(k', [x]), List.mem_append_right _ (by simp), rfl, by simp⟩
/-- who stands in which row -/
theorem mem_rowsOf (ts : List (Nat × Tld)) (k : Str × Nat) (x : Nat) : (∃ r ∈ rowsOf ts, r.1 = k ∧ x ∈ r.2) ↔ ∃ t ∈ ts, (t.2.j, t.2.lot) = k ∧ t.1 = x := by
  refine snoc_ind (P := fun ts => (∃ r ∈ rowsOf ts, r.1 = k ∧ x ∈ r.2) ↔ ∃ t ∈ ts, (t.2.j, t.2.lot) = k ∧ t.1 = x) ?_ (fun xs t ih => ?_) ts
  · constructor
    · rintro ⟨r, hr, _⟩
      cases hr
    · rintro ⟨r, hr, _⟩
      cases hr
  · rw [rowsOf_snoc, mem_addRow (rowsOf_nd xs), ih]
    constructor
    · rintro (⟨t', ht', h⟩ | ⟨rfl, rfl⟩)
      · exact ⟨t', List.mem_append_left _ ht', h⟩
      · exact ⟨t, List.mem_append_right _ (by simp), rfl, rfl⟩
    · rintro ⟨t', ht', h1, h2⟩
      rcases List.mem_append.mp ht' with z | z
      · exact .inl ⟨t', z, h1, h2⟩
      · have z : t' = t := by simpa using z
        subst z
        exact .inr ⟨h1.symm, h2.symm⟩
theorem addRow_len (rows : List ((Str × Nat) × List Nat)) (k : Str × Nat) (p : Nat) (hn : (rows.map Prod.fst).Nodup) : ((addRow rows k p).flatMap Prod.snd).length = (rows.flatMap Prod.snd).length + 1 := by
  unfold addRow
  split
  · rename_i hk
    induction rows with
    | nil => cases hk
    | cons r rows ih =>
      rw [List.map_cons, List.nodup_cons] at hn
      rw [List.map_cons, List.flatMap_cons, List.flatMap_cons, List.length_append, List.length_append]
      by_cases h : r.1 = k
      · rw [if_pos h]
        have e : (rows.map fun r => if r.1 = k then (r.1, r.2 ++ [p]) else r) = rows := by
          have : ∀ q ∈ rows, (if q.1 = k then (q.1, q.2 ++ [p]) else q) = q := fun q hq => by
            rw [if_neg fun z => hn.1 (by rw [h, ← z]; exact List.mem_map.mpr ⟨q, hq, rfl⟩)]
          rw [List.map_congr_left this, List.map_id']
        rw [e, List.length_append, List.length_singleton]
        omega
      · rw [if_neg h]
        have hk2 : k ∈ rows.map Prod.fst := by
          rw [List.map_cons] at hk
          rcases List.mem_cons.mp hk with z | z
          · exact absurd z.symm h
          · exact z
        rw [ih hn.2 hk2]
        omega
  · rw [List.flatMap_append, List.length_append]
    rfl
theorem rowsOf_len (ts : List (Nat × Tld)) : ((rowsOf ts).flatMap Prod.snd).length = ts.length := by
  refine snoc_ind (P := fun ts => ((rowsOf ts).flatMap Prod.snd).length = ts.length) rfl (fun xs t ih => ?_) ts
  rw [rowsOf_snoc, addRow_len _ _ _ (rowsOf_nd xs), ih, List.length_append, List.length_singleton]
theorem addRow_le (rows : List ((Str × Nat) × List Nat)) (k : Str × Nat) (p : Nat) : (addRow rows k p).length ≤ rows.length + 1 := by
  unfold addRow
  split
  · rw [List.length_map]
    omega
  · rw [List.length_append, List.length_singleton]
    exact Nat.le_refl _
theorem rowsOf_le (ts : List (Nat × Tld)) : (rowsOf ts).length ≤ ts.length := by
  refine snoc_ind (P := fun ts => (rowsOf ts).length ≤ ts.length) (Nat.le_refl _) (fun xs t ih => ?_) ts
  rw [rowsOf_snoc, List.length_append, List.length_singleton]
  exact Nat.le_trans (addRow_le _ _ _) (by omega)
theorem toldTo_len (l : LogD) (S R : List Nat) (M : Option (List Nat)) (i : Nat) : (l.toldTo S R M i).length ≤ i := by
  unfold LogD.toldTo
  rw [List.length_map]
  exact Nat.le_trans (List.length_filter_le _ _) (by rw [List.length_range]; exact Nat.le_refl _)
theorem toldTo_keys (l : LogD) (S R : List Nat) (M : Option (List Nat)) (i : Nat) : (l.toldTo S R M i).map Prod.fst = (List.range i).filter fun p => l.isAns p && !decide (p ∈ S) := by
  unfold LogD.toldTo
  rw [List.map_map]
  exact List.map_id' _
theorem mk_ps {l : LogD} {S R : List Nat} {M : Option (List Nat)} {p : Nat} : p ∈ (mkCase l S R M).ps ↔ l.isAns p = true ∧ p ∉ S := by
  show p ∈ (l.toldTo S R M l.events.length).map Prod.fst ↔ _
  rw [toldTo_keys, List.mem_filter, List.mem_range, Bool.and_eq_true, Bool.not_eq_true', decide_eq_false_iff_not]
  refine ⟨fun h => h.2, fun h => ⟨?_, h⟩⟩
  obtain ⟨j, i, g, e⟩ := LogD.isAns_lt h.1
  exact LogD.ev_lt e
theorem lookup_mapf {β : Type} (f : Nat → β) (p : Nat) : ∀ xs : List Nat, p ∈ xs → (xs.map fun x => (x, f x)).lookup p = some (f p)
  | x :: xs, h => by
    rw [List.map_cons, List.lookup_cons]
    by_cases e : p = x
    · subst e
      simp
    · have e2 : (p == x) = false := by simpa using e
      rw [e2]
      rcases List.mem_cons.mp h with z | z
      · exact absurd z e
      · exact lookup_mapf f p xs z
  | [], h => by cases h
theorem mk_tld {l : LogD} {S R : List Nat} {M : Option (List Nat)} {p : Nat} (h : p ∈ (mkCase l S R M).ps) : (mkCase l S R M).tld p = l.tldAt R M p := by
  have h2 := h
  show ((l.toldTo S R M l.events.length).lookup p).getD _ = _
  have h3 : p ∈ (List.range l.events.length).filter fun p => l.isAns p && !decide (p ∈ S) := by
    rw [← toldTo_keys l S R M]
    exact h2
  unfold LogD.toldTo
  rw [lookup_mapf _ p _ h3]
  rfl
theorem mem_lots {l : LogD} {S R : List Nat} {M : Option (List Nat)} {r : List Nat} (hr : r ∈ (mkCase l S R M).lots) : ∃ k, (k, r) ∈ rowsOf (l.toldTo S R M l.events.length) := by
  obtain ⟨q, hq, rfl⟩ := List.mem_map.mp hr
  exact ⟨q.1, hq⟩
/-- two answers stand in one lot exactly if .. -/
theorem in_lot {l : LogD} {S R : List Nat} {M : Option (List Nat)} {a b : Nat} : (∃ r ∈ (mkCase l S R M).lots, a ∈ r ∧ b ∈ r) ↔ a ∈ (mkCase l S R M).ps ∧ b ∈ (mkCase l S R M).ps ∧ l.evJ a = l.evJ b ∧ l.lotC R (l.evJ a) (a + 1) = l.lotC R (l.evJ b) (b + 1) := by
  have key : ∀ x ∈ (mkCase l S R M).ps, ∀ t ∈ l.toldTo S R M l.events.length, t.1 = x → (t.2.j, t.2.lot) = (l.evJ x, l.lotC R (l.evJ x) (x + 1)) := fun x hx t ht e => by
    unfold LogD.toldTo at ht
    obtain ⟨y, _, rfl⟩ := List.mem_map.mp ht
    have e : y = x := e
    subst e
    rfl
  constructor
  · rintro ⟨r, hr, ha, hb⟩
    obtain ⟨k, hk⟩ := mem_lots hr
    obtain ⟨t, ht, e1, e2⟩ := (mem_rowsOf _ k a).mp ⟨_, hk, rfl, ha⟩
    obtain ⟨u, hu, f1, f2⟩ := (mem_rowsOf _ k b).mp ⟨_, hk, rfl, hb⟩
    have pa : a ∈ (mkCase l S R M).ps := List.mem_map.mpr ⟨t, ht, e2⟩
    have pb : b ∈ (mkCase l S R M).ps := List.mem_map.mpr ⟨u, hu, f2⟩
    have h1 := key a pa t ht e2
    have h2 := key b pb u hu f2
    rw [e1] at h1
    rw [f1, h1] at h2
    obtain ⟨g1, g2⟩ := Prod.mk.inj h2
    exact ⟨pa, pb, g1, g2⟩
  · rintro ⟨pa, pb, h1, h2⟩
    obtain ⟨t, ht, e2⟩ := List.mem_map.mp pa
    obtain ⟨u, hu, f2⟩ := List.mem_map.mp pb
    obtain ⟨r, hr, g1, g2⟩ := (mem_rowsOf (l.toldTo S R M l.events.length) (l.evJ a, l.lotC R (l.evJ a) (a + 1)) a).mpr ⟨t, ht, key a pa t ht e2, e2⟩
    obtain ⟨r', hr', g1', g2'⟩ := (mem_rowsOf (l.toldTo S R M l.events.length) (l.evJ a, l.lotC R (l.evJ a) (a + 1)) b).mpr ⟨u, hu, (key b pb u hu f2).trans (by rw [h1, ← h2, h1]), f2⟩
    have hn := rowsOf_nd (l.toldTo S R M l.events.length)
    have e : r = r' := by
      have l1 := lookup_nd' hn hr
      have l2 := lookup_nd' hn hr'
      rw [g1] at l1
      rw [g1'] at l2
      rw [l1] at l2
      have h3 := Option.some.inj l2
      obtain ⟨r1, r2⟩ := r
      obtain ⟨r1', r2'⟩ := r'
      have g1 : r1 = _ := g1
      have g1' : r1' = _ := g1'
      have h3 : r2 = r2' := h3
      rw [g1, g1', h3]
    subst e
    exact ⟨r.2, List.mem_map.mpr ⟨r, hr, rfl⟩, g2, g2'⟩
theorem mk_ok {l : LogD} (h : l.Ok) (S R : List Nat) (M : Option (List Nat)) : (mkCase l S R M).Ok := by
  have hf := h.few
  have hlen := toldTo_len l S R M l.events.length
  have hrl := rowsOf_len (l.toldTo S R M l.events.length)
  have hrle := rowsOf_le (l.toldTo S R M l.events.length)
  have hrow : ∀ r ∈ (mkCase l S R M).lots, r.length ≤ ((rowsOf (l.toldTo S R M l.events.length)).flatMap Prod.snd).length := fun r hr => by
    obtain ⟨q, hq, rfl⟩ := List.mem_map.mp hr
    obtain ⟨a, b, e⟩ := List.append_of_mem hq
    rw [e, List.flatMap_append, List.flatMap_cons, List.length_append, List.length_append]
    omega
  refine ⟨?_, h.items.nd, Nat.le_trans h.items.hi (by decide), h.items.lo, ?_, ?_, fun r hr => ?_, fun r hr p hp => ?_, fun p hp => ?_, fun p hp => ?_, fun p hp => ?_, ?_⟩
  · show ((l.toldTo S R M l.events.length).map Prod.fst).Nodup
    rw [toldTo_keys]
    exact List.nodup_range.filter _
  · exact Nat.le_trans hlen (by omega)
  · show ((rowsOf (l.toldTo S R M l.events.length)).map Prod.snd).length ≤ 150
    rw [List.length_map]
    omega
  · have := hrow r hr
    omega
  · obtain ⟨k, hk⟩ := mem_lots hr
    obtain ⟨t, ht, _, e2⟩ := (mem_rowsOf _ k p).mp ⟨_, hk, rfl, hp⟩
    exact List.mem_map.mpr ⟨t, ht, e2⟩
  · rw [mk_tld hp]
    exact h.item (mk_ps.mp hp).1
  · rw [mk_tld hp]
    exact h.judge (mk_ps.mp hp).1
  · rw [mk_tld hp]
    exact h.names.each _ (h.judge (mk_ps.mp hp).1)
  · have e : ((mkCase l S R M).lots.flatMap id) = (rowsOf (l.toldTo S R M l.events.length)).flatMap Prod.snd := by
      show ((rowsOf (l.toldTo S R M l.events.length)).map Prod.snd).flatMap id = _
      rw [List.flatMap_map]
      rfl
    rw [e, hrl]
    omega
end Rb
set_option Elab.async false
set_option linter.all false
set_option maxRecDepth 100000
set_option maxHeartbeats 3200000
/-! Walks: a log's methods, further. -/
namespace Rb
open PySem PySem.Spec PyProof.Rows L2
section
variable {P : Program} {w : World} {K : PySem.W.Frag} {mg : Str → Option Value} {base : Heap} {CL CC : Addr}
abbrev M_drift_of (P : Program) (w : World) (K : PySem.W.Frag) (mg : Str → Option Value) (base : Heap) (CL : Addr) : Prop := Me P w K mg base 1 CL "drift_of" ["self", "judge"] (spN (fun a : LogD × Str => [pLog CL a.1, pS a.2]) (fun a => a.2 ∈ a.1.names) fun a => pS (a.1.driftOf a.2))
abbrev M_is_answer (P : Program) (w : World) (K : PySem.W.Frag) (mg : Str → Option Value) (base : Heap) (CL : Addr) : Prop := Me P w K mg base 1 CL "is_answer" ["self", "place"] (spN (fun a : LogD × Nat => [pLog CL a.1, pN a.2]) (fun a => True) fun a => pB (a.1.isAns a.2))
abbrev M_answers (P : Program) (w : World) (K : PySem.W.Frag) (mg : Str → Option Value) (base : Heap) (CL : Addr) : Prop := Me P w K mg base 2 CL "answers" ["self"] (spN (fun a : LogD => [pLog CL a]) (fun a => a.events.length ≤ 120) fun a => pNs a.answers)
abbrev M_answers_of (P : Program) (w : World) (K : PySem.W.Frag) (mg : Str → Option Value) (base : Heap) (CL : Addr) : Prop := Me P w K mg base 3 CL "answers_of" ["self", "judge"] (spN (fun a : LogD × Str => [pLog CL a.1, pS a.2]) (fun a => a.1.events.length ≤ 120 ∧ a.2 ∈ a.1.names) fun a => pNs (a.1.answersOf a.2))
abbrev M_answer_at (P : Program) (w : World) (K : PySem.W.Frag) (mg : Str → Option Value) (base : Heap) (CL : Addr) : Prop := Me P w K mg base 2 CL "answer_at" ["self", "place"] (spN (fun a : LogD × Nat => [pLog CL a.1, pN a.2]) (fun a => a.1.isAns a.2 = true) fun a => pT [pS "answer", pS (a.1.evJ a.2), pS (a.1.itemAt a.2), pN (a.1.gradeAt a.2)])
abbrev M_judge_at (P : Program) (w : World) (K : PySem.W.Frag) (mg : Str → Option Value) (base : Heap) (CL : Addr) : Prop := Me P w K mg base 3 CL "judge_at" ["self", "place"] (spN (fun a : LogD × Nat => [pLog CL a.1, pN a.2]) (fun a => a.1.isAns a.2 = true) fun a => pS (a.1.evJ a.2))
abbrev M_item_at (P : Program) (w : World) (K : PySem.W.Frag) (mg : Str → Option Value) (base : Heap) (CL : Addr) : Prop := Me P w K mg base 3 CL "item_at" ["self", "place"] (spN (fun a : LogD × Nat => [pLog CL a.1, pN a.2]) (fun a => a.1.isAns a.2 = true) fun a => pS (a.1.itemAt a.2))
abbrev M_grade_at (P : Program) (w : World) (K : PySem.W.Frag) (mg : Str → Option Value) (base : Heap) (CL : Addr) : Prop := Me P w K mg base 3 CL "grade_at" ["self", "place"] (spN (fun a : LogD × Nat => [pLog CL a.1, pN a.2]) (fun a => a.1.isAns a.2 = true) fun a => pN (a.1.gradeAt a.2))
abbrev M_span_at (P : Program) (w : World) (K : PySem.W.Frag) (mg : Str → Option Value) (base : Heap) (CL : Addr) : Prop := Me P w K mg base 1 CL "span_at" ["self", "judge", "place"] (spN (fun a : LogD × Str × Nat => [pLog CL a.1, pS a.2.1, pN a.2.2]) (fun a => a.1.Ok ∧ a.2.1 ∈ a.1.names) fun a => pT [pN (a.1.spanAt a.2.1 a.2.2).1, pN (a.1.spanAt a.2.1 a.2.2).2])
abbrev M_stretch_at (P : Program) (w : World) (K : PySem.W.Frag) (mg : Str → Option Value) (base : Heap) (CL : Addr) : Prop := Me P w K mg base 4 CL "stretch_at" ["self", "judge", "place"] (spN (fun a : LogD × Str × Nat => [pLog CL a.1, pS a.2.1, pN a.2.2]) (fun a => a.1.Ok ∧ a.2.1 ∈ a.1.names ∧ a.2.2 ≤ a.1.events.length) fun a => pNs (a.1.stretchAt a.2.1 a.2.2))
abbrev M_stretch_of (P : Program) (w : World) (K : PySem.W.Frag) (mg : Str → Option Value) (base : Heap) (CL : Addr) : Prop := Me P w K mg base 5 CL "stretch_of" ["self", "place"] (spN (fun a : LogD × Nat => [pLog CL a.1, pN a.2]) (fun a => a.1.Ok ∧ a.1.isAns a.2 = true) fun a => pNs (a.1.stretchOf a.2))
abbrev M_stretches (P : Program) (w : World) (K : PySem.W.Frag) (mg : Str → Option Value) (base : Heap) (CL : Addr) : Prop := Me P w K mg base 6 CL "stretches" ["self", "judge"] (spN (fun a : LogD × Str => [pLog CL a.1, pS a.2]) (fun a => a.1.Ok ∧ a.2 ∈ a.1.names) fun a => pL ((a.1.stretches a.2).map pNs))
abbrev s_Log_answers_of : Stmt := inClass (topS 26) 8
theorem sc_Log_answers_of : FnScope ["self", "judge", "place"] ["self", "judge"] (defScope s_Log_answers_of) := ⟨rfl, rfl, rfl, by decide +kernel, rfl, by decide +kernel, by decide +kernel⟩
abbrev n_Log_answers_of : List Str := ["self", "judge", "place"]
theorem w_answers_of (Z : Bz K mg CL CC) (D : Dm K CL "answers_of" "Log.answers_of" s_Log_answers_of) (m_Log_drift_of : M_drift_of P w K mg base CL) (m_Log_answers : M_answers P w K mg base CL) : M_answers_of P w K mg base CL :=
  me_mk (k := 2) D sc_Log_answers_of (fun _ => rfl) (bnd2 fun _ _ _ _ _ _ _ _ => rfl) fun f cdv A outer s H1 vs Q E a H hr e hp h q => by
    have sc := sc_Log_answers_of
    obtain ⟨l, j⟩ := a
    obtain ⟨v, v2, rfl, rv, ev⟩ := all2 h
    refine ⟨_, (pss_cons (ps_expr (pe_me m_Log_drift_of Z.c_Log hr (by decide) (pv 0) (pa_cons (pv 1) pa_nil)))
    (pss_one (ps_ret (pe_lc (own := [("place", 2)]) (g := (gName 2)) rfl sc.nd (piList K (pe_me0 m_Log_answers Z.c_Log hr (by decide) (pv 0))) (blkOk_by (N := n_Log_answers_of) (sc := defScope s_Log_answers_of) (by decide +kernel)) (fun _ _ _ _ _ => (pg_name (i := 2) sc.nd rfl (by first | exact Or.inl rfl | exact Or.inr rfl))) (fun _ _ _ _ _ => pts_one (pt_cmpR op_eq (pe_ix (ixT K) (pe_ix (ixL K) (peFld K (pv 0) rfl) (pv 2) (fun _ _ => rfl)) pe_int (fun _ _ => rfl)) (pv 1) (nomark _))) (fun _ _ _ _ _ => (pv 2)))))), ?_⟩
    refine q_drop e (ev_meth (as := [pS j]) (l, j) (ev_var rv) (log_ins rfl) (ea_one (ev_var ev)) rfl hp.2) fun H' H2 s => ?_
    refine s_ret s.b ?_ (q.go s)
    have rv2 := (pLog CL l).mono s.a rv
    have hz := l.answers_len
    have hz2 : l.events.length ≤ 120 := hp.1
    refine ev_lc (f := pN) (h := pN) (t := fun p => decide (l.evJ p = j)) (as := l.answers) (ei_list (ev_meth (as := []) l (ev_var rv2) (log_ins rfl) ea_nil rfl hp.1)) (by omega) fun n u G hn eG ru => ⟨_, bnd_name, rfl, ?_, fun _ => ev_var ru⟩
    have hq := get_map (f := pEv) (LogD.isAns_ev (LogD.mem_answers.mp hn))
    refine (et_test (ev_eq (ev_ixT' (n := 1) (ev_ixL (p := pT [pS "answer", pS (l.evJ n), pS (l.itemAt n), pN (l.gradeAt n)]) (ev_l_events Z (ev_var ((pLog CL l).mono eG rv2))) (ev_var ru) hq) rfl rfl) (ev_var ((pS j).mono (s.a.trans eG) ev)) rfl)).eq ?_
    simp
abbrev s_Log_answer_at : Stmt := inClass (topS 26) 9
theorem sc_Log_answer_at : FnScope ["self", "place"] ["self", "place"] (defScope s_Log_answer_at) := ⟨rfl, rfl, rfl, by decide +kernel, rfl, by decide +kernel, by decide +kernel⟩
abbrev n_Log_answer_at : List Str := ["self", "place"]
theorem w_answer_at (Z : Bz K mg CL CC) (D : Dm K CL "answer_at" "Log.answer_at" s_Log_answer_at) (m_Log_is_answer : M_is_answer P w K mg base CL) : M_answer_at P w K mg base CL :=
  me_mk (k := 1) D sc_Log_answer_at (fun _ => rfl) (bnd2 fun _ _ _ _ _ _ _ _ => rfl) fun f cdv A outer s H1 vs Q E a H hr e hp h q => by
    have sc := sc_Log_answer_at
    obtain ⟨l, p⟩ := a
    obtain ⟨v, v2, rfl, rv, ev⟩ := all2 h
    have hp : l.isAns p = true := hp
    refine ⟨_, (pss_cons (ps_if (pt_not (pt_val (pe_me m_Log_is_answer Z.c_Log hr (by decide) (pv 0) (pa_cons (pv 1) pa_nil)))) pss_never pss_nil)
    (pss_one (ps_ret (pe_ix (ixL K) (peFld K (pv 0) rfl) (pv 1) (fun _ _ => rfl))))), ?_⟩
    refine q_ifN e ((et_not (et_B (ev_meth (as := [pN p]) (l, p) (ev_var rv) (log_ins rfl) (ea_one (ev_var ev)) rfl True.intro))).eq (by rw [hp] <;> rfl)) fun H2 e2 => ?_
    exact s_ret (e.trans e2) (ev_ixL (ev_l_events Z (ev_var rv)) (ev_var ev) (get_map (f := pEv) (LogD.isAns_ev hp))) (q.ext e2)
abbrev s_Log_judge_at : Stmt := inClass (topS 26) 10
theorem sc_Log_judge_at : FnScope ["self", "place"] ["self", "place"] (defScope s_Log_judge_at) := ⟨rfl, rfl, rfl, by decide +kernel, rfl, by decide +kernel, by decide +kernel⟩
abbrev n_Log_judge_at : List Str := ["self", "place"]
theorem w_judge_at (Z : Bz K mg CL CC) (D : Dm K CL "judge_at" "Log.judge_at" s_Log_judge_at) (m_Log_answer_at : M_answer_at P w K mg base CL) : M_judge_at P w K mg base CL :=
  me_mk (k := 2) D sc_Log_judge_at (fun _ => rfl) (bnd2 fun _ _ _ _ _ _ _ _ => rfl) fun f cdv A outer s H1 vs Q E a H hr e hp h q => by
    have sc := sc_Log_judge_at
    obtain ⟨l, p⟩ := a
    obtain ⟨v, v2, rfl, rv, ev⟩ := all2 h
    exact ⟨_, (pss_one (ps_ret (pe_ix (ixT K) (pe_me m_Log_answer_at Z.c_Log hr (by decide) (pv 0) (pa_cons (pv 1) pa_nil)) pe_int (fun _ _ => rfl)))), s_ret e (ev_ixT' (n := 1) (ev_meth (as := [pN p]) (l, p) (ev_var rv) (log_ins rfl) (ea_one (ev_var ev)) rfl hp) rfl rfl) q⟩
abbrev s_Log_item_at : Stmt := inClass (topS 26) 11
theorem sc_Log_item_at : FnScope ["self", "place"] ["self", "place"] (defScope s_Log_item_at) := ⟨rfl, rfl, rfl, by decide +kernel, rfl, by decide +kernel, by decide +kernel⟩
abbrev n_Log_item_at : List Str := ["self", "place"]
theorem w_item_at (Z : Bz K mg CL CC) (D : Dm K CL "item_at" "Log.item_at" s_Log_item_at) (m_Log_answer_at : M_answer_at P w K mg base CL) : M_item_at P w K mg base CL :=
  me_mk (k := 2) D sc_Log_item_at (fun _ => rfl) (bnd2 fun _ _ _ _ _ _ _ _ => rfl) fun f cdv A outer s H1 vs Q E a H hr e hp h q => by
    have sc := sc_Log_item_at
    obtain ⟨l, p⟩ := a
    obtain ⟨v, v2, rfl, rv, ev⟩ := all2 h
    exact ⟨_, (pss_one (ps_ret (pe_ix (ixT K) (pe_me m_Log_answer_at Z.c_Log hr (by decide) (pv 0) (pa_cons (pv 1) pa_nil)) pe_int (fun _ _ => rfl)))), s_ret e (ev_ixT' (n := 2) (ev_meth (as := [pN p]) (l, p) (ev_var rv) (log_ins rfl) (ea_one (ev_var ev)) rfl hp) rfl rfl) q⟩
abbrev s_Log_grade_at : Stmt := inClass (topS 26) 12
theorem sc_Log_grade_at : FnScope ["self", "place"] ["self", "place"] (defScope s_Log_grade_at) := ⟨rfl, rfl, rfl, by decide +kernel, rfl, by decide +kernel, by decide +kernel⟩
abbrev n_Log_grade_at : List Str := ["self", "place"]
theorem w_grade_at (Z : Bz K mg CL CC) (D : Dm K CL "grade_at" "Log.grade_at" s_Log_grade_at) (m_Log_answer_at : M_answer_at P w K mg base CL) : M_grade_at P w K mg base CL :=
  me_mk (k := 2) D sc_Log_grade_at (fun _ => rfl) (bnd2 fun _ _ _ _ _ _ _ _ => rfl) fun f cdv A outer s H1 vs Q E a H hr e hp h q => by
    have sc := sc_Log_grade_at
    obtain ⟨l, p⟩ := a
    obtain ⟨v, v2, rfl, rv, ev⟩ := all2 h
    exact ⟨_, (pss_one (ps_ret (pe_ix (ixT K) (pe_me m_Log_answer_at Z.c_Log hr (by decide) (pv 0) (pa_cons (pv 1) pa_nil)) pe_int (fun _ _ => rfl)))), s_ret e (ev_ixT' (n := 3) (ev_meth (as := [pN p]) (l, p) (ev_var rv) (log_ins rfl) (ea_one (ev_var ev)) rfl hp) rfl rfl) q⟩
/-- an event's data -/
def evDat : EvD → PyData
  | .ans j i g => .tuple [.str "answer", .str j, .str i, .int g]
  | .res j => .tuple [.str "reset", .str j]
theorem dpEv (ev : EvD) : DpP K (pEv ev) (evDat ev) := by
  cases ev with
  | res j => exact dpT2 (dpS _) (dpS _)
  | ans j i g =>
    intro H v h
    obtain ⟨a, xs, e1, ha, hx⟩ : (pT [pS "answer", pS j, pS i, pN g]).p H v := h
    obtain ⟨u1, u2, u3, u4, rfl, r1, r2, r3, r4⟩ := all4 hx
    subst e1
    exact .tup (SqT.of ha) (.cons (dpS _ _ _ r1) (.cons (dpS _ _ _ r2) (.cons (dpS _ _ _ r3) (.cons (dpN _ _ _ r4) .nil))))
theorem evDat_eqv (ev : EvD) (j : Str) : PyData.eqv (evDat ev) (.tuple [.str "reset", .str j]) = decide (ev = .res j) := by
  cases ev with
  | res i =>
    have e : PyData.eqv (evDat (.res i)) (.tuple [.str "reset", .str j]) = ((("reset" : Str) == ("reset" : Str)) && ((i == j) && true)) := by simp only [evDat, PyData.eqv, PyData.eqvAll]
    rw [e]
    by_cases h : i = j
    · subst h
      simp
    · have h2 : ¬ (EvD.res i = EvD.res j) := fun z => h (by cases z; rfl)
      simp [h, h2]
  | ans a b c =>
    have e : PyData.eqv (evDat (.ans a b c)) (.tuple [.str "reset", .str j]) = false := by
      simp [evDat, PyData.eqv, PyData.eqvAll]
    rw [e]
    simp
theorem NameOk.ok {x : Str} (h : NameOk x) : PyData.strOk x = true := by
  show x.cps.all (fun c => decide (c < 0x110000)) = true
  rw [← Array.all_toList, List.all_eq_true]
  intro c hc
  have h1 := h.signs c hc
  have h2 : ∀ d ∈ ("abcdefghijklmnopqrstuvwxyz0123456789" : Str).cps.toList, d < 0x110000 := by decide +kernel
  exact decide_eq_true (h2 c h1)
theorem evDat_shaped {l : LogD} (hl : l.Ok) {ev : EvD} (h : l.EvOk ev) : SeqAt.shaped (evDat ev) = true := by
  have r1 : PyData.strOk "answer" = true := by decide +kernel
  have r2 : PyData.strOk "reset" = true := by decide +kernel
  cases ev with
  | res j =>
    have h : j ∈ l.names := h
    have e := (hl.names.each j h).ok
    simp [SeqAt.shaped, evDat, PyData.canLay0, PyData.canLayAll0, PyData.depth, PyData.depthAll, r2, e]
  | ans j i g =>
    have h : j ∈ l.names ∧ i ∈ l.items ∧ g ≤ l.grades := h
    have e := (hl.names.each j h.1).ok
    have e2 := (hl.items.each i h.2.1).ok
    simp [SeqAt.shaped, evDat, PyData.canLay0, PyData.canLayAll0, PyData.depth, PyData.depthAll, r1, e, e2]
theorem resDat_shaped {j : Str} (h : NameOk j) : SeqAt.shaped (.tuple [.str "reset", .str j]) = true := by
  have r2 : PyData.strOk "reset" = true := by decide +kernel
  simp [SeqAt.shaped, PyData.canLay0, PyData.canLayAll0, PyData.depth, PyData.depthAll, r2, h.ok]
theorem enum_range (es : List EvD) : ((es.map pEv).mapIdx fun i p => pT [pN i, p]) = (List.range es.length).map fun i => pT [pN i, pEv (es.getD i (.res Str.empty))] := by
  apply List.ext_getElem?
  intro i
  rw [List.getElem?_mapIdx, List.getElem?_map, List.getElem?_map]
  by_cases h : i < es.length
  · have eD : es.getD i (.res Str.empty) = es[i] := by rw [List.getD_eq_getElem?_getD, List.getElem?_eq_getElem h] <;> rfl
    rw [List.getElem?_eq_getElem h, List.getElem?_range h]
    show some (pT [pN i, pEv es[i]]) = some (pT [pN i, pEv (es.getD i (.res Str.empty))])
    rw [eD]
  · rw [List.getElem?_eq_none (by omega), List.getElem?_eq_none (by rw [List.length_range]; omega)]
    rfl
abbrev s_Log_span_at : Stmt := inClass (topS 26) 13
theorem sc_Log_span_at : FnScope ["self", "judge", "place", "resets", "at", "event", "first"] ["self", "judge", "place"] (defScope s_Log_span_at) := ⟨rfl, rfl, rfl, by decide +kernel, rfl, by decide +kernel, by decide +kernel⟩
abbrev n_Log_span_at : List Str := ["self", "judge", "place", "resets", "at", "event", "first"]
theorem w_span_at (Z : Bz K mg CL CC) (D : Dm K CL "span_at" "Log.span_at" s_Log_span_at) : M_span_at P w K mg base CL :=
  me_mk (k := 0) D sc_Log_span_at (fun _ => rfl) (bnd3 fun _ _ _ _ _ _ _ _ _ => rfl) fun f cdv A outer s H1 vs Q E a H hr e hp h q => by
    have sc := sc_Log_span_at
    obtain ⟨l, j, p⟩ := a
    obtain ⟨v, v2, v3, rfl, rv, ev, ep⟩ := all3 h
    obtain ⟨hl, hj⟩ : l.Ok ∧ j ∈ l.names := hp
    have hf := hl.few
    have hz := l.resets_len j
    have hz1 : ((l.resets j).filter fun a => decide (a < p)).length ≤ l.events.length := Nat.le_trans (List.length_filter_le _ _) hz
    refine ⟨_, (pss_cons (ps_setLc (i := 3) (own := [("at", 4), ("event", 5)]) (g := (gTup K 2 (gCons (gName 4) (gCons (gName 5) gNil)))) rfl sc.nd rfl rfl (sw_true rfl rfl rfl (by decide +kernel)) (piEnum K (by rfl) Z.enumerate (pa_cons (peFld K (pv 0) rfl) pa_nil)) (blkOk_by (N := n_Log_span_at) (sc := defScope s_Log_span_at) (by decide +kernel)) (fun _ _ _ _ _ => (pgTup K rfl (pgs_cons (pg_name (i := 4) sc.nd rfl (by first | exact Or.inl rfl | exact Or.inr rfl)) (pgs_cons (pg_name (i := 5) sc.nd rfl (by first | exact Or.inl rfl | exact Or.inr rfl)) pgs_nil)))) (fun _ _ _ _ _ => pts_one (pt_cmpR (opEqD K hr.units) (pv 5) (pe_tup (pa_cons (pe_gs rfl Z.RESET) (pa_cons (pv 1) pa_nil))) (nomark _))) (fun _ _ _ _ _ => (pv 4)))
    (pss_cons (ps_set (i := 6) sc.nd rfl (Or.inl rfl) (pe_callBK (crMaxDef K hr.hd hr.units) (by rfl) Z.max (by decide +kernel) (pa_cons (pe_lc (own := [("at", 4)]) (g := (gName 4)) rfl sc.nd (piList K (pv 3)) (blkOk_by (N := n_Log_span_at) (sc := defScope s_Log_span_at) (by decide +kernel)) (fun _ _ _ _ _ => (pg_name (i := 4) sc.nd rfl (by first | exact Or.inl rfl | exact Or.inr rfl))) (fun _ _ _ _ _ => pts_one (pt_cmpR op_lt (pv 4) (pv 2) (nomark _))) (fun _ _ _ _ _ => (pe_op op_add (pv 4) pe_int))) pa_nil) (pk_cons pe_int pk_nil)))
    (pss_one (ps_ret (pe_tup (pa_cons (pv 6) (pa_cons (pe_callBK (crMinDef K hr.hd hr.units) (by rfl) Z.min (by decide +kernel) (pa_cons (pe_lc (own := [("at", 4)]) (g := (gName 4)) rfl sc.nd (piList K (pv 3)) (blkOk_by (N := n_Log_span_at) (sc := defScope s_Log_span_at) (by decide +kernel)) (fun _ _ _ _ _ => (pg_name (i := 4) sc.nd rfl (by first | exact Or.inl rfl | exact Or.inr rfl))) (fun _ _ _ _ _ => pts_one (pt_cmpR op_ge (pv 4) (pv 2) (nomark _))) (fun _ _ _ _ _ => (pv 4))) pa_nil) (pk_cons (pe_callB (cLen K) (by rfl) Z.len PySem.boot_len (pa_cons (peFld K (pv 0) rfl) pa_nil)) pk_nil)) pa_nil))))))), ?_⟩
    refine q_asg e (R := pNs (l.resets j)) ?_ fun vr G1 A1 s1 rr => ?_
    · have hi := ei_enum (K := K) (ea_one (ev_l_events (σ := start n_Log_span_at [v, v2, v3]) Z (ev_var (i := 0) rv)))
      rw [enum_range] at hi
      refine ev_lc (f := fun i => pT [pN i, pEv (l.events.getD i (.res Str.empty))]) (h := pN) (t := fun p => decide (l.events[p]? = some (.res j))) hi (by rw [List.length_range]; omega) fun n u G hn eG ru => ?_
      obtain ⟨x, y, r1, r2, hb⟩ := bnd_pair (K := K) (i := 4) (j := 5) ru
      have hn : n < l.events.length := List.mem_range.mp hn
      have eD : l.events.getD n (.res Str.empty) = l.events[n] := by rw [List.getD_eq_getElem?_getD, List.getElem?_eq_getElem hn] <;> rfl
      rw [eD] at r2
      refine ⟨_, hb, rfl, ?_, fun _ => ev_var r1⟩
      refine (et_test (ev_eqD (ev_var r2) (ev_tup (ea_cons ev_c (ea_one (ev_var ((pS j).mono eG ev))))) (dpEv _) (dpT2 (dpS _) (dpS _)) (evDat_shaped hl (hl.evs _ (List.getElem_mem hn))) (resDat_shaped (hl.names.each j hj)))).eq ?_
      rw [evDat_eqv, List.getElem?_eq_getElem hn]
      simp
    · have rv2 := (pLog CL l).mono s1.a rv
      have ep2 := (pN p).mono s1.a ep
      refine q_asgV (v := .int (l.spanAt j p).1) s1.b ?_ fun A2 e3 e4 => ?_
      · refine ev_maxDef (ns := ((l.resets j).filter fun a => decide (a < p)).map (· + 1)) (d := 0) ?_ ev_c
        have hh : Ev _ _ G1 (pL (((l.resets j).filter fun a => decide (a < p)).map fun a => pN (a + 1))) := ev_lc (f := pN) (h := fun a => pN (a + 1)) (t := fun a => decide (a < p)) (as := l.resets j) (te := tOp (rI0 fun i j => .int (i + j)) (tVar 4) (tC (.int 1))) (tt := tTest (tOp (rI0 fun i j => .bl (decide (i < j))) (tVar 4) (tVar 2))) (vs := [4]) (g := gName 4) (σ := [some v, some v2, some v3, some vr, none, none, none]) (ei_list (K := K) (te := tVar 3) (ev_var rr)) (by omega) fun n u G hn eG ru => ⟨_, bnd_name, rfl, (et_test (ev_I0 (ev_var ru) (ev_var ((pN p).mono eG ep2)))).eq (by simp), fun _ => ev_I0 (ev_var ru) ev_c⟩
        show Ev _ _ G1 (pL ((((l.resets j).filter fun a => decide (a < p)).map (· + 1)).map pN))
        rw [List.map_map]
        exact hh
      · refine s_ret (s1.b.trans e4) ?_ ((q.go s1).ext e4)
        refine ev_tup (ea_cons (ev_var rfl) (ea_one (ev_minDef (ns := (l.resets j).filter fun a => decide (p ≤ a)) (d := l.events.length) ?_ ((ev_len (ev_l_events Z (ev_var rv2))).eq (by simp)))))
        exact ev_lc (f := pN) (h := pN) (t := fun a => decide (p ≤ a)) (as := l.resets j) (ei_list (ev_var rr)) (by omega) fun n u G hn eG ru => ⟨_, bnd_name, rfl, (et_test (ev_I0 (ev_var ru) (ev_var ((pN p).mono eG ep2)))).eq (by simp), fun _ => ev_var ru⟩
abbrev s_Log_stretch_at : Stmt := inClass (topS 26) 14
theorem sc_Log_stretch_at : FnScope ["self", "judge", "place", "answers", "first", "last", "at"] ["self", "judge", "place"] (defScope s_Log_stretch_at) := ⟨rfl, rfl, rfl, by decide +kernel, rfl, by decide +kernel, by decide +kernel⟩
abbrev n_Log_stretch_at : List Str := ["self", "judge", "place", "answers", "first", "last", "at"]
theorem w_stretch_at (Z : Bz K mg CL CC) (D : Dm K CL "stretch_at" "Log.stretch_at" s_Log_stretch_at) (m_Log_answers_of : M_answers_of P w K mg base CL) (m_Log_span_at : M_span_at P w K mg base CL) : M_stretch_at P w K mg base CL :=
  me_mk (k := 3) D sc_Log_stretch_at (fun _ => rfl) (bnd3 fun _ _ _ _ _ _ _ _ _ => rfl) fun f cdv A outer s H1 vs Q E a H hr e hp h q => by
    have sc := sc_Log_stretch_at
    obtain ⟨l, j, p⟩ := a
    obtain ⟨v, v2, v3, rfl, rv, ev, ep⟩ := all3 h
    obtain ⟨hl, hj, hpn⟩ : l.Ok ∧ j ∈ l.names ∧ p ≤ l.events.length := hp
    have hf := hl.few
    have hz := l.answersOf_len j
    refine ⟨_, (pss_cons (ps_set (i := 3) sc.nd rfl (Or.inl rfl) (pe_me m_Log_answers_of Z.c_Log hr (by decide) (pv 0) (pa_cons (pv 1) pa_nil)))
    (pss_cons (ps_if (pt_not (pt_chain op_le op_le pe_int (pv 2) (pe_callB (cLen K) (by rfl) Z.len PySem.boot_len (pa_cons (peFld K (pv 0) rfl) pa_nil)))) pss_never pss_nil)
    (pss_cons (ps_asg (pe_me m_Log_span_at Z.c_Log hr (by decide) (pv 0) (pa_cons (pv 1) (pa_cons (pv 2) pa_nil))) (pgTup K rfl (pgs_cons (pg_name (i := 4) sc.nd rfl (by first | exact Or.inl rfl | exact Or.inr rfl)) (pgs_cons (pg_name (i := 5) sc.nd rfl (by first | exact Or.inl rfl | exact Or.inr rfl)) pgs_nil))))
    (pss_one (ps_ret (pe_lc (own := [("at", 6)]) (g := (gName 6)) rfl sc.nd (piList K (pv 3)) (blkOk_by (N := n_Log_stretch_at) (sc := defScope s_Log_stretch_at) (by decide +kernel)) (fun _ _ _ _ _ => (pg_name (i := 6) sc.nd rfl (by first | exact Or.inl rfl | exact Or.inr rfl))) (fun _ _ _ _ _ => pts_one (pt_chain op_le op_lt (pv 4) (pv 6) (pv 5))) (fun _ _ _ _ _ => (pv 6)))))))), ?_⟩
    refine q_asg e (ev_meth (as := [pS j]) (l, j) (ev_var rv) (log_ins rfl) (ea_one (ev_var ev)) rfl ⟨hf, hj⟩) fun va G1 A1 s1 ra => ?_
    have rv2 := (pLog CL l).mono s1.a rv
    have ep2 := (pN p).mono s1.a ep
    have ev2 := (pS j).mono s1.a ev
    refine q_ifN s1.b ((et_not (et_test (ev_chain (i := 0) (j := (p : Int)) (m := (l.events.length : Int)) ev_c (ev_var ep2) ((ev_len (ev_l_events Z (ev_var rv2))).eq (by simp))))).eq ?_) fun A2 e2 => ?_
    · have e1 : (decide ((0 : Int) ≤ (p : Int)) && decide ((p : Int) ≤ (l.events.length : Int))) = true := by
        rw [Bool.and_eq_true, decide_eq_true_eq, decide_eq_true_eq]
        omega
      rw [e1]
      rfl
    · refine q_asgG (s1.b.trans e2) (ev_meth (as := [pS j, pN p]) (l, j, p) (ev_var rv2) (log_ins rfl) (ea_cons (ev_var ev2) (ea_one (ev_var ep2))) rfl ⟨hl, hj⟩) fun u G2 A3 s3 r3 => ?_
      obtain ⟨x, y, r1, r2, hb⟩ := bnd_pair (K := K) (i := 4) (j := 5) r3
      refine ⟨_, hb, ?_⟩
      refine s_ret s3.b ?_ (((q.go s1).ext e2).go s3)
      have ra2 := (pNs (l.answersOf j)).mono s3.a ra
      refine ev_lc (f := pN) (h := pN) (t := fun a => decide ((l.spanAt j p).1 ≤ a) && decide (a < (l.spanAt j p).2)) (as := l.answersOf j) (ei_list (ev_var ra2)) (by omega) fun n u G hn eG ru => ⟨_, bnd_name, rfl, (et_test (ev_chain (ev_var ((pN _).mono eG r1)) (ev_var ru) (ev_var ((pN _).mono eG r2)))).eq ?_, fun _ => ev_var ru⟩
      simp
abbrev s_Log_stretch_of : Stmt := inClass (topS 26) 15
theorem sc_Log_stretch_of : FnScope ["self", "place"] ["self", "place"] (defScope s_Log_stretch_of) := ⟨rfl, rfl, rfl, by decide +kernel, rfl, by decide +kernel, by decide +kernel⟩
abbrev n_Log_stretch_of : List Str := ["self", "place"]
theorem w_stretch_of (Z : Bz K mg CL CC) (D : Dm K CL "stretch_of" "Log.stretch_of" s_Log_stretch_of) (m_Log_stretch_at : M_stretch_at P w K mg base CL) (m_Log_judge_at : M_judge_at P w K mg base CL) : M_stretch_of P w K mg base CL :=
  me_mk (k := 4) D sc_Log_stretch_of (fun _ => rfl) (bnd2 fun _ _ _ _ _ _ _ _ => rfl) fun f cdv A outer s H1 vs Q E a H hr e hp h q => by
    have sc := sc_Log_stretch_of
    obtain ⟨l, p⟩ := a
    obtain ⟨v, v2, rfl, rv, ev⟩ := all2 h
    obtain ⟨hl, hpa⟩ : l.Ok ∧ l.isAns p = true := hp
    exact ⟨_, (pss_one (ps_ret (pe_me m_Log_stretch_at Z.c_Log hr (by decide) (pv 0) (pa_cons (pe_me m_Log_judge_at Z.c_Log hr (by decide) (pv 0) (pa_cons (pv 1) pa_nil)) (pa_cons (pv 1) pa_nil))))), s_ret e (ev_meth (as := [pS (l.evJ p), pN p]) (l, l.evJ p, p) (ev_var rv) (log_ins rfl) (ea_cons (ev_meth (as := [pN p]) (l, p) (ev_var rv) (log_ins rfl) (ea_one (ev_var ev)) rfl hpa) (ea_one (ev_var ev))) rfl ⟨hl, hl.judge hpa, Nat.le_of_lt (LogD.ev_lt (LogD.isAns_ev hpa))⟩) q⟩
end
end Rb
set_option Elab.async false
set_option linter.all false
set_option maxRecDepth 100000
set_option maxHeartbeats 3200000
/-! Walks: stretches; checks. -/
namespace Rb
open PySem PySem.Spec PyProof.Rows L2
section
variable {P : Program} {w : World} {K : PySem.W.Frag} {mg : Str → Option Value} {base : Heap} {CL CC : Addr}
theorem ev_neg1 {σ : L2.St} {H : Hp} : Ev (tUn (rU fun i => .int (-i)) (tC (.int 1))) σ H (pI (-1)) := fun H1 e Q q => ⟨1, rfl, q.val (Sep.refl e)⟩
theorem ev_ixLast {σ : L2.St} {H : Hp} {ta tb : TE} {ps : List Pr} {p : Pr} (h : Ev ta σ H (pL (ps ++ [p]))) (hb : Ev tb σ H (pI (-1))) : Ev (tOp (rIxL K) ta tb) σ H p :=
  ev_op h hb fun H' v w _ ⟨a, xs, ev, ha, hx⟩ ey H1 e Q q => by
    have ey : w = .int (-1) := ey
    subst ev ey
    have hl := hx.length
    rw [List.length_append, List.length_singleton] at hl
    obtain ⟨ys, z, rfl⟩ : ∃ ys z, xs = ys ++ [z] := by
      rcases List.eq_nil_or_concat xs with e1 | ⟨ys, z, e1⟩
      · rw [e1] at hl
        simp at hl
      · exact ⟨ys, z, by rw [e1, List.concat_eq_append]⟩
    have hyl : ys.length = ps.length := by simpa using hl
    have r := hx.at (i := ps.length) (p := p) (v := z) (by simp) (by rw [← hyl]; simp)
    exact ⟨a, _, -1, z, rfl, rfl, SqL.of (e _ _ ha), atI_last ys z, q z H' H1 (Sep.refl e) r⟩
theorem LogD.stretches_take (l : LogD) (xs : List Nat) (i : Nat) (p : Nat) (h : xs[i]? = some p) : (xs.take (i + 1)).foldl l.stStep [] = l.stStep ((xs.take i).foldl l.stStep []) p := by
  have hi : i < xs.length := (List.getElem?_eq_some_iff.mp h).1
  have e : xs[i] = p := (List.getElem?_eq_some_iff.mp h).2
  rw [List.take_succ_eq_append_getElem hi, List.foldl_append, e]
  rfl
theorem LogD.stFold_len (l : LogD) : ∀ (xs : List Nat) (acc : List (List Nat)), (xs.foldl l.stStep acc).length ≤ acc.length + xs.length
  | [], acc => by simp
  | x :: xs, acc => by
    have h := LogD.stFold_len l xs (l.stStep acc x)
    have h2 : (l.stStep acc x).length ≤ acc.length + 1 := by
      unfold LogD.stStep
      split
      · simp
      · omega
    rw [List.foldl_cons, List.length_cons]
    omega
abbrev s_Log_stretches : Stmt := inClass (topS 26) 16
theorem sc_Log_stretches : FnScope ["self", "judge", "found", "place"] ["self", "judge"] (defScope s_Log_stretches) := ⟨rfl, rfl, rfl, by decide +kernel, rfl, by decide +kernel, by decide +kernel⟩
abbrev n_Log_stretches : List Str := ["self", "judge", "found", "place"]
theorem w_stretches (Z : Bz K mg CL CC) (D : Dm K CL "stretches" "Log.stretches" s_Log_stretches) (m_Log_answers_of : M_answers_of P w K mg base CL) (m_Log_stretch_of : M_stretch_of P w K mg base CL) : M_stretches P w K mg base CL :=
  me_mk (k := 5) D sc_Log_stretches (fun _ => rfl) (bnd2 fun _ _ _ _ _ _ _ _ => rfl) fun f cdv A outer s H1 vs Q E a H hr e hp h q => by
    have sc := sc_Log_stretches
    obtain ⟨l, j⟩ := a
    obtain ⟨v, v2, rfl, rv, ev⟩ := all2 h
    obtain ⟨hl, hj⟩ : l.Ok ∧ j ∈ l.names := hp
    have hf := hl.few
    have hz := l.answersOf_len j
    refine ⟨_, (pss_cons (ps_set (i := 2) sc.nd rfl (Or.inl rfl) (pe_lst pa_nil))
    (pss_cons (ps_for PassesOwn.never rfl (piList K (pe_me m_Log_answers_of Z.c_Log hr (by decide) (pv 0) (pa_cons (pv 1) pa_nil))) (pg_name (i := 3) sc.nd rfl (by first | exact Or.inl rfl | exact Or.inr rfl)) (pss_one (ps_if (PW.pt (pw_or (pt_cmpR op_eq (pe_callB (cLen K) (by rfl) Z.len PySem.boot_len (pa_cons (pv 2) pa_nil)) pe_int (nomark _)) (pw_or1 (pt_cmpR (opNin K) (pv 3) (pe_ix (ixL K) (pv 2) (pe_un un_neg pe_int) (fun _ _ => rfl)) (by rfl))))) (pss_one (ps_expr (pe_bm PySem.F.plainAttrs_list PySem.F.slot_list_append PySem.F.type_list_append mt_append (pv 2) (pa_cons (pe_me m_Log_stretch_of Z.c_Log hr (by decide) (pv 0) (pa_cons (pv 3) pa_nil)) pa_nil)))) pss_nil)))
    (pss_one (ps_ret (pv 2))))), ?_⟩
    refine q_nil fun fl hfl => ?_
    have s0 := Sep.hid (o := .lst []) e hfl
    refine q_for s0.b (ei_list (ps := (l.answersOf j).map pN) (ev_meth (as := [pS j]) (l, j) (ev_var rv) (log_ins rfl) (ea_one (ev_var ev)) rfl ⟨hf, hj⟩))
      (fun i σ G G1 => Sep H H1 G G1 ∧ (∃ x, σ = [some v, some v2, some (.ref fl), x]) ∧ G fl = none ∧ ∃ acc, G1 fl = some (.lst acc) ∧ All2 G acc ((((l.answersOf j).take i).foldl l.stStep []).map pNs))
      (fun H' H2 s => ?_) ?_ ?_
    · have kk := s.keep (e.back hfl) upd_same
      exact ⟨s0.trans s, ⟨_, rfl⟩, kk.1, [], kk.2, True.intro⟩
    · rintro i p u σ' G G1 G' G2 hpi ⟨sG, ⟨x, rfl⟩, nG, acc, gG, rA⟩ eG s2 rp
      obtain ⟨n, hn, rfl⟩ := map_get hpi
      have k2 := s2.keep nG gG
      have hna := LogD.mem_answersOf.mp (List.mem_of_getElem? hn)
      have rA2 := rA.mono s2.a
      have hlen := rA2.length
      rw [List.length_map] at hlen
      have hfl2 := l.stFold_len ((l.answersOf j).take i) []
      have htk := List.length_take_le' i (l.answersOf j)
      refine bnd_name G2 s2.b _ ?_
      generalize hS : ((l.answersOf j).take i).foldl l.stStep [] = S at *
      -- the list as it stands
      have eS : Ex (upd G' fl (.lst acc)) G2 := s2.b.put k2.2
      have rS : (pL (S.map pNs)).p (upd G' fl (.lst acc)) (.ref fl) := ⟨fl, acc, rfl, upd_same, rA2.mono (Ex.new k2.1)⟩
      have hst := LogD.stretches_take l _ i n hn
      rw [hS] at hst
      refine s_if (b := decide (S.length = 0 ∨ n ∉ S.getLastD [])) eS ?_ (fun z G3 e3 => ?_) fun z G3 e3 => ?_
      · refine EvT.eq (b := decide (S.length = 0) || !decide (n ∈ S.getLastD [])) ?_ (by simp)
        refine et_or ((et_test (ev_eq (ev_len (ev_var rS)) ev_c rfl)).eq ?_) fun z0 => et_test ?_
        · rw [List.length_map]
          simp
        · have z0 : ¬ S.length = 0 := of_decide_eq_false z0
          obtain ⟨S', x1, rfl⟩ : ∃ S' x1, S = S' ++ [x1] := by
            rcases List.eq_nil_or_concat S with e1 | ⟨ys, z, e1⟩
            · rw [e1] at z0
              exact absurd rfl z0
            · exact ⟨ys, z, by rw [e1, List.concat_eq_append]⟩
          have el : (S' ++ [x1]).getLastD [] = x1 := by simp
          rw [el]
          rw [List.map_append] at rS
          exact ev_ninN (ev_var (R := pN n) ((pN n).mono (Ex.new k2.1) rp)) (ev_ixLast (ev_var rS) ev_neg1)
      · have z := of_decide_eq_true z
        have kk3 := e3 _ _ k2.2
        have hst2 : l.stStep S n = S ++ [l.stretchOf n] := by
          unfold LogD.stStep
          rw [if_pos z]
        refine s_app (K := K) (i := 2) (l := fl) (s2.b.trans e3) k2.1 kk3 rfl (ev_meth (as := [pN n]) (l, n) (ev_var ((pLog CL l).mono (eG.trans s2.a) rv)) (log_ins rfl) (ea_one (ev_var rp)) rfl ⟨hl, hna.1⟩) (by
          rw [hlen]
          simp at hfl2
          omega) fun w2 G4 G5 s4 r4 => ?_
        have k4 := s4.keep k2.1 kk3
        refine ⟨G4, s2.a.trans s4.a, s4.b.mut k4.1, ((sG.trans s2).ext e3 |>.trans s4).mut hfl k4.1, ⟨_, rfl⟩, k4.1, acc ++ [w2], upd_same, ?_⟩
        rw [hst, hst2, List.map_append]
        exact (rA2.mono s4.a).snoc r4
      · have z := of_decide_eq_false z
        have hst2 : l.stStep S n = S := by
          unfold LogD.stStep
          rw [if_neg z]
        refine ⟨G', s2.a, s2.b.trans e3, (sG.trans s2).ext e3, ⟨_, rfl⟩, k2.1, acc, e3 _ _ k2.2, ?_⟩
        rw [hst, hst2]
        exact rA2
    · rintro σ' G G1 eG eG1 ⟨sG, ⟨x, rfl⟩, nG, acc, gG, rA⟩
      rw [List.length_map, List.take_length] at rA
      have eS : Ex (upd G fl (.lst acc)) G1 := eG1.put gG
      have sN : Sep H H1 (upd G fl (.lst acc)) G1 := sG.own hfl nG gG
      exact s_ret eS (ev_var (R := pL ((l.stretches j).map pNs)) ⟨fl, acc, rfl, upd_same, rA.mono (Ex.new nG)⟩) (q.go sN)
end
end Rb
set_option Elab.async false
set_option linter.all false
set_option maxRecDepth 100000
set_option maxHeartbeats 3200000
/-! Walks: a case's methods. -/
namespace Rb
open PySem PySem.Spec PyProof.Rows L2
section
variable {P : Program} {w : World} {K : PySem.W.Frag} {mg : Str → Option Value} {base : Heap} {CL CC : Addr}
theorem all5 {H : Hp} {vs : List V} {A B C D F : Pr} (h : All2 H vs [A, B, C, D, F]) : ∃ u v w y z, vs = [u, v, w, y, z] ∧ A.p H u ∧ B.p H v ∧ C.p H w ∧ D.p H y ∧ F.p H z := match vs, h with
  | [u, v, w, y, z], h => ⟨u, v, w, y, z, rfl, h.1, h.2.1, h.2.2.1, h.2.2.2.1, h.2.2.2.2.1⟩
  | [], h => h.elim
  | [_], h => h.2.elim
  | [_, _], h => h.2.2.elim
  | [_, _, _], h => h.2.2.2.elim
  | [_, _, _, _], h => h.2.2.2.2.elim
  | _ :: _ :: _ :: _ :: _ :: _ :: _, h => h.2.2.2.2.2.elim
theorem pCase_at {c : CaseD} {H : Hp} {v : V} (h : (pCase CC c).p H v) : ∃ a dx vi vg vd vt vl, v = .ref a ∧ H a = some (.ins CC dx [("_items", vi), ("_grades", vg), ("_drifts", vd), ("_told", vt), ("_lots", vl)]) ∧
    (pL (c.items.map pS)).p H vi ∧ (pN c.grades).p H vg ∧ (pD (c.drifts.map kDr)).p H vd ∧ (pD (c.told.map kTd)).p H vt ∧ (pL (c.lots.map pNs)).p H vl := by
  obtain ⟨a, dx, vs, rfl, ha, hx⟩ := h
  obtain ⟨u, v, w, y, z, rfl, h1, h2, h3, h4, h5⟩ := all5 hx
  exact ⟨a, dx, u, v, w, y, z, rfl, ha, h1, h2, h3, h4, h5⟩
section
variable {σ : L2.St} {H : Hp} {te : TE} {c : CaseD}
theorem ev_c_items (Z : Bz K mg CL CC) (h : Ev te σ H (pCase CC c)) : Ev (tFld K te "_items") σ H (pL (c.items.map pS)) := ev_fld h (fun H v r => by
  obtain ⟨a, dx, vi, vg, vd, vt, vl, e, h, h1, h2, h3, h4, h5⟩ := pCase_at r
  exact ⟨a, dx, _, vi, e, h, rfl, h1⟩) Z.c_Case Z.c_items
theorem ev_c_drifts (Z : Bz K mg CL CC) (h : Ev te σ H (pCase CC c)) : Ev (tFld K te "_drifts") σ H (pD (c.drifts.map kDr)) := ev_fld h (fun H v r => by
  obtain ⟨a, dx, vi, vg, vd, vt, vl, e, h, h1, h2, h3, h4, h5⟩ := pCase_at r
  exact ⟨a, dx, _, vd, e, h, rfl, h3⟩) Z.c_Case Z.c_drifts
theorem ev_c_told (Z : Bz K mg CL CC) (h : Ev te σ H (pCase CC c)) : Ev (tFld K te "_told") σ H (pD (c.told.map kTd)) := ev_fld h (fun H v r => by
  obtain ⟨a, dx, vi, vg, vd, vt, vl, e, h, h1, h2, h3, h4, h5⟩ := pCase_at r
  exact ⟨a, dx, _, vt, e, h, rfl, h4⟩) Z.c_Case Z.c_told
theorem ev_c_lots (Z : Bz K mg CL CC) (h : Ev te σ H (pCase CC c)) : Ev (tFld K te "_lots") σ H (pL (c.lots.map pNs)) := ev_fld h (fun H v r => by
  obtain ⟨a, dx, vi, vg, vd, vt, vl, e, h, h1, h2, h3, h4, h5⟩ := pCase_at r
  exact ⟨a, dx, _, vl, e, h, rfl, h5⟩) Z.c_Case Z.c_lots
theorem case_ins {m : Str} (h : ([("_items", V.non), ("_grades", V.non), ("_drifts", V.non), ("_told", V.non), ("_lots", V.non)] : List (Str × V)).lookup m = none) : IsIns CC m (pCase CC c) := fun H v r => by
  obtain ⟨a, dx, vi, vg, vd, vt, vl, e, ha, _⟩ := pCase_at r
  exact ⟨a, dx, _, e, ha, lookup_keys (by rfl) h⟩
/-- self._told[p] -/
theorem ev_tld {ty : TE} {p : Nat} (Z : Bz K mg CL CC) (h : Ev te σ H (pCase CC c)) (hp : Ev ty σ H (pN p)) (hm : p ∈ c.ps) : Ev (tDGet (tFld K te "_told") ty) σ H (pTld (c.tld p)) := ev_dgetD (k := .inl (p : Int)) (ev_c_told Z h) hp (atD_told hm)
end
abbrev s_Case__check : Stmt := inClass (topS 31) 3
theorem sc_Case__check : FnScope ["self", "place"] ["self", "place"] (defScope s_Case__check) := ⟨rfl, rfl, rfl, by decide +kernel, rfl, by decide +kernel, by decide +kernel⟩
abbrev n_Case__check : List Str := ["self", "place"]
abbrev M_check (P : Program) (w : World) (K : PySem.W.Frag) (mg : Str → Option Value) (base : Heap) (CC : Addr) : Prop := Me P w K mg base 1 CC "_check" ["self", "place"] (spN (fun a : CaseD × Nat => [pCase CC a.1, pN a.2]) (fun a => a.2 ∈ a.1.ps) fun _ => pNo)
theorem w_check (Z : Bz K mg CL CC) (D : Dm K CC "_check" "Case._check" s_Case__check) : M_check P w K mg base CC :=
  me_mk (k := 0) D sc_Case__check (fun _ => rfl) (bnd2 fun _ _ _ _ _ _ _ _ => rfl) fun f cdv A outer s H1 vs Q E a H hr e hp h q => by
    have sc := sc_Case__check
    have hu := hu_of hr
    obtain ⟨c, p⟩ := a
    obtain ⟨v, v2, rfl, rv, ev⟩ := all2 h
    have hp : p ∈ c.ps := hp
    refine ⟨_, (pss_one (ps_if (pt_cmp (pc_dnotin hu (pv 1) (peFld K (pv 0) rfl)) (by rfl)) pss_never pss_nil)), ?_⟩
    refine s_ifN e ((et_B (ev_dninD (k := .inl (p : Int)) (ev_var ev) (ev_c_told Z (ev_var rv)))).eq ?_) fun H2 e2 => (q.ext e2).val (Sep.refl (e.trans e2))
    · rw [atD_told hp]
      rfl
abbrev s_Case__are_together : Stmt := inClass (topS 31) 5
theorem sc_Case__are_together : FnScope ["self", "one", "other"] ["self", "one", "other"] (defScope s_Case__are_together) := ⟨rfl, rfl, rfl, by decide +kernel, rfl, by decide +kernel, by decide +kernel⟩
abbrev n_Case__are_together : List Str := ["self", "one", "other"]
abbrev M_tog (P : Program) (w : World) (K : PySem.W.Frag) (mg : Str → Option Value) (base : Heap) (CC : Addr) : Prop := Me P w K mg base 1 CC "_are_together" ["self", "one", "other"] (spN (fun a : CaseD × Nat × Nat => [pCase CC a.1, pN a.2.1, pN a.2.2]) (fun a => a.2.1 ∈ a.1.ps ∧ a.2.2 ∈ a.1.ps) fun a => pB (a.1.tog a.2.1 a.2.2))
theorem w_tog (Z : Bz K mg CL CC) (D : Dm K CC "_are_together" "Case._are_together" s_Case__are_together) : M_tog P w K mg base CC :=
  me_mk (k := 0) D sc_Case__are_together (fun _ => rfl) (bnd3 fun _ _ _ _ _ _ _ _ _ => rfl) fun f cdv A outer s H1 vs Q E a H hr e hp h q => by
    have sc := sc_Case__are_together
    have hu := hu_of hr
    obtain ⟨c, m, n⟩ := a
    obtain ⟨v, v2, v3, rfl, rv, em, en⟩ := all3 h
    obtain ⟨hm, hn⟩ : m ∈ c.ps ∧ n ∈ c.ps := hp
    refine ⟨_, (pss_one (ps_ret (pe_cmpR op_eq (pe_ix (ixT K) (pe_dget hu (peFld K (pv 0) rfl) (pv 1) (fun _ _ => rfl)) pe_int (fun _ _ => rfl)) (pe_ix (ixT K) (pe_dget hu (peFld K (pv 0) rfl) (pv 2) (fun _ _ => rfl)) pe_int (fun _ _ => rfl)) (nomark _)))), ?_⟩
    refine s_ret e ((ev_eq (ev_ixT' (n := 4) (ev_tld Z (ev_var rv) (ev_var em) hm) rfl rfl) (ev_ixT' (n := 4) (ev_tld Z (ev_var rv) (ev_var en) hn) rfl rfl) rfl).eq ?_) q
    unfold CaseD.tog
    simp
    omega
abbrev s_Case__are_in_order : Stmt := inClass (topS 31) 6
theorem sc_Case__are_in_order : FnScope ["self", "one", "other"] ["self", "one", "other"] (defScope s_Case__are_in_order) := ⟨rfl, rfl, rfl, by decide +kernel, rfl, by decide +kernel, by decide +kernel⟩
abbrev n_Case__are_in_order : List Str := ["self", "one", "other"]
abbrev F_is_first (P : Program) (w : World) (K : PySem.W.Frag) (mg : Str → Option Value) (base : Heap) : Prop := Fn P w K mg base 1 "is_first" ["drift", "one", "other"] (spN (fun a : Str × Nat × Nat => [pS a.1, pN a.2.1, pN a.2.2]) (fun _ => True) fun a => pB (isFirst a.1 a.2.1 a.2.2))
abbrev M_ord (P : Program) (w : World) (K : PySem.W.Frag) (mg : Str → Option Value) (base : Heap) (CC : Addr) : Prop := Me P w K mg base 2 CC "_are_in_order" ["self", "one", "other"] (spN (fun a : CaseD × Nat × Nat => [pCase CC a.1, pN a.2.1, pN a.2.2]) (fun a => a.1.Ok ∧ a.2.1 ∈ a.1.ps) fun a => pB (a.1.ord a.2.1 a.2.2))
theorem w_ord (Z : Bz K mg CL CC) (D : Dm K CC "_are_in_order" "Case._are_in_order" s_Case__are_in_order) (f_is_first : F_is_first P w K mg base) : M_ord P w K mg base CC :=
  me_mk (k := 1) D sc_Case__are_in_order (fun _ => rfl) (bnd3 fun _ _ _ _ _ _ _ _ _ => rfl) fun f cdv A outer s H1 vs Q E a H hr e hp h q => by
    have sc := sc_Case__are_in_order
    have hu := hu_of hr
    obtain ⟨c, m, n⟩ := a
    obtain ⟨v, v2, v3, rfl, rv, em, en⟩ := all3 h
    obtain ⟨hc, hm⟩ : c.Ok ∧ m ∈ c.ps := hp
    refine ⟨_, (pss_one (ps_ret (pe_fn f_is_first hr (by decide) (by rfl) (pa_cons (pe_dget hu (peFld K (pv 0) rfl) (pe_ix (ixT K) (pe_dget hu (peFld K (pv 0) rfl) (pv 1) (fun _ _ => rfl)) pe_int (fun _ _ => rfl)) (fun _ _ => rfl)) (pa_cons (pv 1) (pa_cons (pv 2) pa_nil)))))), ?_⟩
    exact s_ret e (ev_call (c.driftOf (c.tld m).j, m, n) (ea_cons (ev_dgetD (k := .inr (c.tld m).j) (ev_c_drifts Z (ev_var rv)) (ev_ixT' (n := 0) (ev_tld Z (ev_var rv) (ev_var em) hm) rfl rfl) (atD_drift (hc.judge m hm))) (ea_cons (ev_var em) (ea_one (ev_var en)))) True.intro) q
theorem lotDat_shaped {j : Str} {n : Nat} (h : NameOk j) : SeqAt.shaped (.tuple [.str j, .int (n : Int)]) = true := by
  simp [SeqAt.shaped, PyData.canLay0, PyData.canLayAll0, PyData.depth, PyData.depthAll, h.ok]
theorem lotDat_eqv {i j : Str} {m n : Nat} : PyData.eqv (.tuple [.str i, .int (m : Int)]) (.tuple [.str j, .int (n : Int)]) = decide (i = j ∧ m = n) := by
  have e : PyData.eqv (.tuple [.str i, .int (m : Int)]) (.tuple [.str j, .int (n : Int)]) = ((i == j) && (((m : Int) == (n : Int)) && true)) := by simp only [PyData.eqv, PyData.eqvAll]
  rw [e]
  by_cases h1 : i = j
  · by_cases h2 : m = n
    · subst h1 h2
      simp
    · have h3 : ((m : Int) == (n : Int)) = false := beq_eq_false_iff_ne.mpr (by omega)
      simp [h2, h3]
  · have h3 : (i == j) = false := by simpa using h1
    simp [h1, h3]
abbrev s_Case_in_order : Stmt := inClass (topS 31) 7
theorem sc_Case_in_order : FnScope ["self", "one", "other"] ["self", "one", "other"] (defScope s_Case_in_order) := ⟨rfl, rfl, rfl, by decide +kernel, rfl, by decide +kernel, by decide +kernel⟩
abbrev n_Case_in_order : List Str := ["self", "one", "other"]
abbrev M_in_order (P : Program) (w : World) (K : PySem.W.Frag) (mg : Str → Option Value) (base : Heap) (CC : Addr) : Prop := Me P w K mg base 3 CC "in_order" ["self", "one", "other"] (spN (fun a : CaseD × Nat × Nat => [pCase CC a.1, pN a.2.1, pN a.2.2]) (fun a => a.1.Ok ∧ a.2.1 ∈ a.1.ps ∧ a.2.2 ∈ a.1.ps) fun a => pB (a.1.inOrder a.2.1 a.2.2))
theorem w_in_order (Z : Bz K mg CL CC) (D : Dm K CC "in_order" "Case.in_order" s_Case_in_order) (m_Case__check : M_check P w K mg base CC) (m_Case__are_in_order : M_ord P w K mg base CC) : M_in_order P w K mg base CC :=
  me_mk (k := 2) D sc_Case_in_order (fun _ => rfl) (bnd3 fun _ _ _ _ _ _ _ _ _ => rfl) fun f cdv A outer s H1 vs Q E a H hr e hp h q => by
    have sc := sc_Case_in_order
    have hu := hu_of hr
    obtain ⟨c, m, n⟩ := a
    obtain ⟨v, v2, v3, rfl, rv, em, en⟩ := all3 h
    obtain ⟨hc, hm, hn⟩ : c.Ok ∧ m ∈ c.ps ∧ n ∈ c.ps := hp
    refine ⟨_, (pss_cons (ps_expr (pe_me m_Case__check Z.c_Case hr (by decide) (pv 0) (pa_cons (pv 1) pa_nil)))
    (pss_cons (ps_expr (pe_me m_Case__check Z.c_Case hr (by decide) (pv 0) (pa_cons (pv 2) pa_nil)))
    (pss_one (ps_ret (pe_and (pe_cmpR (opEqD K hr.units) (pe_ix (ixT K) (pe_dget hu (peFld K (pv 0) rfl) (pv 1) (fun _ _ => rfl)) pe_int (fun _ _ => rfl)) (pe_ix (ixT K) (pe_dget hu (peFld K (pv 0) rfl) (pv 2) (fun _ _ => rfl)) pe_int (fun _ _ => rfl)) (nomark _)) (pe_one (pe_me m_Case__are_in_order Z.c_Case hr (by decide) (pv 0) (pa_cons (pv 1) (pa_cons (pv 2) pa_nil))))))))), ?_⟩
    refine q_drop e (ev_meth (as := [pN m]) (c, m) (ev_var rv) (case_ins rfl) (ea_one (ev_var em)) rfl hm) fun G1 A1 s1 => ?_
    have rv1 := (pCase CC c).mono s1.a rv
    have em1 := (pN m).mono s1.a em
    have en1 := (pN n).mono s1.a en
    refine q_drop s1.b (ev_meth (as := [pN n]) (c, n) (ev_var rv1) (case_ins rfl) (ea_one (ev_var en1)) rfl hn) fun G2 A2 s2 => ?_
    have rv2 := (pCase CC c).mono s2.a rv1
    have em2 := (pN m).mono s2.a em1
    have en2 := (pN n).mono s2.a en1
    refine s_ret s2.b ?_ (q.go (s1.trans s2))
    refine ev_andV (b := c.ord m n) ((ev_eqD (ev_ixT' (n := 3) (ev_tld Z (ev_var rv2) (ev_var em2) hm) rfl rfl) (ev_ixT' (n := 3) (ev_tld Z (ev_var rv2) (ev_var en2) hn) rfl rfl) (dpT2 (dpS _) (dpN _)) (dpT2 (dpS _) (dpN _)) (lotDat_shaped (hc.name m hm)) (lotDat_shaped (hc.name n hn))).eq ?_) fun _ => ev_meth (as := [pN m, pN n]) (c, m, n) (ev_var rv2) (case_ins rfl) (ea_cons (ev_var em2) (ea_one (ev_var en2))) rfl ⟨hc, hm⟩
    rw [lotDat_eqv]
abbrev s_Case__ahead : Stmt := inClass (topS 31) 9
theorem sc_Case__ahead : FnScope ["self", "lot", "place", "one"] ["self", "lot", "place"] (defScope s_Case__ahead) := ⟨rfl, rfl, rfl, by decide +kernel, rfl, by decide +kernel, by decide +kernel⟩
abbrev n_Case__ahead : List Str := ["self", "lot", "place", "one"]
abbrev M_ahead (P : Program) (w : World) (K : PySem.W.Frag) (mg : Str → Option Value) (base : Heap) (CC : Addr) : Prop := Me P w K mg base 3 CC "_ahead" ["self", "lot", "place"] (spN (fun a : CaseD × List Nat × Nat => [pCase CC a.1, pNs a.2.1, pN a.2.2]) (fun a => a.1.Ok ∧ a.2.1 ∈ a.1.lots ∧ a.2.2 ∈ a.1.ps) fun a => pNs (a.1.ahead a.2.1 a.2.2))
theorem w_ahead (Z : Bz K mg CL CC) (D : Dm K CC "_ahead" "Case._ahead" s_Case__ahead) (m_Case__are_in_order : M_ord P w K mg base CC) (m_Case__are_together : M_tog P w K mg base CC) : M_ahead P w K mg base CC :=
  me_mk (k := 2) D sc_Case__ahead (fun _ => rfl) (bnd3 fun _ _ _ _ _ _ _ _ _ => rfl) fun f cdv A outer s H1 vs Q E a H hr e hp h q => by
    have sc := sc_Case__ahead
    obtain ⟨c, r, p⟩ := a
    obtain ⟨v, v2, v3, rfl, rv, em, en⟩ := all3 h
    obtain ⟨hc, hm, hn⟩ : c.Ok ∧ r ∈ c.lots ∧ p ∈ c.ps := hp
    have hz := hc.each r hm
    refine ⟨_, (pss_one (ps_ret (pe_lc (own := [("one", 3)]) (g := (gName 3)) rfl sc.nd (piList K (pv 1)) (blkOk_by (N := n_Case__ahead) (sc := defScope s_Case__ahead) (by decide +kernel)) (fun _ _ _ _ _ => (pg_name (i := 3) sc.nd rfl (by first | exact Or.inl rfl | exact Or.inr rfl))) (fun _ _ _ _ _ => pts_one (PW.pt (pw_or (pt_val (pe_me m_Case__are_in_order Z.c_Case hr (by decide) (pv 0) (pa_cons (pv 3) (pa_cons (pv 2) pa_nil)))) (pw_or1 (pt_val (pe_me m_Case__are_together Z.c_Case hr (by decide) (pv 0) (pa_cons (pv 3) (pa_cons (pv 2) pa_nil)))))))) (fun _ _ _ _ _ => (pv 3))))), ?_⟩
    refine s_ret e (ev_lc (f := pN) (h := pN) (t := fun a => c.ord a p || c.tog a p) (as := r) (ei_list (ev_var em)) (by omega) fun n u G hx eG ru => ⟨_, bnd_name, rfl, ?_, fun _ => ev_var ru⟩) q
    have rv1 := (pCase CC c).mono eG rv
    have en1 := (pN p).mono eG en
    have hnp := hc.inLots r hm n hx
    exact et_or (et_B (ev_meth (as := [pN n, pN p]) (c, n, p) (ev_var rv1) (case_ins rfl) (ea_cons (ev_var ru) (ea_one (ev_var en1))) rfl ⟨hc, hnp⟩)) fun _ => et_B (ev_meth (as := [pN n, pN p]) (c, n, p) (ev_var rv1) (case_ins rfl) (ea_cons (ev_var ru) (ea_one (ev_var en1))) rfl ⟨hnp, hn⟩)
end
end Rb
set_option Elab.async false
set_option linter.all false
set_option maxRecDepth 100000
set_option maxHeartbeats 3200000
/-! Walks: links. -/
namespace Rb
open PySem PySem.Spec PyProof.Rows L2
theorem s_ext {σ : L2.St} {H H1 : Hp} {te : TE} {ps : List Pr} {D : Ends} {i : Nat} {l : Addr} {xs : List V} (e : Ex H H1) (hl : H l = none) (h1 : H1 l = some (.lst xs)) (hs : σ[i]? = some (some (.ref l))) (h : Ev te σ H (pL ps)) (hz : xs.length + ps.length < 100000)
    (k : ∀ zs H' H2, Sep H H1 H' H2 → All2 H' zs ps → D.nx (σ.set i (some (.ref l))) (upd H2 l (.lst (xs ++ zs)))) : tAug i te rExt2 D σ H1 :=
  ⟨.ref l, hs, h H1 e _ fun v H' H2 s ⟨b, zs, ev, hb, hx⟩ => ⟨l, b, xs, zs, rfl, ev, s.c _ _ h1, s.b _ _ hb, Nat.le_of_lt (Nat.lt_of_lt_of_le (by rw [hx.length]; exact hz) (by decide)), k zs H' H2 s hx⟩⟩
theorem q_ext {σ : L2.St} {H H1 : Hp} {te : TE} {ps : List Pr} {D : Ends} {tz : TS} {i : Nat} {l : Addr} {xs : List V} (e : Ex H H1) (hl : H l = none) (h1 : H1 l = some (.lst xs)) (hs : σ[i]? = some (some (.ref l))) (h : Ev te σ H (pL ps)) (hz : xs.length + ps.length < 100000)
    (k : ∀ zs H' H2, Sep H H1 H' H2 → All2 H' zs ps → tz D (σ.set i (some (.ref l))) (upd H2 l (.lst (xs ++ zs)))) : tSeq (tAug i te rExt2) tz D σ H1 := s_ext (D := { D with nx := tz D }) e hl h1 hs h hz k
section
variable {P : Program} {w : World} {K : PySem.W.Frag} {mg : Str → Option Value} {base : Heap} {CL CC : Addr}
theorem flat_take {α β : Type} (f : α → List β) (xs : List α) (i : Nat) (a : α) (h : xs[i]? = some a) : (xs.take (i + 1)).flatMap f = (xs.take i).flatMap f ++ f a := by
  have hi : i < xs.length := (List.getElem?_eq_some_iff.mp h).1
  have e : xs[i] = a := (List.getElem?_eq_some_iff.mp h).2
  rw [List.take_succ_eq_append_getElem hi, List.flatMap_append, e]
  simp
theorem flat_len_take {α β : Type} (f : α → List β) (xs : List α) (i : Nat) : ((xs.take i).flatMap f).length ≤ (xs.flatMap f).length := by
  conv => rhs; rw [← List.take_append_drop i xs]
  rw [List.flatMap_append, List.length_append]
  omega
theorem flat_len {α β : Type} (f : α → List β) (n : Nat) : ∀ xs : List α, (∀ a ∈ xs, (f a).length ≤ n) → (xs.flatMap f).length ≤ xs.length * n
  | [], _ => by simp
  | a :: xs, h => by
    have h1 := h a List.mem_cons_self
    have h2 := flat_len f n xs fun b hb => h b (List.mem_cons_of_mem _ hb)
    rw [List.flatMap_cons, List.length_append, List.length_cons, Nat.succ_mul]
    omega
theorem CaseD.linksAt_len (c : CaseD) (r : List Nat) (p : Nat) : (c.linksAt r p).length ≤ r.length := by
  unfold CaseD.linksAt CaseD.ahead
  rw [List.length_map]
  exact Nat.le_trans (List.length_filter_le _ _) (List.length_filter_le _ _)
theorem CaseD.row_len {c : CaseD} (hc : c.Ok) {r : List Nat} (h : r ∈ c.lots) : (r.flatMap fun p => c.linksAt r p).length ≤ 150 * r.length := by
  have h1 := hc.each r h
  have h2 := flat_len (fun p => c.linksAt r p) 150 r fun p _ => Nat.le_trans (c.linksAt_len r p) h1
  omega
theorem CaseD.links_len {c : CaseD} (hc : c.Ok) : c.links.length ≤ 22500 := by
  have aux : ∀ ls : List (List Nat), (∀ r ∈ ls, r ∈ c.lots) → (ls.flatMap fun r => r.flatMap fun p => c.linksAt r p).length ≤ 150 * (ls.flatMap id).length := by
    intro ls
    induction ls with
    | nil => intro _; simp
    | cons r ls ih =>
      intro h
      have h1 := CaseD.row_len hc (h r List.mem_cons_self)
      have h2 := ih fun q hq => h q (List.mem_cons_of_mem _ hq)
      rw [List.flatMap_cons, List.flatMap_cons, List.length_append, List.length_append]
      show _ ≤ 150 * (r.length + _)
      omega
  have h := aux c.lots fun _ h => h
  have h2 := hc.all
  unfold CaseD.links
  omega
abbrev s_Case_links : Stmt := inClass (topS 31) 10
theorem sc_Case_links : FnScope ["self", "found", "lot", "place", "grade", "one"] ["self"] (defScope s_Case_links) := ⟨rfl, rfl, rfl, by decide +kernel, rfl, by decide +kernel, by decide +kernel⟩
abbrev n_Case_links : List Str := ["self", "found", "lot", "place", "grade", "one"]
abbrev M_links (P : Program) (w : World) (K : PySem.W.Frag) (mg : Str → Option Value) (base : Heap) (CC : Addr) : Prop := Me P w K mg base 4 CC "links" ["self"] (spN (fun c : CaseD => [pCase CC c]) (fun c => c.Ok) fun c => pE (fun ms : List (Nat × Nat) => ms.Perm c.links) pLks)
theorem w_links (Z : Bz K mg CL CC) (D : Dm K CC "links" "Case.links" s_Case_links) (m_Case__ahead : M_ahead P w K mg base CC) : M_links P w K mg base CC :=
  me_mk (k := 3) D sc_Case_links (fun _ => rfl) (bnd1 fun _ _ _ _ _ _ _ => rfl) fun f cdv A outer s H1 vs Q E c H hr e hc h q => by
    have sc := sc_Case_links
    have hu := hu_of hr
    obtain ⟨v, rfl, rv⟩ := all1 h
    have hlots := hc.lots
    have hll := CaseD.links_len hc
    refine ⟨_, (pss_cons (ps_set (i := 1) sc.nd rfl (Or.inl rfl) (pe_lst pa_nil))
    (pss_cons (ps_for PassesOwn.never rfl (piList K (peFld K (pv 0) rfl)) (pg_name (i := 2) sc.nd rfl (by first | exact Or.inl rfl | exact Or.inr rfl)) (pss_one (ps_for PassesOwn.never rfl (piList K (pv 2)) (pg_name (i := 3) sc.nd rfl (by first | exact Or.inl rfl | exact Or.inr rfl)) (pss_cons (ps_set (i := 4) sc.nd rfl (Or.inr rfl) (pe_ix (ixT K) (pe_dget hu (peFld K (pv 0) rfl) (pv 3) (fun _ _ => rfl)) pe_int (fun _ _ => rfl)))
    (pss_one (ps_aug (i := 1) sc.nd rfl (Or.inl rfl) (pe_lc (own := [("one", 5)]) (g := (gName 5)) rfl sc.nd (piList K (pe_me m_Case__ahead Z.c_Case hr (by decide) (pv 0) (pa_cons (pv 2) (pa_cons (pv 3) pa_nil)))) (blkOk_by (N := n_Case_links) (sc := defScope s_Case_links) (by decide +kernel)) (fun _ _ _ _ _ => (pg_name (i := 5) sc.nd rfl (by first | exact Or.inl rfl | exact Or.inr rfl))) (fun _ _ _ _ _ => pts_one (pt_cmpR op_lt (pe_ix (ixT K) (pe_dget hu (peFld K (pv 0) rfl) (pv 5) (fun _ _ => rfl)) pe_int (fun _ _ => rfl)) (pv 4) (nomark _))) (fun _ _ _ _ _ => (pe_tup (pa_cons (pv 5) (pa_cons (pv 3) pa_nil))))) iop_ext))))))
    (pss_one (ps_ret (pe_callB (crSortedP K) (by rfl) Z.sorted (by decide +kernel) (pa_cons (pv 1) pa_nil)))))), ?_⟩
    refine q_nil fun fl hfl => ?_
    have s0 := Sep.hid (o := .lst []) e hfl
    refine q_for s0.b (ei_list (ps := c.lots.map pNs) (ev_c_lots Z (ev_var rv)))
      (fun i σ G G1 => Sep H H1 G G1 ∧ (∃ x y z u, σ = [some v, some (.ref fl), x, y, z, u]) ∧ G fl = none ∧ ∃ acc, G1 fl = some (.lst acc) ∧ All2 G acc (((c.lots.take i).flatMap fun r => r.flatMap fun p => c.linksAt r p).map pLk))
      (fun H' H2 s => ?_) ?_ ?_
    · have kk := s.keep (e.back hfl) upd_same
      exact ⟨s0.trans s, ⟨_, _, _, _, rfl⟩, kk.1, [], kk.2, True.intro⟩
    · rintro i p ul σ' G G1 G' G2 hpi ⟨sG, ⟨x, y, z, u', rfl⟩, nG, acc, gG, rA⟩ eG s2 rp
      obtain ⟨r, hr2, rfl⟩ := map_get hpi
      have hrm := List.mem_of_getElem? hr2
      have hre := hc.each r hrm
      have k2 := s2.keep nG gG
      refine bnd_name G2 s2.b _ ?_
      refine s_for s2.b (ei_list (ps := r.map pN) (ev_var rp))
        (fun j σ F F1 => Sep H H1 F F1 ∧ Ex G F ∧ (∃ y z u, σ = [some v, some (.ref fl), some ul, y, z, u]) ∧ F fl = none ∧ ∃ acc, F1 fl = some (.lst acc) ∧ All2 F acc ((((c.lots.take i).flatMap fun r => r.flatMap fun p => c.linksAt r p) ++ (r.take j).flatMap fun p => c.linksAt r p).map pLk))
        (fun H' H2 s => ?_) ?_ ?_
      · have kk := s.keep k2.1 k2.2
        refine ⟨(sG.trans s2).trans s, s2.a.trans s.a, ⟨_, _, _, rfl⟩, kk.1, acc, kk.2, ?_⟩
        simpa using rA.mono (s2.a.trans s.a)
      · rintro j p u σ' F F1 F' F2 hpj ⟨sF, eGF, ⟨y, z, u', rfl⟩, nF, acc, gF, rF⟩ eF s3 rp3
        obtain ⟨n, hn, rfl⟩ := map_get hpj
        have hnm := List.mem_of_getElem? hn
        have hnp := hc.inLots r hrm n hnm
        have k3 := s3.keep nF gF
        have rv3 := (pCase CC c).mono (sF.a.trans s3.a) rv
        have rr3 := (pNs r).mono (eF.trans s3.a) rp
        refine bnd_name F2 s3.b _ ?_
        refine q_asgV (v := .int (c.tld n).g) s3.b (ev_ixT' (n := 2) (ev_tld Z (ev_var rv3) (ev_var rp3) hnp) rfl rfl) fun F3 e3 e4 => ?_
        have hln := rF.length
        rw [List.length_map, List.length_append] at hln
        have b1 : ((c.lots.take (i + 1)).flatMap fun r => r.flatMap fun p => c.linksAt r p).length ≤ 22500 := Nat.le_trans (flat_len_take _ _ _) hll
        rw [flat_take _ _ i r hr2, List.length_append] at b1
        have b2 := flat_len_take (fun p => c.linksAt r p) r (j + 1)
        rw [flat_take _ _ j n hn, List.length_append] at b2
        refine s_ext (l := fl) (xs := acc) (ps := (c.linksAt r n).map pLk) e3 k3.1 (e4 _ _ k3.2) rfl ?_ (by
          rw [List.length_map]
          omega) fun zs F4 F5 s5 rz => ?_
        · have hal : (c.ahead r n).length ≤ 150 := Nat.le_trans (List.length_filter_le _ _) hre
          unfold CaseD.linksAt
          rw [List.map_map]
          refine ev_lc (f := pN) (h := fun a => pLk (a, n)) (t := fun a => decide ((c.tld a).g < (c.tld n).g)) (as := c.ahead r n) (ei_list (ev_meth (as := [pNs r, pN n]) (c, r, n) (ev_var rv3) (case_ins rfl) (ea_cons (ev_var rr3) (ea_one (ev_var rp3))) rfl ⟨hc, hrm, hnp⟩)) (by omega) fun m u G hm eG2 ru => ?_
          have hmr : m ∈ r := (List.mem_filter.mp hm).1
          refine ⟨_, bnd_name, rfl, (et_test (ev_I0 (ev_ixT' (n := 2) (ev_tld Z (ev_var ((pCase CC c).mono eG2 rv3)) (ev_var ru) (hc.inLots r hrm m hmr)) rfl rfl) (ev_var (R := pN (c.tld n).g) rfl))).eq (by simp), fun _ => ev_tup (ea_cons (ev_var ru) (ea_one (ev_var ((pN n).mono eG2 rp3))))⟩
        · have k5 := s5.keep k3.1 (e4 _ _ k3.2)
          refine ⟨F4, s3.a.trans s5.a, s5.b.mut k5.1, (((sF.trans s3).ext e4).trans s5).mut hfl k5.1, eGF.trans (s3.a.trans s5.a), ⟨_, _, _, rfl⟩, k5.1, acc ++ zs, upd_same, ?_⟩
          rw [flat_take _ _ j n hn, ← List.append_assoc, List.map_append]
          exact (rF.mono (s3.a.trans s5.a)).append rz
      · rintro σ' F F1 eF eF1 ⟨sF, eGF, ⟨y, z, u', rfl⟩, nF, acc, gF, rF⟩
        refine ⟨F, eGF, eF1, sF, ⟨_, _, _, _, rfl⟩, nF, acc, gF, ?_⟩
        rw [List.length_map, List.take_length] at rF
        rw [flat_take _ _ i r hr2]
        exact rF
    · rintro σ' G G1 eG eG1 ⟨sG, ⟨x, y, z, u, rfl⟩, nG, acc, gG, rA⟩
      rw [List.length_map, List.take_length] at rA
      have eS : Ex (upd G fl (.lst acc)) G1 := eG1.put gG
      have sN : Sep H H1 (upd G fl (.lst acc)) G1 := sG.own hfl nG gG
      exact s_ret eS (ev_sortedLk (ls := c.links) (ev_var (R := pLks c.links) ⟨fl, acc, rfl, upd_same, rA.mono (Ex.new nG)⟩)) (q.go sN)
end
end Rb
set_option Elab.async false
set_option linter.all false
set_option maxRecDepth 100000
set_option maxHeartbeats 3200000
/-! Walks: nearest. -/
namespace Rb
open PySem PySem.Spec PyProof.Rows L2
theorem sep0 {H H1 G : Hp} (e : Ex H H1) (e1 : Ex H1 G) : Sep H H1 H G := ⟨Ex.refl _, e.trans e1, e1, fun _ _ h => h, fun _ _ h => h⟩
theorem frz_ne {H : Hp} {d b : Addr} {od : Obj} {kv : List (Key × V)} (h : b ≠ d) : frzD H d od kv b = H b := upd_ne h
/-- nothing known -/
abbrev noH : Hp := fun _ => none
theorem ex0 {H : Hp} : Ex noH H := fun _ _ h => by cases h
section
variable {K : PySem.W.Frag} {σ : L2.St} {H H1 : Hp} {tz tb tu : TS} {D : Ends} {te td ty tv : TE} {c : TT} {i : Nat}
theorem q_disp1 {a : Nat} {k : Key} {v : V} (hs : σ[a]? = some (some (kV k))) (kk : ∀ p, H1 p = none → tz D (σ.set i (some (.ref p))) (upd H1 p (.dK [(k, v)]))) : tSeq (tAsg (tDisp [(tVar a, tC v)]) (gName i)) tz D σ H1 := fun p hp =>
  ⟨kV k, hs, upd_same, [(k, v)], rfl, Nat.le_of_ble_eq_true rfl, by
    have h := kk p hp
    rw [← upd_upd (H := H1) (a := p) (o := .dK [])] at h
    exact h⟩
theorem q_lst1 {a : Nat} {v : V} (hs : σ[a]? = some (some v)) (kk : ∀ p, H1 p = none → tz D (σ.set i (some (.ref p))) (upd H1 p (.lst [v]))) : tSeq (tAsg (tLst (tCons (tVar a) tNil)) (gName i)) tz D σ H1 := ⟨v, hs, Nat.le_trans (show [v].length ≤ 1 from Nat.le_refl 1) (by decide), kk⟩
/-- while: a word with a measure -/
theorem q_while (Pv : Nat → L2.St → Hp → Prop) (m : Nat) (h0 : Pv m σ H1)
    (hs : ∀ m σ' G1, Pv m σ' G1 → ∃ Hk b, Ex Hk G1 ∧ EvT c σ' Hk b ∧ (b = true → ∀ G2, Ex G1 G2 → tb { D with nx := fun σ4 G4 => ∃ m' < m, Pv m' σ4 G4, ct := fun σ4 G4 => ∃ m' < m, Pv m' σ4 G4, bk := tz D } σ' G2) ∧ (b = false → ∀ G2, Ex G1 G2 → tz D σ' G2)) :
    tSeq (tWhile c tb) tz D σ H1 := by
  refine ⟨Pv, ⟨m, h0⟩, fun m σ' G1 p => ?_⟩
  obtain ⟨Hk, b, e, ht, h1, h2⟩ := hs m σ' G1 p
  refine ht G1 e _ fun G2 e2 => ?_
  cases b with
  | true => exact ⟨fun σ4 G4 => ∃ m' < m, Pv m' σ4 G4, fun σ4 G4 h => h, h1 rfl G2 e2⟩
  | false => exact h2 rfl G2 e2
theorem s_dputR {d : Addr} {kvs : List (Key × V)} {k : Key} {v : V} (e : Ex H H1) (hv : Ev tv σ H (pV v)) (ht : Ev td σ H (pV (.ref d))) (hk : Ev ty σ H (pV (kV k))) (hd : H1 d = some (.dK kvs)) (hz : kvs.length < 100000) (kk : ∀ H2, Ex H1 H2 → D.nx σ (upd H2 d (.dK (putK kvs k v)))) : sDPut td ty tv D σ H1 :=
  hv H1 e _ fun v' G1 A1 s1 r1 => (ht.mono s1.a) A1 s1.b _ fun x G2 A2 s2 r2 => ((hk.mono s1.a).mono s2.a) A2 s2.b _ fun y G3 A3 s3 r3 => by
    have r1 : v' = v := r1
    have r2 : x = .ref d := r2
    have r3 : y = kV k := r3
    subst r1 r2 r3
    have e3 := s1.c.trans (s2.c.trans s3.c)
    exact ⟨d, _, rfl, DPut.k (e3 _ _ hd) (Nat.lt_of_lt_of_le hz (by decide)), kk A3 e3⟩
theorem q_dputR {d : Addr} {kvs : List (Key × V)} {k : Key} {v : V} (e : Ex H H1) (hv : Ev tv σ H (pV v)) (ht : Ev td σ H (pV (.ref d))) (hk : Ev ty σ H (pV (kV k))) (hd : H1 d = some (.dK kvs)) (hz : kvs.length < 100000) (kk : ∀ H2, Ex H1 H2 → tz D σ (upd H2 d (.dK (putK kvs k v)))) : tSeq (sDPut td ty tv) tz D σ H1 :=
  s_dputR (D := { D with nx := tz D }) e hv ht hk hd hz kk
end
theorem cut_from1 (v : V) (vs : List V) : cutV (v :: vs) (some 1) none = vs := by
  unfold cutV
  rw [show (some (1 : Int)) = some ((1 : Nat) : Int) from rfl, HT.sIx_nat, HT.sIx_none]
  simp
section
variable {P : Program} {w : World} {K : PySem.W.Frag} {mg : Str → Option Value} {base : Heap} {CL CC : Addr}
abbrev s_nearest : Stmt := topS 30
theorem sc_nearest : FnScope ["edges", "goal", "far", "waiting", "here", "item"] ["edges", "goal"] (defScope s_nearest) := ⟨rfl, rfl, rfl, by decide +kernel, rfl, by decide +kernel, by decide +kernel⟩
abbrev n_nearest : List Str := ["edges", "goal", "far", "waiting", "here", "item"]
abbrev F_nearest (P : Program) (w : World) (K : PySem.W.Frag) (mg : Str → Option Value) (base : Heap) : Prop := Fn P w K mg base 1 "nearest" ["edges", "goal"] (spN (fun a : EdgeD × Str => [pEdges a.1, pS a.2]) (fun a => a.2 ∈ a.1.map Prod.fst ∧ (a.1.map Prod.fst).Nodup ∧ a.1.length ≤ 50) fun a => pE (FarOk a.1 a.2) pFar)
theorem w_nearest (Z : Bz K mg CL CC) (D : Df K mg "nearest" s_nearest [] []) : F_nearest P w K mg base :=
  fn_mk (k := 0) D sc_nearest (fun _ => rfl) (bnd2 fun _ _ _ _ _ _ _ _ => rfl) fun f cdv A outer s H1 vs Q X a H hr e hp h q => by
    have sc := sc_nearest
    have hu := hu_of hr
    obtain ⟨E, goal⟩ := a
    obtain ⟨v, v2, rfl, rv, eg⟩ := all2 h
    have eg : v2 = .str goal := eg
    subst eg
    obtain ⟨hg, hnd, hfew⟩ : goal ∈ E.map Prod.fst ∧ (E.map Prod.fst).Nodup ∧ E.length ≤ 50 := hp
    obtain ⟨de, kv, rfl, hE⟩ := edge_at rv
    refine ⟨_, (pss_cons (ps_set (i := 2) sc.nd rfl (Or.inl rfl) (pe_disp (pps_cons (pv 1) pe_int pps_nil) (by rfl) (by rfl) (fun z => by cases z) (by decide)))
    (pss_cons (ps_set (i := 3) sc.nd rfl (Or.inl rfl) (pe_lst (pa_cons (pv 1) pa_nil)))
    (pss_cons (ps_while PassesOwn.never (ptTruth K (pv 3) (by intro _; rfl)) (pss_cons (ps_par (i := 4) (j := 3) (by rfl) sc.nd rfl rfl (by decide) rfl rfl (pa_cons (pe_ix (ixL K) (pv 3) pe_int (fun _ _ => rfl)) (pa_cons (pe_slice (slList K) (pv 3) (po_some pe_int) po_none) pa_nil)) (by rfl))
    (pss_one (ps_lock (ps_for PassesOwn.never rfl (pi_keys (pv 0)) (pg_name (i := 5) sc.nd rfl (by first | exact Or.inl rfl | exact Or.inr rfl)) (pss_one (ps_if (PW.pt (pw_and (pt_cmp (pc_dnotin hu (pv 5) (pv 2)) (by rfl)) (pw_and1 (pt_cmp (pc_din hu (pv 4) (pe_dget hu (pv 0) (pv 5) (fun _ _ => rfl))) (by rfl))))) (pss_cons (ps_dput hu (pv 2) (pv 5) (pe_op op_add (pe_dget hu (pv 2) (pv 4) (fun _ _ => rfl)) pe_int) rfl)
    (pss_one (ps_expr (pe_bm PySem.F.plainAttrs_list PySem.F.slot_list_append PySem.F.type_list_append mt_append (pv 3) (pa_cons (pv 5) pa_nil))))) pss_nil)))))))
    (pss_one (ps_ret (pv 2)))))), ?_⟩
    refine q_disp1 (k := .inr goal) rfl fun fa hfa => ?_
    refine q_lst1 (v := .str goal) rfl fun wa hwa => ?_
    have hfaH := e.back hfa
    refine q_while (fun m σ G1 => ∃ far wt x y wa, σ = [some (.ref de), some (.str goal), some (.ref fa), some (.ref wa), x, y] ∧ FInv E goal far wt (fun _ _ => False) ∧ m = (E.length - far.length) + wt.length ∧ m ≤ 60 ∧ Ex H1 G1 ∧ G1 fa = some (.dK (dV far)) ∧ G1 wa = some (.lst (wt.map V.str)) ∧ H1 wa = none)
      ((E.length - 1) + 1) ⟨[(goal, 0)], [goal], _, _, wa, rfl, FInv.init hg, rfl, by omega, (Ex.new hfa).trans (Ex.new hwa), ?_, upd_same, ?_⟩ ?_
    · rw [upd_ne (ne_of_none upd_same hwa)]
      exact upd_same
    · exact (Ex.new hfa).back hwa
    rintro m σ' G1 ⟨far, wt, x, y, wa, rfl, hI, rfl, hM, eG, gF, gW, nW⟩
    have hnW := e.back nW
    refine ⟨upd noH wa (.lst (wt.map V.str)), _, ex0.put gW, et_truL (ev_var (R := pL (wt.map pS)) ⟨wa, _, rfl, upd_same, all2_of_pV (f := V.str)⟩), fun z G2 e2 => ?_, fun z G2 e2 => ?_⟩
    · cases wt with
      | nil => cases z
      | cons here wt =>
        have gF2 := e2 _ _ gF
        rw [List.length_cons] at hM
        have gW2 := e2 _ _ gW
        have e12 := eG.trans e2
        refine ⟨.ref wa, rfl, wa, _, 0, .str here, rfl, rfl, SqL.of gW2, atI_nat (j := 0) rfl, .ref wa, rfl, 1, rfl, wa, _, rfl, SqL.of gW2, fun wn hwn => ⟨_, _, rfl, ?_⟩⟩
        rw [show cutV ((here :: wt).map V.str) (some 1) none = wt.map V.str from cut_from1 _ _]
        have nwn := e12.back hwn
        have nwnH := e.back nwn
        have ed := hE.at_
        have ed1 := e _ _ ed
        have e3 : Ex H1 (upd G2 wn (.lst (wt.map V.str))) := e12.mut nwn
        have hdn : ∀ {b : Addr}, H1 b = none → b ≠ de := fun {b} hb => Ne.symm (ne_of_none ed1 hb)
        refine ⟨de, .dK kv, e3 _ _ ed1, True.intro, fun od => ?_⟩
        have lE : Ex (frzD H de od kv) (frzD (upd G2 wn (.lst (wt.map V.str))) de od kv) := Ex.lock (e.trans e3)
        have lE1 : Ex (frzD H1 de od kv) (frzD (upd G2 wn (.lst (wt.map V.str))) de od kv) := Ex.lock e3
        refine s_for lE (ei_keys (as := E.map Prod.fst) (key := fun u => .inr u) (ev_var rfl) hE.keys)
          (fun j σ F F1 => Ex (frzD H1 de od kv) F1 ∧ F fa = none ∧ F wn = none ∧ ∃ far' w2 x, σ = [some (.ref de), some (.str goal), some (.ref fa), some (.ref wn), some (.str here), x] ∧ (FInv E goal far' w2 fun x y => y = here ∧ x ∈ (E.map Prod.fst).drop j) ∧ here ∈ far'.map Prod.fst ∧ (E.length - far'.length) + w2.length + 1 ≤ (E.length - far.length) + (wt.length + 1) ∧ F1 fa = some (.dK (dV far')) ∧ F1 wn = some (.lst (w2.map V.str)))
          (fun H' H2 s => ?_) ?_ ?_
        · have aF : ∀ G : Hp, frzD G de od kv fa = G fa := fun G => upd_ne (hdn hfa)
          have aW : ∀ G : Hp, frzD G de od kv wn = G wn := fun G => upd_ne (hdn nwn)
          have bF : upd G2 wn (.lst (wt.map V.str)) fa = some (.dK (dV far)) := (upd_ne (ne_of_none gF2 hwn)).trans gF2
          have bW : upd G2 wn (.lst (wt.map V.str)) wn = some (.lst (wt.map V.str)) := upd_same
          have cF := (aF _).trans bF
          have cW := (aW _).trans bW
          have k1 := s.keep ((aF H).trans hfaH) cF
          have k2 := s.keep ((aW H).trans nwnH) cW
          exact ⟨lE1.trans s.c, k1.1, k2.1, far, wt, _, rfl, hI.pop, hI.ws here List.mem_cons_self, Nat.le_refl _, k1.2, k2.2⟩
        · rintro j p u σ' F F1 F' F2 hpj ⟨eF, n1, n2, far', w2, x', rfl, hJ, hh, hm, gF', gW'⟩ eHF s2 rp
          obtain ⟨item, hj, rfl⟩ := map_get hpj
          have rp : u = .str item := rp
          subst rp
          have k1 := s2.keep n1 gF'
          have k2 := s2.keep n2 gW'
          have hfl := hJ.len
          refine bnd_name F2 s2.b _ ?_
          obtain ⟨a, iv, h1, h2, h3, h4, h5, h6⟩ := hE.inner item (List.mem_of_getElem? hj)
          obtain ⟨n, hn⟩ := lookup_of hh
          have eHl : Ex (frzD H de od kv) F' := eHF.trans s2.a
          have eT : Ex (upd F' fa (.dK (dV far'))) F2 := s2.b.put k1.2
          have eHT : Ex (frzD H de od kv) (upd F' fa (.dK (dV far'))) := eHl.trans (Ex.new k1.1)
          have rdE : Rd (upd F' fa (.dK (dV far'))) de (.dK kv) := .inr ⟨od, eHT _ _ upd_same⟩
          have rdI : Rd (upd F' fa (.dK (dV far'))) a (.dK iv) := .inl (eHT _ _ (by rw [frzD, upd_ne h3]; exact h2))
          have rdF : Rd (upd F' fa (.dK (dV far'))) fa (.dK (dV far')) := .inl upd_same
          refine s_if (b := !(far'.lookup item).isSome && decide (isEd E item here)) eT (et_and (et_B (ev_dninR (k := .inr item) (ev_var rfl) (ev_var rfl) rdF (by
            rw [valV_dV]
            cases far'.lookup item <;> rfl))) fun _ => et_B (ev_dinR (k := .inr here) (ev_var rfl) (ev_dgetR (k := .inr item) (ev_var rfl) (ev_var rfl) rdE h1 rfl) rdI (h5 here))) (fun z F3 e3 => ?_) fun z F3 e3 => ?_
          · rw [Bool.and_eq_true] at z
            have z1 : item ∉ far'.map Prod.fst := by
              have z1 := z.1
              cases e : far'.lookup item with
              | none => exact lookup_none e
              | some m =>
                rw [e] at z1
                cases z1
            have z2 : isEd E item here := of_decide_eq_true z.2
            have hA := hJ.add hj z1 z2 hn
            have hAl := hA.len
            rw [List.length_append, List.length_singleton] at hAl
            refine q_dputR (d := fa) (kvs := dV far') (k := .inr item) (v := .int ((n + 1 : Nat) : Int)) (eT.trans e3) ?_ (ev_var rfl) (ev_var rfl) (e3 _ _ k1.2) (by
              rw [List.length_map]
              omega) fun F4 e4 => ?_
            · exact (ev_I0 (i := (n : Int)) (j := 1) (ev_dgetR (k := .inr here) (R := pN n) (ev_var rfl) (ev_var rfl) rdF (by rw [valV_dV, hn] <;> rfl) rfl) ev_c).eq (by simp)
            · rw [putK_dV z1]
              have gW4 : upd F4 fa (.dK (dV (far' ++ [(item, n + 1)]))) wn = some (.lst (w2.map V.str)) := by
                rw [upd_ne (ne_of k2.2 k1.2 (fun z => nomatch z))]
                exact e4 _ _ (e3 _ _ k2.2)
              refine s_app (K := K) (H := noH) (R := pS item) (i := 3) (l := wn) ex0 rfl gW4 rfl (ev_var rfl) (by
                rw [List.length_map]
                omega) fun v4 _ F5 s5 r5 => ?_
              have r5 : v4 = .str item := r5
              subst r5
              have g5 := s5.c _ _ gW4
              have gF5 := s5.c fa _ upd_same
              have nfw : fa ≠ wn := Ne.symm (ne_of gW4 upd_same (fun z => nomatch z))
              have e34 : Ex F2 F4 := e3.trans e4
              have eF4 : Ex (frzD H1 de od kv) F4 := (eF.trans s2.c).trans e34
              have nl1 : frzD H1 de od kv fa = none := by rw [frz_ne (hdn hfa)]; exact hfa
              have nl2 : frzD H1 de od kv wn = none := by rw [frz_ne (hdn nwn)]; exact nwn
              refine ⟨F', s2.a, ?_, (((eF4.mut nl1).trans s5.c).mut nl2), k1.1, k2.1, far' ++ [(item, n + 1)], w2 ++ [item], _, rfl, hA, ?_, ?_, ?_, ?_⟩
              · exact (((s2.b.trans e34).mut k1.1).trans s5.c).mut k2.1
              · rw [List.map_append, List.mem_append]
                exact .inl hh
              · rw [List.length_append, List.length_append, List.length_singleton, List.length_singleton]
                omega
              · rw [upd_ne nfw]
                exact gF5
              · rw [upd_same, List.map_append]
                rfl
          · have z0 : ¬ (item ∉ far'.map Prod.fst ∧ isEd E item here) := fun ⟨q1, q2⟩ => by
              rw [lookup_not q1, decide_eq_true q2] at z
              cases z
            exact ⟨F', s2.a, s2.b.trans e3, (eF.trans s2.c).trans e3, k1.1, k2.1, far', w2, _, rfl, hJ.skip hj z0, hh, hm, e3 _ _ k1.2, e3 _ _ k2.2⟩
        · rintro σ' F F1 eHF eF1 ⟨eF, n1, n2, far', w2, x', rfl, hJ, hh, hm, gF', gW'⟩
          have hde : F1 de = some (.frz od (.dK kv)) := eF _ _ upd_same
          refine ⟨hde, (E.length - far'.length) + w2.length, by rw [List.length_cons]; omega, far', w2, _, _, wn, rfl, ?_, rfl, by omega, fun b o hb => ?_, ?_, ?_, nwn⟩
          · rw [List.length_map, List.length_map] at hJ
            exact hJ.turn
          · by_cases q1 : b = de
            · rw [q1, upd_same, ← ed1, ← q1]
              exact hb
            · rw [upd_ne q1]
              exact eF b o (by rw [frzD, upd_ne q1]; exact hb)
          · rw [upd_ne (hdn hfa)]
            exact gF'
          · rw [upd_ne (hdn nwn)]
            exact gW'
    · cases wt with
      | cons a wt => cases z
      | nil =>
        have sN := (sep0 e (eG.trans e2)).own hfa hfaH (e2 _ _ gF)
        exact ⟨.ref fa, rfl, q _ _ _ sN ⟨far, hI.done, dV_far upd_same⟩⟩
end
end Rb
set_option Elab.async false
set_option linter.all false
set_option maxRecDepth 100000
set_option maxHeartbeats 3200000
/-! Walks: depths. -/
namespace Rb
open PySem PySem.Spec PyProof.Rows L2
theorem rd_frz {X : Hp} {d da : Addr} {od : Obj} {kv m : List (Key × V)} (h : X da = some (.dK m)) (hd : X d = some (.dK kv)) : Rd (frzD X d od kv) da (.dK m) := by
  by_cases q : da = d
  · subst q
    rw [h] at hd
    cases hd
    exact .inr ⟨od, upd_same⟩
  · exact .inl ((frz_ne q).trans h)
theorem rd_frzR {X : Hp} {d da : Addr} {od : Obj} {kv m : List (Key × V)} (h : Rd X da (.dK m)) (hd : X d = some (.dK kv)) : Rd (frzD X d od kv) da (.dK m) := by
  rcases h with h | ⟨o, h⟩
  · exact rd_frz h hd
  · refine .inr ⟨o, (frz_ne fun q => ?_).trans h⟩
    rw [q, hd] at h
    cases h
theorem outs_of {E : EdgeD} (hn : (E.map Prod.fst).Nodup) : ∀ {q : Str × List (Str × (Nat × Nat))}, q ∈ E → outs E q.1 = q.2 := by
  intro q hq
  unfold outs
  have h : E.lookup q.1 = some q.2 := by
    induction E with
    | nil => cases hq
    | cons p E ih =>
      rw [List.map_cons, List.nodup_cons] at hn
      obtain ⟨a, b⟩ := p
      rw [List.lookup_cons]
      rcases List.mem_cons.mp hq with z | z
      · rw [z]
        simp
      · have hne : q.1 ≠ a := fun e => hn.1 (by
          show a ∈ E.map Prod.fst
          rw [← e]
          exact List.mem_map.mpr ⟨q, z, rfl⟩)
        have : (q.1 == a) = false := by simpa using hne
        rw [this]
        exact ih hn.2 z
  rw [h]
  rfl
theorem ex_unlock {X F : Hp} {a : Addr} {od : Obj} {iv : List (Key × V)} (e : Ex (frzD X a od iv) F) (ha : X a = some (.dK iv)) : Ex X (upd F a (.dK iv)) := fun b o hb => by
  by_cases q : b = a
  · subst q
    rw [upd_same, ← ha]
    exact hb
  · rw [upd_ne q]
    exact e b o ((frz_ne q).trans hb)
/-- a dict from items to numbers -/
abbrev dD (items : List Str) (d : Str → Nat) : List (Key × V) := items.map fun x => ((.inr x : Key), V.int (d x : Int))
theorem valV_dD {items : List Str} {d : Str → Nat} {x : Str} (h : x ∈ items) : valV (dD items d) (.inr x) = some (.int (d x : Int)) := by
  induction items with
  | nil => cases h
  | cons y ys ih =>
    by_cases e : y = x
    · subst e
      exact valV_pos rfl
    · have e2 : ¬ ((.inr y : Key) = .inr x) := fun z => e (by injection z)
      show valV ((.inr y, V.int (d y : Int)) :: dD ys d) (.inr x) = _
      rw [valV_neg e2]
      exact ih (by
        rcases List.mem_cons.mp h with z | z
        · exact absurd z.symm e
        · exact z)
theorem putK_dD {items : List Str} {d : Str → Nat} {x : Str} {n : Nat} (h : x ∈ items) : putK (dD items d) (.inr x) (.int (n : Int)) = dD items fun y => if y = x then n else d y := by
  unfold putK
  have ha : ((dD items d).any fun kv => decide (kv.1 = .inr x)) = true := by
    rw [List.any_eq_true]
    exact ⟨(.inr x, .int (d x : Int)), List.mem_map.mpr ⟨x, h, rfl⟩, decide_eq_true rfl⟩
  rw [if_pos ha]
  unfold dD
  rw [List.map_map]
  refine List.map_congr_left fun y _ => ?_
  show (if (Sum.inr y : Key) = .inr x then ((.inr y : Key), V.int (n : Int)) else (.inr y, .int (d y : Int))) = _
  by_cases e : y = x
  · subst e
    rw [if_pos rfl]
    show _ = ((.inr y : Key), V.int ((if y = y then n else d y : Nat) : Int))
    rw [if_pos rfl]
  · have e2 : ¬ ((.inr y : Key) = .inr x) := fun z => e (by injection z)
    rw [if_neg e2]
    show _ = ((.inr y : Key), V.int ((if y = x then n else d y : Nat) : Int))
    rw [if_neg e]
theorem all_congr {α : Type} {f g : α → Bool} : ∀ {xs : List α}, (∀ x ∈ xs, f x = g x) → xs.all f = xs.all g
  | [], _ => rfl
  | x :: xs, h => by
    rw [List.all_cons, List.all_cons, h x List.mem_cons_self, all_congr fun y hy => h y (List.mem_cons_of_mem _ hy)]
theorem dEq_dD {items : List Str} {g d : Str → Nat} : dEq (dD items g) (dD items d) = decide (∀ x ∈ items, g x = d x) := by
  have e1 : dEq (dD items g) (dD items d) = items.all fun x => decide (d x = g x) := by
    unfold dEq dD
    rw [List.all_map]
    refine all_congr fun x hx => ?_
    show decide (valV (dD items d) (.inr x) = some (.int (g x : Int))) = _
    rw [valV_dD hx]
    by_cases e : d x = g x
    · simp [e]
    · have : ¬ ((d x : Int) = (g x : Int)) := by omega
      simp [e, this]
  rw [e1]
  by_cases h : ∀ x ∈ items, g x = d x
  · rw [decide_eq_true h, List.all_eq_true]
    exact fun x hx => decide_eq_true (h x hx).symm
  · rw [decide_eq_false h, List.all_eq_false]
    obtain ⟨x, hx⟩ := Classical.not_forall.mp h
    obtain ⟨h1, h2⟩ := Classical.not_imp.mp hx
    exact ⟨x, h1, by simpa using fun z => h2 z.symm⟩
/-- one item's edges -/
def gIn (d : Str → Nat) (u : Str) (ks : List Str) (acc : Str → Nat) (v : Str) : Nat := if v ∈ ks then max (acc v) (d u + 1) else acc v
def gOut (E : EdgeD) (d : Str → Nat) : (Str → Nat) → Str → Nat := fun acc => E.foldl (fun a q => gIn d q.1 (q.2.map Prod.fst) a) acc
theorem gOut_grow (d : Str → Nat) : ∀ (E : EdgeD) (acc : Str → Nat) (v : Str), gOut E d acc v = E.foldl (fun a q => if v ∈ q.2.map Prod.fst then max a (d q.1 + 1) else a) (acc v)
  | [], _, _ => rfl
  | q :: E, acc, v => by
    show gOut E d (gIn d q.1 (q.2.map Prod.fst) acc) v = _
    rw [gOut_grow d E]
    rfl
theorem gOut_eq (E : EdgeD) (d : Str → Nat) : gOut E d d = grow E d := funext fun v => gOut_grow d E d v
theorem gOut_take {E : EdgeD} {d : Str → Nat} {acc : Str → Nat} {i : Nat} {q : Str × List (Str × (Nat × Nat))} (h : E[i]? = some q) : gOut (E.take (i + 1)) d acc = gIn d q.1 (q.2.map Prod.fst) (gOut (E.take i) d acc) := by
  have hi := List.getElem?_eq_some_iff.mp h
  unfold gOut
  rw [List.take_succ_eq_append_getElem hi.1, List.foldl_append, hi.2]
  rfl
theorem gIn_take {d : Str → Nat} {u : Str} {ks : List Str} {acc : Str → Nat} {j : Nat} {x : Str} (h : ks[j]? = some x) : gIn d u (ks.take (j + 1)) acc = fun y => if y = x then max (gIn d u (ks.take j) acc x) (d u + 1) else gIn d u (ks.take j) acc y := by
  have hi := List.getElem?_eq_some_iff.mp h
  funext y
  unfold gIn
  rw [List.take_succ_eq_append_getElem hi.1, hi.2]
  by_cases e : y = x
  · subst e
    simp
    split <;> omega
  · simp [e]
section
variable {P : Program} {w : World} {K : PySem.W.Frag} {mg : Str → Option Value} {base : Heap} {CL CC : Addr}
theorem EdgeOk.inner {c : CaseD} {E : EdgeD} (h : EdgeOk c E) (hc : c.Ok) {u v : Str} (he : isEd E u v) : v ∈ c.items := by
  unfold isEd outs at he
  cases e : E.lookup u with
  | none =>
    rw [e] at he
    simp at he
  | some r =>
    rw [e] at he
    obtain ⟨q, hq, rfl⟩ := List.mem_map.mp he
    obtain ⟨h1, h2, h3⟩ := h.link _ (lookup_mem e) q hq
    rw [← h3]
    refine hc.itemOk _ ?_
    obtain ⟨r2, hr2, h5⟩ := List.mem_flatMap.mp h1
    obtain ⟨p, hp, h6⟩ := List.mem_flatMap.mp h5
    unfold CaseD.linksAt at h6
    obtain ⟨a, _, e2⟩ := List.mem_map.mp h6
    rw [← e2]
    exact hc.inLots r2 hr2 p hp
abbrev s_Case__depths : Stmt := inClass (topS 31) 16
theorem sc_Case__depths : FnScope ["self", "edges", "depths", "item", "_", "grown", "other"] ["self", "edges"] (defScope s_Case__depths) := ⟨rfl, rfl, rfl, by decide +kernel, rfl, by decide +kernel, by decide +kernel⟩
abbrev n_Case__depths : List Str := ["self", "edges", "depths", "item", "_", "grown", "other"]
abbrev M_depths (P : Program) (w : World) (K : PySem.W.Frag) (mg : Str → Option Value) (base : Heap) (CC : Addr) : Prop := Me P w K mg base 1 CC "_depths" ["self", "edges"] (spN (fun a : CaseD × EdgeD => [pCase CC a.1, pEdges a.2]) (fun a => a.1.Ok ∧ EdgeOk a.1 a.2) fun a => pDepths a.2)
theorem w_depths (Z : Bz K mg CL CC) (D : Dm K CC "_depths" "Case._depths" s_Case__depths) : M_depths P w K mg base CC :=
  me_mk (k := 0) D sc_Case__depths (fun _ => rfl) (bnd2 fun _ _ _ _ _ _ _ _ => rfl) fun f cdv A outer s H1 vs Q X a H hr e hp h q => by
    have sc := sc_Case__depths
    have hu := hu_of hr
    obtain ⟨c, E⟩ := a
    obtain ⟨v, v2, rfl, rv, re⟩ := all2 h
    obtain ⟨hc, hEo⟩ : c.Ok ∧ EdgeOk c E := hp
    obtain ⟨de, kv, rfl, hE⟩ := edge_at re
    have hkeys := hEo.keys
    have hmany := hc.many
    have hEl : E.length = c.items.length := by
      have := congrArg List.length hkeys
      simpa using this
    refine ⟨_, (pss_cons (ps_setDc (i := 2) (own := [("item", 3)]) (g := (gName 3)) (tt := tYes) rfl sc.nd rfl rfl (sw_trueD rfl rfl rfl (by decide +kernel)) (piList K (peFld K (pv 0) rfl)) (blkOk_by (N := n_Case__depths) (sc := defScope s_Case__depths) (by decide +kernel)) (fun _ _ _ _ _ => (pg_name (i := 3) sc.nd rfl (by first | exact Or.inl rfl | exact Or.inr rfl))) (fun _ _ _ _ _ => pts_nil) (fun _ _ _ _ _ => (pv 3)) (fun _ _ _ _ _ => pe_int))
    (pss_cons (ps_for PassesOwn.never rfl (pi_range1 (by rfl) Z.range (pa_cons (pe_callB (cLen K) (by rfl) Z.len PySem.boot_len (pa_cons (peFld K (pv 0) rfl) pa_nil)) pa_nil)) (pg_name (i := 4) sc.nd rfl (by first | exact Or.inl rfl | exact Or.inr rfl)) (pss_cons (ps_set (i := 5) sc.nd rfl (Or.inl rfl) (pe_callTy call_dictD (by rfl) Z.dict (by decide +kernel) (pa_cons (pv 2) pa_nil)))
    (pss_cons (ps_lock (ps_for PassesOwn.never rfl (pi_keys (pv 1)) (pg_name (i := 3) sc.nd rfl (by first | exact Or.inl rfl | exact Or.inr rfl)) (pss_one (ps_lock (ps_for PassesOwn.never rfl (pi_keys (pe_dget hu (pv 1) (pv 3) (fun _ _ => rfl))) (pg_name (i := 6) sc.nd rfl (by first | exact Or.inl rfl | exact Or.inr rfl)) (pss_one (ps_dput hu (pv 5) (pv 6) (pe_callB (call_max2 rfl) (by rfl) Z.max (by decide +kernel) (pa_cons (pe_dget hu (pv 5) (pv 6) (fun _ _ => rfl)) (pa_cons (pe_op op_add (pe_dget hu (pv 2) (pv 3) (fun _ _ => rfl)) pe_int) pa_nil))) rfl)))))))
    (pss_cons (ps_if (pt_cmpR (op_eqDi hr.units0) (pv 5) (pv 2) (nomark _)) (pss_one (ps_ret (pv 2))) pss_nil)
    (pss_one (ps_set (i := 2) sc.nd rfl (Or.inl rfl) (pv 5)))))))
    (pss_one (ps_ret pe_non)))), ?_⟩
    refine q_asg e (R := pD (c.items.map fun x => ((.inr x : Key), pN 0))) (ev_dc (key := fun x => .inr x) (ei_list (ev_c_items Z (ev_var rv))) (by omega) ?_ fun x u G hx eG ru => ⟨_, bnd_name, rfl, ev_var ru, ev_c⟩) fun vd G0 A0 s0 r0 => ?_
    · exact List.Pairwise.map _ (fun a b hab z => hab (by injection z)) hc.items
    obtain ⟨da0, vs0, rfl, hd0, hx0⟩ := r0
    have g0 : G0 da0 = some (.dK (dD c.items (depthAt E 0))) := by
      rw [hd0]
      congr 2
      rw [List.map_map] at hx0 ⊢
      rw [all2_pV (f := fun _ : Str => V.int 0) (as := c.items) hx0, List.zip_map']
      rfl
    have e1 := s0.c
    have eA0 := e.trans e1
    refine q_for (H := H) eA0 (ei_range (n := c.items.length) (ea_one ((ev_len (ev_c_items Z (ev_var rv))).eq (by simp))) (by omega))
      (fun k σ F F1 => Ex H1 F1 ∧ ∃ da x y z u, σ = [some v, some (.ref de), some (.ref da), x, y, z, u] ∧ F1 da = some (.dK (dD c.items (depthAt E k))) ∧ ∀ i < k, ¬ stable E i)
      (fun H' H2 s => ⟨e1.trans s.c, da0, _, _, _, _, rfl, s.c _ _ (s0.b _ _ g0), fun i hi => by omega⟩) ?_ ?_
    · rintro k p u σ' F F1 F' F2 hpk ⟨eF, da, x, y, z, u', rfl, gD, hst⟩ eHF s2 rp
      obtain ⟨k', hk', rfl⟩ := map_get hpk
      generalize hpe : u = p' at *
      have gD2 := s2.c _ _ gD
      have e2 := eF.trans s2.c
      refine bnd_name F2 s2.b _ ?_
      refine ⟨.ref da, rfl, da, _, rfl, .inl gD2, fun gr hgr => ?_⟩
      show tSeq (tLock _) _ _ _ _
      have hcp : F2 gr = none := hgr
      have ed := hE.at_
      have ed1 := e _ _ ed
      have ed2 := e2 _ _ ed1
      have ngr1 := e2.back hgr
      have ngrH := e.back ngr1
      have gde : gr ≠ de := Ne.symm (ne_of_none ed2 hgr)
      have eHB : Ex H (upd F2 gr (.dK (dD c.items (depthAt E k)))) := (e.trans e2).mut ngrH
      refine ⟨de, .dK kv, (e2.mut ngr1) _ _ ed1, True.intro, fun od => ?_⟩
      have lE : Ex (frzD H de od kv) (frzD (upd F2 gr (.dK (dD c.items (depthAt E k)))) de od kv) := Ex.lock eHB
      have lE2 : Ex (frzD F2 de od kv) (frzD (upd F2 gr (.dK (dD c.items (depthAt E k)))) de od kv) := Ex.lock (Ex.new hgr)
      have rdD : Rd (frzD F2 de od kv) da (.dK (dD c.items (depthAt E k))) := rd_frz gD2 ed2
      refine s_for lE (ei_keys (as := E.map Prod.fst) (key := fun u => .inr u) (ev_var rfl) hE.keys)
        (fun i σ F F1 => Ex (frzD F2 de od kv) F1 ∧ F gr = none ∧ ∃ x y, σ = [some v, some (.ref de), some (.ref da), x, some p', some (.ref gr), y] ∧ F1 gr = some (.dK (dD c.items (gOut (E.take i) (depthAt E k) (depthAt E k)))))
        (fun H' H2 s => ?_) ?_ ?_
      · have c1 : frzD (upd F2 gr (.dK (dD c.items (depthAt E k)))) de od kv gr = some (.dK (dD c.items (depthAt E k))) := (frz_ne gde).trans upd_same
        have k1 := s.keep ((frz_ne gde).trans ngrH) c1
        exact ⟨lE2.trans s.c, k1.1, _, _, rfl, k1.2⟩
      · rintro i p u σ' J J1 J' J2 hpi ⟨eJ, nJ, x1, y1, rfl, gJ⟩ eHJ s3 rp3
        obtain ⟨it, hit, rfl⟩ := map_get hpi
        obtain ⟨qe, hqe, rfl⟩ := map_get hit
        have rp3 : u = .str qe.1 := rp3
        subst rp3
        have hum : qe.1 ∈ E.map Prod.fst := List.mem_map.mpr ⟨qe, List.mem_of_getElem? hqe, rfl⟩
        obtain ⟨a, iv, h1, h2, h3, h4, h5, h6⟩ := hE.inner qe.1 hum
        have hou : outs E qe.1 = qe.2 := outs_of (by rw [hkeys]; exact hc.items) (List.mem_of_getElem? hqe)
        have kJ := s3.keep nJ gJ
        refine bnd_name J2 s3.b _ ?_
        have eJ2 := eJ.trans s3.c
        have eHJ2 : Ex (frzD H de od kv) J' := eHJ.trans s3.a
        have ha2 : frzD F2 de od kv a = some (.dK iv) := (frz_ne h3).trans ((e.trans e2) _ _ h2)
        have haJ := eJ2 _ _ ha2
        have gna : gr ≠ a := Ne.symm (ne_of_none ((e.trans e2) _ _ h2) hgr)
        refine ⟨a, .dK iv, haJ, True.intro, fun od2 => ?_⟩
        have haH : frzD H de od kv a = some (.dK iv) := (frz_ne h3).trans h2
        refine s_for (H := frzD J' a od2 iv) (Ex.lock s3.b) (ei_keys (as := qe.2) (key := fun r => .inr r.1) (ev_dgetR (k := .inr qe.1) (ev_var rfl) (ev_var rfl) (.inr ⟨od, ?_⟩) h1 rfl) (by rw [h4, hou]))
          (fun j σ F F1 => Ex (frzD (frzD F2 de od kv) a od2 iv) F1 ∧ F gr = none ∧ ∃ y, σ = [some v, some (.ref de), some (.ref da), some (.str qe.1), some p', some (.ref gr), y] ∧ F1 gr = some (.dK (dD c.items (gIn (depthAt E k) qe.1 ((qe.2.map Prod.fst).take j) (gOut (E.take i) (depthAt E k) (depthAt E k))))))
          (fun H' H2 s => ?_) ?_ ?_
        · rw [frz_ne (Ne.symm h3)]
          exact eHJ2 _ _ upd_same
        · have c1 : frzD J2 a od2 iv gr = some (.dK (dD c.items (gOut (E.take i) (depthAt E k) (depthAt E k)))) := (frz_ne gna).trans kJ.2
          have k1 := s.keep ((frz_ne gna).trans kJ.1) c1
          refine ⟨(Ex.lock eJ2).trans s.c, k1.1, _, rfl, ?_⟩
          rw [k1.2]
          congr 3
        · rintro j p u σ' M M1 M' M2 hpj ⟨eM, nM, y2, rfl, gM⟩ eHM s4 rp4
          obtain ⟨r, hr2, rfl⟩ := map_get hpj
          have rp4 : u = .str r.1 := rp4
          subst rp4
          have kM := s4.keep nM gM
          have eM2 := eM.trans s4.c
          refine bnd_name M2 s4.b _ ?_
          have hri : r.1 ∈ c.items := hEo.inner hc (u := qe.1) (by
            unfold isEd
            rw [hou]
            exact List.mem_map.mpr ⟨r, List.mem_of_getElem? hr2, rfl⟩)
          have hqi : qe.1 ∈ c.items := by rw [← hkeys]; exact hum
          have rdM : Rd M2 da (.dK (dD c.items (depthAt E k))) := rd_ex (rd_frzR rdD ha2) eM2
          refine s_dputR (d := gr) (k := .inr r.1) (Ex.refl M2) (ev_max2 (ev_dgetR (k := .inr r.1) (ev_var rfl) (ev_var rfl) (.inl kM.2) (valV_dD hri) rfl) ((ev_I0 (i := ((depthAt E k qe.1 : Nat) : Int)) (j := 1) (ev_dgetR (k := .inr qe.1) (ev_var rfl) (ev_var rfl) rdM (valV_dD hqi) rfl) ev_c).eq (y := .int ((depthAt E k qe.1 + 1 : Nat) : Int)) (by simp))) (ev_var rfl) (ev_var rfl) kM.2 (by
            rw [List.length_map]
            omega) fun M3 e3 => ?_
          have nl : frzD (frzD F2 de od kv) a od2 iv gr = none := (frz_ne gna).trans ((frz_ne gde).trans hgr)
          refine ⟨M', s4.a, (s4.b.trans e3).mut kM.1, (eM2.trans e3).mut nl, kM.1, _, rfl, ?_⟩
          rw [upd_same, putK_dD hri, gIn_take (x := r.1) (get_map hr2)]
        · rintro σ' M M1 eHM eM1 ⟨eM, nM, y2, rfl, gM⟩
          rw [List.length_map] at gM
          have gM2 := gM
          rw [show (qe.2.map Prod.fst).take qe.2.length = qe.2.map Prod.fst from List.take_of_length_le (by rw [List.length_map]; exact Nat.le_refl _)] at gM2
          have eU := ex_unlock eM ha2
          refine ⟨eM _ _ upd_same, J', s3.a, ?_, eU, kJ.1, _, _, rfl, ?_⟩
          · exact ex_unlock (eHM.trans eM1) (eHJ2 _ _ haH)
          · rw [upd_ne gna, gOut_take hqe]
            exact gM2
      · rintro σ' J J1 eHJ eJ1 ⟨eJ, nJ, x1, y1, rfl, gJ⟩
        rw [List.length_map, List.length_map, List.take_length, gOut_eq] at gJ
        have eU := ex_unlock eJ ed2
        refine ⟨eJ _ _ upd_same, ?_⟩
        have gU : upd J1 de (.dK kv) gr = some (.dK (dD c.items (depthAt E (k + 1)))) := (upd_ne gde).trans gJ
        have dU := eU _ _ gD2
        show tSeq (tIfS (tTest (tOp rEqDi (tVar 5) (tVar 2))) (tRet (tVar 2)) tNext) (tAsg (tVar 5) (gName 2)) _ _ _
        have ht : EvT (tTest (tOp rEqDi (tVar 5) (tVar 2))) [some v, some (.ref de), some (.ref da), x1, some p', some (.ref gr), y1] (upd J1 de (.dK kv)) (decide (∀ x ∈ c.items, depthAt E (k + 1) x = depthAt E k x)) := fun A3 e3 Q3 q3 => by
          refine ⟨.ref gr, rfl, .ref da, rfl, gr, da, _, _, rfl, rfl, e3 _ _ gU, e3 _ _ dU, by rw [List.length_map, List.length_map], fun p hp => ?_, _, rfl, ?_⟩
          · obtain ⟨x, hx, rfl⟩ := List.mem_map.mp hp
            exact ⟨_, _, rfl, valV_dD hx⟩
          · rw [dEq_dD]
            exact q3 A3 (Ex.refl _)
        have e3 := e2.trans eU
        refine q_if (Ex.refl _) ht (fun z A3 e4 => ?_) fun z A3 e4 => ?_
        · have z := of_decide_eq_true z
          refine ⟨.ref da, rfl, q _ H A3 (sep0 e (e3.trans e4)) ⟨fun z => (nomatch z), fun h => ?_⟩⟩
          refine absurd (fun x hx => z x ?_) (h k ?_)
          · rw [← hkeys]
            exact hx
          · rw [hEl]
            exact (List.getElem?_eq_some_iff.mp hk').1 |> fun z => by rwa [List.length_range] at z
        · have z := of_decide_eq_false z
          refine ⟨.ref gr, rfl, F', s2.a, ((s2.b.trans eU).trans e4), e3.trans e4, gr, _, _, _, _, rfl, e4 _ _ gU, fun i hi => ?_⟩
          by_cases hik : i = k
          · subst hik
            exact fun hs => z fun x hx => hs x (by rw [hkeys]; exact hx)
          · exact hst i (by omega)
    · rintro σ' F F1 eHF eF1 ⟨eF, da, x, y, z, u, rfl, gD, hst⟩
      refine q _ H F1 (sep0 e eF) ⟨fun _ i hi => hst i ?_, fun _ => rfl⟩
      rw [List.length_map, List.length_range, ← hEl]
      exact hi
end
end Rb
set_option Elab.async false
set_option linter.all false
set_option maxRecDepth 100000
set_option maxHeartbeats 3200000
/-! Walks: ways and rings. -/
namespace Rb
open PySem PySem.Spec PyProof.Rows L2
theorem q_lockE {σ : L2.St} {H H1 : Hp} {te : TE} {R : Pr} {tz : TS} {D : Ends} {i : Nat} (e : Ex H H1) (h : Ev (tLockE te) σ H R) (k : ∀ v H' H2, Sep H H1 H' H2 → R.p H' v → tz D (σ.set i (some v)) H2) : tSeq (tLock (tAsg te (gName i))) tz D σ H1 := h H1 e _ k
theorem Way.snoc {c : CaseD} {lk : Nat × Nat} {z : Str} : ∀ {W : List (Nat × Nat)} {x y : Str}, Way c x y W → lk ∈ c.links → (c.tld lk.1).i = y → (c.tld lk.2).i = z → Way c x z (W ++ [lk])
  | [], x, y, h, h1, h2, h3 => by
    have h : x = y := h
    exact ⟨h1, h2.trans h.symm, h3⟩
  | l :: W, x, y, h, h1, h2, h3 => ⟨h.1, h.2.1, Way.snoc (W := W) h.2.2 h1 h2 h3⟩
theorem alike_map {α : Type} {d : α → PyData} {as : List α} (h : ∀ a ∈ as, ∀ b ∈ as, PySem.W.alike (d a) (d b) = true) (hn : ∀ a ∈ as, d a ≠ .none) : PySem.W.AlikeAll (as.map d) := by
  refine ⟨fun x hx y hy => ?_, fun x hx => ?_⟩
  · obtain ⟨a, ha, rfl⟩ := List.mem_map.mp hx
    obtain ⟨b, hb, rfl⟩ := List.mem_map.mp hy
    exact h a ha b hb
  · obtain ⟨a, ha, rfl⟩ := List.mem_map.mp hx
    exact hn a ha
theorem depth_map {α : Type} {d : α → PyData} {n : Nat} : ∀ {as : List α}, (∀ a ∈ as, (d a).depth ≤ n) → PyData.depthAll (as.map d) ≤ n
  | [], _ => by simp [PyData.depthAll]
  | a :: as, h => by
    have h1 := h a List.mem_cons_self
    have h2 := depth_map fun b hb => h b (List.mem_cons_of_mem _ hb)
    simp only [List.map_cons, PyData.depthAll]
    omega
def lkDat (l : Nat × Nat) : PyData := .tuple [.int (l.1 : Int), .int (l.2 : Int)]
theorem lk_alike (a b : Nat × Nat) : PySem.W.alike (lkDat a) (lkDat b) = true := by simp [lkDat, PySem.W.alike, PySem.W.alikeAll]
theorem lk_depth (a : Nat × Nat) : (lkDat a).depth = 1 := by simp [lkDat, PyData.depth, PyData.depthAll]
theorem CaseD.link_ps {c : CaseD} (hc : c.Ok) {lk : Nat × Nat} (h : lk ∈ c.links) : lk.1 ∈ c.ps ∧ lk.2 ∈ c.ps := by
  obtain ⟨r, hr, h5⟩ := List.mem_flatMap.mp h
  obtain ⟨p, hp, h6⟩ := List.mem_flatMap.mp h5
  unfold CaseD.linksAt CaseD.ahead at h6
  obtain ⟨a, ha, e2⟩ := List.mem_map.mp h6
  rw [← e2]
  exact ⟨hc.inLots r hr a (List.mem_filter.mp (List.mem_filter.mp ha).1).1, hc.inLots r hr p hp⟩
section
variable {P : Program} {w : World} {K : PySem.W.Frag} {mg : Str → Option Value} {base : Heap} {CL CC : Addr}
theorem dpLk (l : Nat × Nat) : DpP K (pLk l) (lkDat l) := dpT2 (dpN _) (dpN _)
theorem lookup_nd {κ β : Type} [BEq κ] [LawfulBEq κ] {l : List (κ × β)} (hn : (l.map Prod.fst).Nodup) {q : κ × β} (hq : q ∈ l) : l.lookup q.1 = some q.2 := by
  induction l with
  | nil => cases hq
  | cons p l ih =>
    rw [List.map_cons, List.nodup_cons] at hn
    obtain ⟨a, b⟩ := p
    rw [List.lookup_cons]
    rcases List.mem_cons.mp hq with z | z
    · rw [z]
      simp
    · have hne : q.1 ≠ a := fun e => hn.1 (by
        show a ∈ l.map Prod.fst
        rw [← e]
        exact List.mem_map.mpr ⟨q, z, rfl⟩)
      have : (q.1 == a) = false := by simpa using hne
      rw [this]
      exact ih hn.2 z
theorem EdgeOk.outsNd {c : CaseD} {E : EdgeD} (h : EdgeOk c E) (u : Str) : ((outs E u).map Prod.fst).Nodup := by
  unfold outs
  cases e : E.lookup u with
  | none => exact List.nodup_nil
  | some r => exact h.nd _ (lookup_mem e)
theorem EdgeOk.outsLk {c : CaseD} {E : EdgeD} (h : EdgeOk c E) {u : Str} {r : Str × (Nat × Nat)} (hr : r ∈ outs E u) : r.2 ∈ c.links ∧ (c.tld r.2.1).i = u ∧ (c.tld r.2.2).i = r.1 := by
  unfold outs at hr
  cases e : E.lookup u with
  | none =>
    rw [e] at hr
    cases hr
  | some q =>
    rw [e] at hr
    exact h.link _ (lookup_mem e) r hr
abbrev s_Case__way_on : Stmt := inClass (topS 31) 12
theorem sc_Case__way_on : FnScope ["self", "edges", "far", "item", "way", "near", "other", "link"] ["self", "edges", "far", "item"] (defScope s_Case__way_on) := ⟨rfl, rfl, rfl, by decide +kernel, rfl, by decide +kernel, by decide +kernel⟩
abbrev n_Case__way_on : List Str := ["self", "edges", "far", "item", "way", "near", "other", "link"]
abbrev M_way_on (P : Program) (w : World) (K : PySem.W.Frag) (mg : Str → Option Value) (base : Heap) (CC : Addr) : Prop := Me P w K mg base 1 CC "_way_on" ["self", "edges", "far", "item"] (spN (fun a : CaseD × EdgeD × Str × List (Str × Nat) × Str => [pCase CC a.1, pEdges a.2.1, pFar a.2.2.2.1, pS a.2.2.2.2]) (fun a => a.1.Ok ∧ EdgeOk a.1 a.2.1 ∧ FarOk a.2.1 a.2.2.1 a.2.2.2.1 ∧ a.2.2.2.2 ∈ a.2.2.2.1.map Prod.fst) fun a => pE (fun W => Way a.1 a.2.2.2.2 a.2.2.1 W ∧ W.length ≤ 50) pLks)
theorem w_way_on (Z : Bz K mg CL CC) (D : Dm K CC "_way_on" "Case._way_on" s_Case__way_on) : M_way_on P w K mg base CC :=
  me_mk (k := 0) D sc_Case__way_on (fun _ => rfl) (bnd4 fun _ _ _ _ _ _ _ _ _ _ => rfl) fun f cdv A outer s H1 vs Q X a H hr e hp h q => by
    have sc := sc_Case__way_on
    have hu := hu_of hr
    obtain ⟨c, E, goal, far, it0⟩ := a
    obtain ⟨v, ve, vf, vi, rfl, rv, re, rf, ri⟩ := all4 h
    obtain ⟨hc, hEo, hF, hin⟩ : c.Ok ∧ EdgeOk c E ∧ FarOk E goal far ∧ it0 ∈ far.map Prod.fst := hp
    have ri : vi = .str it0 := ri
    subst ri
    obtain ⟨de, kv, rfl, hE⟩ := edge_at re
    obtain ⟨df, rfl, hdf⟩ := far_dV rf
    obtain ⟨n0, hn0⟩ := lookup_of hin
    have hmany := hc.many
    have hEl : E.length = c.items.length := by
      have := congrArg List.length hEo.keys
      simpa using this
    have hfl : far.length ≤ E.length := by
      have := nodup_len hF.nd hF.keys
      rwa [List.length_map, List.length_map] at this
    have hlow0 := hF.low _ _ hn0
    refine ⟨_, (pss_cons (ps_set (i := 4) sc.nd rfl (Or.inl rfl) (pe_lst pa_nil))
    (pss_cons (ps_while PassesOwn.never (pt_cmpR op_gt (pe_dget hu (pv 2) (pv 3) (fun _ _ => rfl)) pe_int (nomark _)) (pss_cons (ps_lock (ps_setLc (i := 5) (own := [("other", 6)]) (g := (gName 6)) rfl sc.nd rfl rfl (sw_true rfl rfl rfl (by decide +kernel)) (pi_keys (pe_dget hu (pv 1) (pv 3) (fun _ _ => rfl))) (blkOk_by (N := n_Case__way_on) (sc := defScope s_Case__way_on) (by decide +kernel)) (fun _ _ _ _ _ => (pg_name (i := 6) sc.nd rfl (by first | exact Or.inl rfl | exact Or.inr rfl))) (fun _ _ _ _ _ => pts_one (pt_cmpR op_lt (pe_dget2 hu (pv 2) (pv 6) (pe_dget hu (pv 2) (pv 3) (fun _ _ => rfl)) (by exact ⟨rfl, rfl, rfl, rfl⟩)) (pe_dget hu (pv 2) (pv 3) (fun _ _ => rfl)) (nomark _))) (fun _ _ _ _ _ => (pv 6))))
    (pss_cons (ps_set (i := 7) sc.nd rfl (Or.inl rfl) (pe_callB (crMinD K hr.hd hr.units) (by rfl) Z.min (by decide +kernel) (pa_cons (pe_lc (own := [("other", 6)]) (g := (gName 6)) rfl sc.nd (piList K (pv 5)) (blkOk_by (N := n_Case__way_on) (sc := defScope s_Case__way_on) (by decide +kernel)) (fun _ _ _ _ _ => (pg_name (i := 6) sc.nd rfl (by first | exact Or.inl rfl | exact Or.inr rfl))) (fun _ _ _ _ _ => pts_nil) (fun _ _ _ _ _ => (pe_dget hu (pe_dget hu (pv 1) (pv 3) (fun _ _ => rfl)) (pv 6) (fun _ _ => rfl)))) pa_nil)))
    (pss_cons (ps_expr (pe_bm PySem.F.plainAttrs_list PySem.F.slot_list_append PySem.F.type_list_append mt_append (pv 4) (pa_cons (pv 7) pa_nil)))
    (pss_one (ps_set (i := 3) sc.nd rfl (Or.inr rfl) (pe_ix (ixT K) (pe_dget hu (peFld K (pv 0) rfl) (pe_ix (ixT K) (pv 7) pe_int (fun _ _ => rfl)) (fun _ _ => rfl)) pe_int (fun _ _ => rfl))))))))
    (pss_one (ps_ret (pv 4))))), ?_⟩
    refine q_nil fun wl hwl => ?_
    have s0 := Sep.hid (o := .lst []) e hwl
    refine q_while (fun m σ G1 => ∃ G, Sep H H1 G G1 ∧ ∃ it x y z acc W, σ = [some v, some (.ref de), some (.ref df), some (.str it), some (.ref wl), x, y, z] ∧ far.lookup it = some m ∧ W.length + m ≤ n0 ∧ Way c it0 it W ∧ G wl = none ∧ G1 wl = some (.lst acc) ∧ All2 G acc (W.map pLk)) n0
      ⟨H, s0, it0, _, _, _, [], [], rfl, hn0, by simp, rfl, e.back hwl, upd_same, True.intro⟩ ?_
    rintro m σ' G1 ⟨G, sG, it, x, y, z, acc, W, rfl, hm, hWm, hW, nG, gG, rA⟩
    have hEG := hE.ex sG.a
    have hfG := sG.a _ _ hdf
    have vfar : ∀ (x : Str), valV (dV far) (.inr x) = (far.lookup x).map fun n => V.int (n : Int) := fun x => valV_dV x far
    refine ⟨G, decide (0 < m), sG.b, ?_, fun zb G2 e2 => ?_, fun zb G2 e2 => ?_⟩
    · exact (et_test (ev_I0 (i := (m : Int)) (j := 0) (ev_dgetR (k := .inr it) (ev_var rfl) (ev_var rfl) (.inl hfG) (by rw [vfar, hm] <;> rfl) rfl) ev_c)).eq (by simp)
    · have zb : 0 < m := of_decide_eq_true zb
      have sG2 := sG.ext e2
      have hith : it ∈ E.map Prod.fst := hF.keys it (List.mem_map.mpr ⟨_, lookup_mem hm, rfl⟩)
      obtain ⟨a, iv, h1, h2, h3, h4, h5, h6⟩ := hEG.inner it hith
      refine q_lockE (R := pL (((outs E it).filter fun r => decide ((far.lookup r.1).getD m < m)).map fun r => pS r.1)) sG2.b (ev_lcK (as := outs E it) (key := fun r => .inr r.1) (h := fun r => pS r.1) (t := fun r => decide ((far.lookup r.1).getD m < m)) h2 h4 (fun od => ev_dgetR (k := .inr it) (ev_var rfl) (ev_var rfl) (.inl ((frz_ne (Ne.symm h3)).trans hEG.at_)) h1 rfl) ?_ (fun _ => flat_pV _) fun od r F hr eF => ⟨_, bnd_name, rfl, ?_, fun _ => ev_var rfl⟩) fun vn G3 A3 s3 r3 => ?_
      · have h7 := nodup_len (hEo.outsNd it) (ys := c.items) fun x hx => hEo.inner hc (u := it) hx
        rw [List.length_map] at h7
        omega
      · have rdF : Rd F df (.dK (dV far)) := rd_ex (rd_frz hfG h2) eF
        refine (et_test (ev_I0 (i := (((far.lookup r.1).getD m : Nat) : Int)) (j := (m : Int)) (ev_dget2R (k := .inr r.1) (z := .int (m : Int)) (ev_var rfl) (ev_var rfl) (ev_dgetR (k := .inr it) (ev_var rfl) (ev_var rfl) rdF (by rw [vfar, hm] <;> rfl) rfl) rdF (by
          rw [vfar]
          cases far.lookup r.1 <;> rfl)) (ev_dgetR (k := .inr it) (ev_var rfl) (ev_var rfl) rdF (by rw [vfar, hm] <;> rfl) rfl))).eq (by simp)
      · have sG3 := sG2.trans s3
        have k3 := s3.keep nG (e2 _ _ gG)
        have hE3 := hEG.ex s3.a
        obtain ⟨a', iv', h1', h2', h3', h4', h5', h6'⟩ := hE3.inner it hith
        have hne : (outs E it).filter (fun r => decide ((far.lookup r.1).getD m < m)) ≠ [] := fun z => by
          obtain ⟨m', rfl⟩ : ∃ m', m = m' + 1 := ⟨m - 1, by omega⟩
          obtain ⟨y, hy1, hy2⟩ := hF.next it m' hm
          obtain ⟨r, hr, rfl⟩ := List.mem_map.mp hy1
          have : r ∈ (outs E it).filter (fun r => decide ((far.lookup r.1).getD (m' + 1) < m' + 1)) := List.mem_filter.mpr ⟨hr, by
            rw [hy2]
            exact decide_eq_true (Nat.lt_succ_self m')⟩
          rw [z] at this
          cases this
        have hlen : ((outs E it).filter fun r => decide ((far.lookup r.1).getD m < m)).length ≤ 100000 := by
          have h7 := nodup_len (hEo.outsNd it) (ys := c.items) fun x hx => hEo.inner hc (u := it) hx
          rw [List.length_map] at h7
          have := List.length_filter_le (fun r : Str × (Nat × Nat) => decide ((far.lookup r.1).getD m < m)) (outs E it)
          omega
        refine q_asg (R := pE (fun lk : Nat × Nat => ∃ r ∈ (outs E it).filter (fun r => decide ((far.lookup r.1).getD m < m)), r.2 = lk) pLk) s3.b (ev_minD (K := K) (as := (outs E it).filter fun r => decide ((far.lookup r.1).getD m < m)) (f := fun r => pLk r.2) (d := fun r => lkDat r.2)
          (ev_lcA (f := fun r => pS r.1) (ei_list (ev_var r3)) hlen fun r u F hr eF ru => ⟨_, bnd_name, rfl, ?_⟩) hne (fun r _ => dpLk r.2) (alike_map (fun a _ b _ => lk_alike _ _) fun a _ => fun z => nomatch z) (depth_map fun a _ => by rw [lk_depth]; omega) fun r hr H v hv => ⟨r.2, ⟨r, hr, rfl⟩, hv⟩) fun vl G4 A4 s4 r4 => ?_
        · have ru : u = .str r.1 := ru
          subst ru
          obtain ⟨z1, hz1, hz2⟩ := h6' r.1 r.2 (lookup_nd (hEo.outsNd it) (List.mem_filter.mp hr).1)
          exact ev_dgetR (k := .inr r.1) (ev_dgetR (k := .inr it) (ev_var rfl) (ev_var rfl) (.inl (eF _ _ hE3.at_)) h1' rfl) (ev_var rfl) (.inl (eF _ _ h2')) hz1 ((pLk r.2).mono eF hz2)
        · obtain ⟨lk, ⟨r, hr, rfl⟩, rl⟩ := r4
          have hro := (List.mem_filter.mp hr).1
          have hrt : (far.lookup r.1).getD m < m := of_decide_eq_true (List.mem_filter.mp hr).2
          obtain ⟨hl1, hl2, hl3⟩ := hEo.outsLk hro
          have k4 := s4.keep k3.1 k3.2
          have sG4 := sG3.trans s4
          obtain ⟨m', hm', hmm⟩ : ∃ m', far.lookup r.1 = some m' ∧ m' < m := by
            cases e5 : far.lookup r.1 with
            | none =>
              rw [e5] at hrt
              exact absurd hrt (Nat.lt_irrefl m)
            | some m' =>
              rw [e5] at hrt
              exact ⟨m', rfl, hrt⟩
          have hAl := rA.length
          rw [List.length_map] at hAl
          refine q_app (K := K) (i := 4) (l := wl) s4.b k4.1 k4.2 rfl (ev_var (R := pLk r.2) rl) (by omega) fun v5 G5 A5 s5 r5 => ?_
          have k5 := s5.keep k4.1 k4.2
          have sG5 := sG4.trans s5
          have hp2 := (CaseD.link_ps hc hl1).2
          have e5 : Ex G5 (upd A5 wl (.lst (acc ++ [v5]))) := s5.b.mut k5.1
          refine s_asgV (v := .str r.1) e5 ?_ fun A6 e6 e7 => ?_
          · have rv5 := (pCase CC c).mono sG5.a rv
            have rl5 := (pLk r.2).mono s5.a rl
            exact (ev_ixT' (n := 1) (ev_tld Z (ev_var rv5) (ev_ixT' (n := 1) (ev_var rl5) rfl rfl) hp2) rfl rfl).eq (by rw [hl3])
          · refine ⟨m', hmm, G5, (sG5.mut hwl k5.1).ext e7, r.1, _, _, _, acc ++ [v5], W ++ [r.2], rfl, hm', ?_, hW.snoc hl1 hl2 hl3, k5.1, e7 _ _ upd_same, ?_⟩
            · rw [List.length_append, List.length_singleton]
              omega
            · rw [List.map_append]
              exact (rA.mono ((s3.a.trans s4.a).trans s5.a)).snoc r5
    · have zb : m = 0 := by
        have := of_decide_eq_false zb
        omega
      subst zb
      have hg := (hF.zero it).mp hm
      subst hg
      have sN := (sG.ext e2).own hwl nG (e2 _ _ gG)
      exact ⟨.ref wl, rfl, q _ _ _ sN ⟨W, ⟨hW, by omega⟩, wl, acc, rfl, upd_same, rA.mono (Ex.new nG)⟩⟩
end
end Rb
set_option Elab.async false
set_option linter.all false
set_option maxRecDepth 100000
set_option maxHeartbeats 3200000
/-! Walks: first ways, rings. -/
namespace Rb
open PySem PySem.Spec PyProof.Rows L2
section
variable {K : PySem.W.Frag} {σ : L2.St} {H : Hp} {ta tb te : TE} {α β : Type} {Pp : α → Prop} {ps : List Pr}
theorem ev_catE {qs : α → List Pr} (ha : Ev ta σ H (pL ps)) (hb : Ev tb σ H (pE Pp fun x => pL (qs x))) (hz : ∀ x, Pp x → ps.length + (qs x).length ≤ 100000) : Ev (tOp rCat ta tb) σ H (pE Pp fun x => pL (ps ++ qs x)) :=
  ev_op ha hb fun H' v w _ ⟨l, xs, ev, hl, hx⟩ ⟨a, hPa, m, ys, ew, hm, hy⟩ H1 e Q q => by
    subst ev ew
    refine ⟨l, m, xs, ys, rfl, rfl, e _ _ hl, e _ _ hm, Nat.le_trans (by rw [hx.length, hy.length]; exact hz a hPa) (by decide), fun p hp => q _ _ _ (Sep.new e hp) ⟨a, hPa, p, _, rfl, upd_same, (hx.append hy).mono (Ex.new (e.back hp))⟩⟩
theorem ev_ixTE {qs : α → List Pr} {p : α → Pr} {i : Int} {n : Nat} (h : Ev ta σ H (pE Pp fun x => pT (qs x))) (hi : ∀ x, (qs x)[n]? = some (p x)) (hn : i = (n : Int)) : Ev (tOp (rIxT K) ta (tC (.int i))) σ H (pE Pp p) :=
  ev_op h ev_c fun H' v w _ ⟨a, hPa, l, xs, ev, hl, hx⟩ ey H1 e Q q => by
    obtain ⟨z, hz, rz⟩ := hx.get (hi a)
    exact ⟨l, xs, (n : Int), z, ev, by rw [← hn]; exact ey, SqT.of (e _ _ hl), atI_nat hz, q z H' H1 (Sep.refl e) ⟨a, hPa, rz⟩⟩
theorem all2_choose {H : Hp} {Q : α → β → Prop} {f : β → Pr} : ∀ {as : List α} {vs : List V}, All2 H vs (as.map fun a => pE (Q a) f) → ∃ bs : List β, All2 H vs (bs.map f) ∧ bs.length = as.length ∧ ∀ (i : Nat) a b, as[i]? = some a → bs[i]? = some b → Q a b
  | [], [], _ => ⟨[], True.intro, rfl, fun i a b h => by simp at h⟩
  | a :: as, v :: vs, h => by
    obtain ⟨b, hb, rb⟩ := h.1
    obtain ⟨bs, h1, h2, h3⟩ := all2_choose (as := as) (vs := vs) h.2
    refine ⟨b :: bs, ⟨rb, h1⟩, by rw [List.length_cons, List.length_cons, h2], fun i a' b' e1 e2 => ?_⟩
    cases i with
    | zero =>
      have e1 : a = a' := by simpa using e1
      have e2 : b = b' := by simpa using e2
      subst e1 e2
      exact hb
    | succ i => exact h3 i a' b' (by simpa using e1) (by simpa using e2)
  | [], _ :: _, h => h.elim
  | _ :: _, [], h => h.elim
end
/-- what _first_way says -/
def WayO (c : CaseD) (E : EdgeD) (x y : Str) : Option (List (Nat × Nat)) → Prop
  | none => ∃ far, FarOk E y far ∧ ∀ z, isEd E x z → z ∉ far.map Prod.fst
  | some W => W ≠ [] ∧ Way c x y W ∧ W.length ≤ 51
def pWo : Option (List (Nat × Nat)) → Pr
  | none => pNo
  | some W => pLks W
section
variable {P : Program} {w : World} {K : PySem.W.Frag} {mg : Str → Option Value} {base : Heap} {CL CC : Addr}
def stDat (far : List (Str × Nat)) (r : Str × (Nat × Nat)) : PyData := .tuple [.int (((far.lookup r.1).getD 0 : Nat) : Int), lkDat r.2, .str r.1]
abbrev s_Case__first_way : Stmt := inClass (topS 31) 13
theorem sc_Case__first_way : FnScope ["self", "edges", "worse", "better", "far", "steps", "item", "_", "link"] ["self", "edges", "worse", "better"] (defScope s_Case__first_way) := ⟨rfl, rfl, rfl, by decide +kernel, rfl, by decide +kernel, by decide +kernel⟩
abbrev n_Case__first_way : List Str := ["self", "edges", "worse", "better", "far", "steps", "item", "_", "link"]
abbrev M_first_way (P : Program) (w : World) (K : PySem.W.Frag) (mg : Str → Option Value) (base : Heap) (CC : Addr) : Prop := Me P w K mg base 2 CC "_first_way" ["self", "edges", "worse", "better"] (spN (fun a : CaseD × EdgeD × Str × Str => [pCase CC a.1, pEdges a.2.1, pS a.2.2.1, pS a.2.2.2]) (fun a => a.1.Ok ∧ EdgeOk a.1 a.2.1 ∧ a.2.2.1 ∈ a.1.items ∧ a.2.2.2 ∈ a.1.items) fun a => pE (WayO a.1 a.2.1 a.2.2.1 a.2.2.2) pWo)
theorem w_first_way (Z : Bz K mg CL CC) (D : Dm K CC "_first_way" "Case._first_way" s_Case__first_way) (f_nearest : F_nearest P w K mg base) (m_Case__way_on : M_way_on P w K mg base CC) : M_first_way P w K mg base CC :=
  me_mk (k := 1) D sc_Case__first_way (fun _ => rfl) (bnd4 fun _ _ _ _ _ _ _ _ _ _ => rfl) fun f cdv A outer s H1 vs Q X a H hr e hp h q => by
    have sc := sc_Case__first_way
    have hu := hu_of hr
    obtain ⟨c, E, x, y⟩ := a
    obtain ⟨v, ve, vx, vy, rfl, rv, re, rx, ry⟩ := all4 h
    obtain ⟨hc, hEo, hx, hy⟩ : c.Ok ∧ EdgeOk c E ∧ x ∈ c.items ∧ y ∈ c.items := hp
    have rx : vx = .str x := rx
    have ry : vy = .str y := ry
    subst rx ry
    have hmany := hc.many
    have hEl : E.length = c.items.length := by
      have := congrArg List.length hEo.keys
      simpa using this
    have hol : (outs E x).length ≤ 50 := by
      have h7 := nodup_len (hEo.outsNd x) (ys := c.items) fun z hz => hEo.inner hc (u := x) hz
      rw [List.length_map] at h7
      omega
    refine ⟨_, (pss_cons (ps_set (i := 4) sc.nd rfl (Or.inr rfl) (pe_fn f_nearest hr (by decide) (by rfl) (pa_cons (pv 1) (pa_cons (pv 3) pa_nil))))
    (pss_cons (ps_lock (ps_setLc (i := 5) (own := [("item", 6)]) (g := (gName 6)) rfl sc.nd rfl rfl (sw_true rfl rfl rfl (by decide +kernel)) (pi_keys (pe_dget hu (pv 1) (pv 2) (fun _ _ => rfl))) (blkOk_by (N := n_Case__first_way) (sc := defScope s_Case__first_way) (by decide +kernel)) (fun _ _ _ _ _ => (pg_name (i := 6) sc.nd rfl (by first | exact Or.inl rfl | exact Or.inr rfl))) (fun _ _ _ _ _ => pts_one (pt_cmp (pc_din hu (pv 6) (pv 4)) (by rfl))) (fun _ _ _ _ _ => (pe_tup (pa_cons (pe_dget hu (pv 4) (pv 6) (fun _ _ => rfl)) (pa_cons (pe_dget hu (pe_dget hu (pv 1) (pv 2) (fun _ _ => rfl)) (pv 6) (fun _ _ => rfl)) (pa_cons (pv 6) pa_nil)))))))
    (pss_cons (ps_if (pt_not (ptTruth K (pv 5) (by intro _; rfl))) (pss_one (ps_ret pe_non)) pss_nil)
    (pss_cons (ps_asg (pe_callB (crMinD K hr.hd hr.units) (by rfl) Z.min (by decide +kernel) (pa_cons (pv 5) pa_nil)) (pgTup K rfl (pgs_cons (pg_name (i := 7) sc.nd rfl (by first | exact Or.inl rfl | exact Or.inr rfl)) (pgs_cons (pg_name (i := 8) sc.nd rfl (by first | exact Or.inl rfl | exact Or.inr rfl)) (pgs_cons (pg_name (i := 6) sc.nd rfl (by first | exact Or.inl rfl | exact Or.inr rfl)) pgs_nil)))))
    (pss_one (ps_ret (pe_op op_cat (pe_lst (pa_cons (pv 8) pa_nil)) (pe_me m_Case__way_on Z.c_Case hr (by decide) (pv 0) (pa_cons (pv 1) (pa_cons (pv 4) (pa_cons (pv 6) pa_nil))))))))))), ?_⟩
    refine q_asg e (ev_call (E, y) (ea_cons (ev_var re) (ea_one (ev_var (R := pS y) rfl))) ⟨by rw [hEo.keys]; exact hy, by rw [hEo.keys]; exact hc.items, by show E.length ≤ 50; omega⟩) fun vf G1 A1 s1 r1 => ?_
    obtain ⟨far, hF, rf⟩ := r1
    obtain ⟨df, rfl, hdf⟩ := far_dV rf
    have re1 := (pEdges E).mono s1.a re
    obtain ⟨de, kv, rfl, hE⟩ := edge_at re1
    have hxk : x ∈ E.map Prod.fst := by rw [hEo.keys]; exact hx
    obtain ⟨a, iv, h1, h2, h3, h4, h5, h6⟩ := hE.inner x hxk
    refine q_lockE (R := pL (((outs E x).filter fun r => (far.lookup r.1).isSome).map fun r => pT [pN ((far.lookup r.1).getD 0), pLk r.2, pS r.1])) s1.b (ev_lcK (as := outs E x) (key := fun r => .inr r.1) (h := fun r => pT [pN ((far.lookup r.1).getD 0), pLk r.2, pS r.1]) (t := fun r => (far.lookup r.1).isSome) h2 h4 (fun od => ev_dgetR (k := .inr x) (ev_var rfl) (ev_var rfl) (.inl ((frz_ne (Ne.symm h3)).trans hE.at_)) h1 rfl) (by omega) (fun r => flat_pT ?_) fun od r F hr eF => ⟨_, bnd_name, rfl, ?_, fun zt => ?_⟩) fun vn G3 A3 s3 r3 => ?_
    · intro p hp
      rcases List.mem_cons.mp hp with rfl | hp
      · exact flat_pV _
      · rcases List.mem_cons.mp hp with rfl | hp
        · exact flat_pLk _
        · rcases List.mem_cons.mp hp with rfl | hp
          · exact flat_pV _
          · cases hp
    · have rdF : Rd F df (.dK (dV far)) := rd_ex (rd_frz hdf h2) eF
      exact et_B (ev_dinR (k := .inr r.1) (ev_var rfl) (ev_var rfl) rdF (by
        rw [valV_dV]
        cases far.lookup r.1 <;> rfl))
    · have rdF : Rd F df (.dK (dV far)) := rd_ex (rd_frz hdf h2) eF
      obtain ⟨n, hn⟩ := Option.isSome_iff_exists.mp zt
      obtain ⟨z1, hz1, hz2⟩ := h6 r.1 r.2 (lookup_nd (hEo.outsNd x) hr)
      have e0 : Ex (frzD G1 a od iv) F := eF
      refine ev_tup (ea_cons (ev_dgetR (k := .inr r.1) (ev_var rfl) (ev_var rfl) rdF (by rw [valV_dV, hn] <;> rfl) (by rw [hn] <;> rfl)) (ea_cons (ev_dgetR (k := .inr r.1) (R := pLk r.2) (ev_dgetR (k := .inr x) (ev_var rfl) (ev_var rfl) (.inl (eF _ _ ((frz_ne (Ne.symm h3)).trans hE.at_))) h1 rfl) (ev_var rfl) (.inr ⟨od, eF _ _ upd_same⟩) hz1 ?_) (ea_one (ev_var rfl))))
      obtain ⟨b, us, e5, e6, e7⟩ := hz2
      refine ⟨b, us, e5, eF _ _ ((frz_ne (ne_of e6 h2 (fun z => nomatch z))).trans e6), ?_⟩
      rw [all2_ints (ns := [r.2.1, r.2.2]) e7]
      exact ⟨rfl, rfl, True.intro⟩
    · have s13 := s1.trans s3
      have rv3 := (pCase CC c).mono s13.a rv
      have re3 := (pEdges E).mono s3.a re1
      have rf3 := (pFar far).mono s3.a rf
      refine q_if (b := ((outs E x).filter fun r => (far.lookup r.1).isSome).isEmpty) s3.b ((et_not (et_truL (ev_var r3))).eq ?_) (fun z A4 e4 => ?_) fun z A4 e4 => ?_
      · cases ((outs E x).filter fun r => (far.lookup r.1).isSome) <;> rfl
      · have z := List.isEmpty_iff.mp z
        refine (q.ext (s13.c.trans e4)) .non H A4 (Sep.refl (e.trans (s13.c.trans e4))) ⟨none, ⟨far, hF, fun u hu1 hu2 => ?_⟩, rfl⟩
        obtain ⟨r, hr, rfl⟩ := List.mem_map.mp hu1
        have : r ∈ (outs E x).filter fun r => (far.lookup r.1).isSome := List.mem_filter.mpr ⟨hr, by
          obtain ⟨n, hn⟩ := lookup_of hu2
          rw [hn]
          rfl⟩
        rw [z] at this
        cases this
      · have hne : (outs E x).filter (fun r => (far.lookup r.1).isSome) ≠ [] := fun q => by
          rw [q] at z
          cases z
        refine q_asgG (R := pE (fun r : Str × (Nat × Nat) => r ∈ (outs E x).filter fun r => (far.lookup r.1).isSome) fun r => pT [pN ((far.lookup r.1).getD 0), pLk r.2, pS r.1]) (s3.b.trans e4) (ev_minD (K := K) (as := (outs E x).filter fun r => (far.lookup r.1).isSome) (f := fun r => pT [pN ((far.lookup r.1).getD 0), pLk r.2, pS r.1]) (d := stDat far) (ev_var r3) hne (fun r _ => dpT3 (dpN _) (dpLk r.2) (dpS _)) (alike_map (fun a _ b _ => ?_) fun a _ => fun z => nomatch z) (depth_map fun a _ => ?_) fun r hr H v hv => ⟨r, hr, hv⟩) fun vm G5 A5 s5 r5 => ?_
        · simp [stDat, PySem.W.alike, PySem.W.alikeAll, lkDat]
        · simp [stDat, PyData.depth, PyData.depthAll, lkDat]
        · obtain ⟨r, hr, rr⟩ := r5
          obtain ⟨x1, y1, z1, r6, r7, r8, hb⟩ := bnd_tri (K := K) (i := 7) (j := 8) (k := 6) rr
          refine ⟨_, hb, ?_⟩
          have hro := (List.mem_filter.mp hr).1
          obtain ⟨n, hn⟩ := Option.isSome_iff_exists.mp (List.mem_filter.mp hr).2
          obtain ⟨hl1, hl2, hl3⟩ := hEo.outsLk hro
          have rv5 := (pCase CC c).mono s5.a rv3
          have re5 := (pEdges E).mono s5.a re3
          have rf5 := (pFar far).mono s5.a rf3
          refine s_ret s5.b ((ev_catE (qs := fun W : List (Nat × Nat) => W.map pLk) (ev_lst (ea_one (ev_var r7))) (ev_meth (as := [pEdges E, pFar far, pS r.1]) (c, E, y, far, r.1) (ev_var rv5) (case_ins rfl) (ea_cons (ev_var re5) (ea_cons (ev_var rf5) (ea_one (ev_var r8)))) rfl ⟨hc, hEo, hF, List.mem_map.mpr ⟨_, lookup_mem hn, rfl⟩⟩) fun W hW => ?_).imp fun H' v _ h8 => ?_) (((q.go s13).ext e4).go s5)
          · rw [List.length_map, List.length_singleton]
            have := hW.2
            omega
          · obtain ⟨W, ⟨hW1, hW2⟩, h9⟩ := h8
            refine ⟨some (r.2 :: W), ⟨by simp, ⟨hl1, hl2, ?_⟩, by rw [List.length_cons]; omega⟩, h9⟩
            rw [hl3]
            exact hW1
end
end Rb
set_option Elab.async false
set_option linter.all false
set_option maxRecDepth 100000
set_option maxHeartbeats 3200000
/-! Walks: edges. -/
namespace Rb
open PySem PySem.Spec PyProof.Rows L2
section
variable {K : PySem.W.Frag} {σ : L2.St} {H H1 : Hp} {te tk : TE} {R : Pr} {tz tu : TS} {D : Ends} {g : TG} {wi : TI} {i : Nat}
theorem ev_cR {v : V} (r : R.p H v) : Ev (tC v) σ H R := fun H1 e Q q => q v H H1 (Sep.refl e) r
theorem q_forE (e : Ex H H1) (h : Ev te σ H R) (k : ∀ v H' H2, Sep H H1 H' H2 → R.p H' v → tSeq (tFor (iList K (tC v)) g tu) tz D σ H2) : tSeq (tFor (iList K te) g tu) tz D σ H1 := h H1 e _ k
abbrev aD (items : List Str) (ad : Str → Addr) : List (Key × V) := items.map fun x => ((.inr x : Key), V.ref (ad x))
theorem valV_aD {items : List Str} {ad : Str → Addr} {x : Str} (h : x ∈ items) : valV (aD items ad) (.inr x) = some (.ref (ad x)) := by
  induction items with
  | nil => cases h
  | cons y ys ih =>
    by_cases e : y = x
    · subst e
      exact valV_pos rfl
    · have e2 : ¬ ((.inr y : Key) = .inr x) := fun z => e (by injection z)
      show valV ((.inr y, V.ref (ad y)) :: aD ys ad) (.inr x) = _
      rw [valV_neg e2]
      exact ih (by
        rcases List.mem_cons.mp h with z | z
        · exact absurd z.symm e
        · exact z)
/-- {x: {} for x in ..} -/
theorem q_dcNew {vs : List Nat} {items : List Str} (e : Ex H H1) (hi : EvI wi σ H (items.map pS)) (hn : items.Nodup) (hz : items.length ≤ 100000)
    (hs : ∀ x v G, x ∈ items → Ex H G → (pS x).p G v → ∃ σ2, Bnd g v (wipe σ vs) G σ2 ∧ wipe σ2 vs = wipe σ vs ∧ Ev tk σ2 G (pV (kV (.inr x))))
    (k : ∀ d ad H' H2, Sep H H1 H' H2 → H' d = none → H1 d = none → H2 d = some (.dK (aD items ad)) → (∀ x ∈ items, ∀ y ∈ items, ad x = ad y → x = y) → (∀ x ∈ items, ad x ≠ d ∧ H' (ad x) = none ∧ H1 (ad x) = none ∧ H2 (ad x) = some (.dK [])) → tz D (σ.set i (some (.ref d))) H2) :
    tSeq (tAsg (tDc wi g tYes tk tDNewK vs) (gName i)) tz D σ H1 := hi H1 e _ fun J K1 H2 s y L hL => by
  have kL : K1 L = none := s.b.back hL
  have hlen : (items.map pS).length = items.length := List.length_map ..
  refine ⟨fun i m G1 => m = items.length - i ∧ i ≤ items.length ∧ ∃ G ad, Sep K1 H2 G G1 ∧ G L = none ∧ G1 L = some (.dK (aD (items.take i) ad)) ∧ (∀ x ∈ items.take i, ∀ y ∈ items.take i, ad x = ad y → x = y) ∧ ∀ x ∈ items.take i, ad x ≠ L ∧ G (ad x) = none ∧ H2 (ad x) = none ∧ G1 (ad x) = some (.dK []),
    ⟨items.length, by simp, Nat.zero_le _, K1, fun _ => 0, Sep.hid s.b hL, kL, upd_same, by simp, by simp⟩, ?_⟩
  rintro i m G1 ⟨rfl, hi2, G, ad, sG, nL, gL, inj, all⟩
  obtain ⟨y1, y2⟩ := y.mono sG.a G1 sG.b
  by_cases hlt : i < items.length
  · have ea : items[i]? = some items[i] := List.getElem?_eq_getElem hlt
    have ef : (items.map pS)[i]? = some (pS items[i]) := get_map ea
    have etk : items.take (i + 1) = items.take i ++ [items[i]] := List.take_succ_eq_append_getElem hlt
    obtain ⟨go, yl⟩ := y1 i _ ef
    refine .inr ⟨go, fun G4 => i + 1 ≤ items.length ∧ ∃ G ad, Sep K1 H2 G G4 ∧ G L = none ∧ G4 L = some (.dK (aD (items.take (i + 1)) ad)) ∧ (∀ x ∈ items.take (i + 1), ∀ y ∈ items.take (i + 1), ad x = ad y → x = y) ∧ ∀ x ∈ items.take (i + 1), ad x ≠ L ∧ G (ad x) = none ∧ H2 (ad x) = none ∧ G4 (ad x) = some (.dK []), fun G4 w => ⟨items.length - (i + 1), by omega, rfl, w⟩, fun x G2 yx => ?_⟩
    obtain ⟨G', s2, rx⟩ := yl x G2 yx
    obtain ⟨σ2, hb, hw, hk⟩ := hs items[i] x G' (List.getElem_mem hlt) (s.a.trans (sG.a.trans s2.a)) rx
    have n2 := s2.keep nL gL
    refine hb G2 s2.b _ ⟨hw, ?_⟩
    show tk σ2 G2 _
    refine hk G2 s2.b _ fun yk G3 H3 s3 ek p hp => ?_
    have n3 := s3.keep n2.1 n2.2
    have s4 := (sG.trans s2).trans s3
    have hni : items[i] ∉ items.take i := fun hm => by
      have e1 : items = items.take i ++ items.drop i := (List.take_append_drop ..).symm
      rw [e1] at hn
      refine (List.nodup_append.mp hn).2.2 _ hm _ ?_ rfl
      rw [List.drop_eq_getElem_cons hlt]
      exact List.mem_cons_self
    have hnew : valV (aD (items.take i) ad) (.inr items[i]) = none := valV_no (by
      rw [List.map_map]
      intro hm
      obtain ⟨x, hx, ex⟩ := List.mem_map.mp hm
      have ex : (Sum.inr x : Key) = .inr items[i] := ex
      have ex : x = items[i] := by injection ex
      exact hni (by rw [← ex]; exact hx))
    have hpL : p ≠ L := Ne.symm (ne_of_none n3.2 hp)
    have nH2 : H2 p = none := s4.c.back hp
    have nG3 : G3 p = none := s3.b.back hp
    have old : ∀ x ∈ items.take i, ad x ≠ p ∧ G3 (ad x) = none ∧ H3 (ad x) = some (.dK []) := fun x hx => by
      obtain ⟨h1, h2, h3, h4⟩ := all x hx
      have k4 := (s2.trans s3).keep h2 h4
      exact ⟨ne_of_none k4.2 hp, k4.1, k4.2⟩
    have ha : aD (items.take i) ad = aD (items.take i) (fun y => if y = items[i] then p else ad y) := by
      refine List.map_congr_left fun x hx => ?_
      have : x ≠ items[i] := fun z => hni (by rw [← z]; exact hx)
      simp [this]
    refine ⟨_, .inr items[i], ek, by rw [upd_ne (Ne.symm hpL)]; exact n3.2, ?_, hlt, G3, (fun y => if y = items[i] then p else ad y), ((s4.mut nH2 nG3).mut hL n3.1), n3.1, ?_, ?_, ?_⟩
    · rw [List.length_map, List.length_take]
      exact Nat.lt_of_lt_of_le (by omega) (Nat.le_trans hz (by decide))
    · rw [upd_same, putK_new _ hnew, etk, ha]
      unfold aD
      rw [List.map_append]
      simp
    · intro x hx y hy hxy
      rw [etk, List.mem_append, List.mem_singleton] at hx hy
      rcases hx with hx | hx
      · have hx1 : x ≠ items[i] := fun z => hni (by rw [← z]; exact hx)
        rcases hy with hy | hy
        · have hy1 : y ≠ items[i] := fun z => hni (by rw [← z]; exact hy)
          simp only [if_neg hx1, if_neg hy1] at hxy
          exact inj x hx y hy hxy
        · rw [hy] at hxy
          simp only [if_neg hx1, if_true] at hxy
          exact absurd hxy (old x hx).1
      · rcases hy with hy | hy
        · have hy1 : y ≠ items[i] := fun z => hni (by rw [← z]; exact hy)
          rw [hx] at hxy
          simp only [if_neg hy1, if_true] at hxy
          exact absurd hxy.symm (old y hy).1
        · rw [hx, hy]
    · intro x hx
      rw [etk, List.mem_append, List.mem_singleton] at hx
      rcases hx with hx | hx
      · have hx1 : x ≠ items[i] := fun z => hni (by rw [← z]; exact hx)
        obtain ⟨o1, o2, o3⟩ := old x hx
        obtain ⟨h1, h2, h3, h4⟩ := all x hx
        simp only [if_neg hx1]
        exact ⟨h1, o2, h3, by rw [upd_ne h1, upd_ne o1]; exact o3⟩
      · rw [hx]
        simp only [if_true]
        exact ⟨hpL, nG3, nH2, by rw [upd_ne hpL]; exact upd_same⟩
  · have ei : i = items.length := by omega
    subst ei
    rw [List.take_length] at gL inj all
    rw [hlen] at y2
    refine .inl ⟨y2, k L ad G G1 (s.trans sG) nL (s.c.back hL) gL inj fun x hx => ?_⟩
    obtain ⟨h1, h2, h3, h4⟩ := all x hx
    exact ⟨h1, h2, s.c.back h3, h4⟩
/-- own objects are told, one behind another -/
theorem own_all {H H1 F F1 : Hp} {ad : Str → Addr} {o : Str → HO} (s : Sep H H1 F F1) : ∀ (us : List Str), (∀ x ∈ us, ∀ y ∈ us, ad x = ad y → x = y) → us.Nodup → (∀ u ∈ us, F (ad u) = none ∧ H1 (ad u) = none ∧ F1 (ad u) = some (o u) ∧ ∀ ps, o u ≠ .tbl ps) →
    ∃ F', Sep H H1 F' F1 ∧ Ex F F' ∧ (∀ u ∈ us, F' (ad u) = some (o u)) ∧ ∀ b, (∀ u ∈ us, b ≠ ad u) → F' b = F b
  | [], _, _, _ => ⟨F, s, Ex.refl _, fun _ h => (by cases h), fun _ _ => rfl⟩
  | u :: us, inj, hn, h => by
    obtain ⟨F', s', e', h1, h2⟩ := own_all s us (fun x hx y hy => inj x (List.mem_cons_of_mem _ hx) y (List.mem_cons_of_mem _ hy)) (List.nodup_cons.mp hn).2 fun x hx => h x (List.mem_cons_of_mem _ hx)
    obtain ⟨a1, a2, a3, a4⟩ := h u List.mem_cons_self
    have hne : ∀ x ∈ us, ad u ≠ ad x := fun x hx z => (List.nodup_cons.mp hn).1 (by rw [inj u List.mem_cons_self x (List.mem_cons_of_mem _ hx) z]; exact hx)
    have n1 : F' (ad u) = none := (h2 _ hne).trans a1
    refine ⟨upd F' (ad u) (o u), s'.own a2 n1 a3 a4, e'.trans (Ex.new n1), fun x hx => ?_, fun b hb => ?_⟩
    · rcases List.mem_cons.mp hx with z | z
      · rw [z]
        exact upd_same
      · rw [upd_ne (Ne.symm (hne x z))]
        exact h1 x z
    · rw [upd_ne (hb u List.mem_cons_self)]
      exact h2 b fun x hx => hb x (List.mem_cons_of_mem _ hx)
end
section
variable {P : Program} {w : World} {K : PySem.W.Frag} {mg : Str → Option Value} {base : Heap} {CL CC : Addr}
/-- the inner dicts while the links are gone through -/
structure InnOk (c : CaseD) (ls : List (Nat × Nat)) (inn : Str → List (Str × (Nat × Nat))) : Prop where
  nd : ∀ u, ((inn u).map Prod.fst).Nodup
  lk : ∀ u, ∀ r ∈ inn u, r.2 ∈ c.links ∧ (c.tld r.2.1).i = u ∧ (c.tld r.2.2).i = r.1
  has : ∀ l ∈ ls, (c.tld l.2).i ∈ (inn (c.tld l.1).i).map Prod.fst
theorem InnOk.add {c : CaseD} {ls : List (Nat × Nat)} {inn : Str → List (Str × (Nat × Nat))} (h : InnOk c ls inn) {l : Nat × Nat} (hl : l ∈ c.links) (hn : (c.tld l.2).i ∉ (inn (c.tld l.1).i).map Prod.fst) :
    InnOk c (ls ++ [l]) fun u => if u = (c.tld l.1).i then inn u ++ [((c.tld l.2).i, l)] else inn u := by
  refine ⟨fun u => ?_, fun u r hr => ?_, fun k hk => ?_⟩
  · split
    · rename_i e
      rw [List.map_append, List.nodup_append]
      refine ⟨h.nd u, by simp, fun a ha b hb z => ?_⟩
      have hb : b = (c.tld l.2).i := by simpa using hb
      exact hn (by rw [← hb, ← z, ← e]; exact ha)
    · exact h.nd u
  · split at hr
    · rename_i e
      rcases List.mem_append.mp hr with z | z
      · exact h.lk u r z
      · have z : r = ((c.tld l.2).i, l) := by simpa using z
        rw [z]
        exact ⟨hl, e.symm, rfl⟩
    · exact h.lk u r hr
  · rcases List.mem_append.mp hk with z | z
    · have := h.has k z
      split
      · rw [List.map_append, List.mem_append]
        exact .inl this
      · exact this
    · have z : k = l := by simpa using z
      rw [z, if_pos rfl, List.map_append, List.mem_append]
      exact .inr (by simp)
theorem InnOk.skip {c : CaseD} {ls : List (Nat × Nat)} {inn : Str → List (Str × (Nat × Nat))} (h : InnOk c ls inn) {l : Nat × Nat} (hn : (c.tld l.2).i ∈ (inn (c.tld l.1).i).map Prod.fst) : InnOk c (ls ++ [l]) inn :=
  ⟨h.nd, h.lk, fun k hk => by
    rcases List.mem_append.mp hk with z | z
    · exact h.has k z
    · have z : k = l := by simpa using z
      rw [z]
      exact hn⟩
abbrev inD (r : List (Str × (Nat × Nat))) (vs : List V) : List (Key × V) := (r.map fun q => (.inr q.1 : Key)).zip vs
theorem inD_val {r : List (Str × (Nat × Nat))} {vs : List V} (hl : vs.length = r.length) (x : Str) : (valV (inD r vs) (.inr x)).isSome = decide (x ∈ r.map Prod.fst) := by
  induction r generalizing vs with
  | nil => rfl
  | cons q r ih =>
    cases vs with
    | nil => simp at hl
    | cons v vs =>
      by_cases e : q.1 = x
      · have e2 : valV (inD (q :: r) (v :: vs)) (.inr x) = some v := valV_pos (by show (Sum.inr q.1 : Key) = _; rw [e])
        rw [e2]
        simp [e]
      · have e2 : valV (inD (q :: r) (v :: vs)) (.inr x) = valV (inD r vs) (.inr x) := valV_neg (fun z => e (by injection z))
        rw [e2, ih (by simpa using hl)]
        have e3 : ¬ x = q.1 := fun z => e z.symm
        simp [e3]
abbrev s_Case__edges : Stmt := inClass (topS 31) 11
theorem sc_Case__edges : FnScope ["self", "edges", "item", "first", "second"] ["self"] (defScope s_Case__edges) := ⟨rfl, rfl, rfl, by decide +kernel, rfl, by decide +kernel, by decide +kernel⟩
abbrev n_Case__edges : List Str := ["self", "edges", "item", "first", "second"]
abbrev M_edges (P : Program) (w : World) (K : PySem.W.Frag) (mg : Str → Option Value) (base : Heap) (CC : Addr) : Prop := Me P w K mg base 5 CC "_edges" ["self"] (spN (fun c : CaseD => [pCase CC c]) (fun c => c.Ok) fun c => pE (EdgeOk c) pEdges)
theorem w_edges (Z : Bz K mg CL CC) (D : Dm K CC "_edges" "Case._edges" s_Case__edges) (m_Case_links : M_links P w K mg base CC) : M_edges P w K mg base CC :=
  me_mk (k := 4) D sc_Case__edges (fun _ => rfl) (bnd1 fun _ _ _ _ _ _ _ => rfl) fun f cdv A outer s H1 vs Q X c H hr e hc h q => by
    have sc := sc_Case__edges
    have hu := hu_of hr
    obtain ⟨v, rfl, rv⟩ := all1 h
    have hmany := hc.many
    refine ⟨_, (pss_cons (ps_setDc (i := 1) (own := [("item", 2)]) (g := (gName 2)) (tt := tYes) rfl sc.nd rfl rfl (sw_trueD rfl rfl rfl (by decide +kernel)) (piList K (peFld K (pv 0) rfl)) (blkOk_by (N := n_Case__edges) (sc := defScope s_Case__edges) (by decide +kernel)) (fun _ _ _ _ _ => (pg_name (i := 2) sc.nd rfl (by first | exact Or.inl rfl | exact Or.inr rfl))) (fun _ _ _ _ _ => pts_nil) (fun _ _ _ _ _ => (pv 2)) (fun _ _ _ _ _ => pe_dnewK))
    (pss_cons (ps_for PassesOwn.never rfl (piList K (pe_me0 m_Case_links Z.c_Case hr (by decide) (pv 0))) (pgTup K rfl (pgs_cons (pg_name (i := 3) sc.nd rfl (by first | exact Or.inl rfl | exact Or.inr rfl)) (pgs_cons (pg_name (i := 4) sc.nd rfl (by first | exact Or.inl rfl | exact Or.inr rfl)) pgs_nil))) (pss_one (ps_expr (pe_dsetd (pe_dget hu (pv 1) (pe_ix (ixT K) (pe_dget hu (peFld K (pv 0) rfl) (pv 3) (fun _ _ => rfl)) pe_int (fun _ _ => rfl)) (fun _ _ => rfl)) (pe_ix (ixT K) (pe_dget hu (peFld K (pv 0) rfl) (pv 4) (fun _ _ => rfl)) pe_int (fun _ _ => rfl)) (pe_tup (pa_cons (pv 3) (pa_cons (pv 4) pa_nil))) (by exact ⟨rfl, rfl, rfl, rfl⟩)))))
    (pss_one (ps_ret (pv 1))))), ?_⟩
    refine q_dcNew e (ei_list (ev_c_items Z (ev_var rv))) hc.items (by omega) (fun x u G hx eG ru => ⟨_, bnd_name, rfl, ev_var ru⟩) fun d ad G0 A0 s0 nd0 nd1 gd inj all => ?_
    have rv0 := (pCase CC c).mono s0.a rv
    refine q_forE (K := K) s0.b (ev_meth (as := []) c (ev_var rv0) (case_ins rfl) ea_nil rfl hc) fun vl G1 A1 s1 r1 => ?_
    obtain ⟨ls, hls, rl⟩ := r1
    have k1 := s1.keep nd0 gd
    have hll := CaseD.links_len hc
    have lsl : ls.length ≤ 22500 := by rw [hls.length_eq]; exact hll
    have hap : ∀ x ∈ c.items, ad x ≠ d ∧ G1 (ad x) = none ∧ H1 (ad x) = none ∧ A1 (ad x) = some (.dK []) := fun x hx => by
      obtain ⟨a1, a2, a3, a4⟩ := all x hx
      have k2 := s1.keep a2 a4
      exact ⟨a1, k2.1, a3, k2.2⟩
    refine q_for (H := G1) s1.b (ei_list (ps := ls.map pLk) (ev_cR rl))
      (fun i σ F F1 => Sep H H1 F F1 ∧ Ex G1 F ∧ (∃ x y z, σ = [some v, some (.ref d), x, y, z]) ∧ F d = none ∧ F1 d = some (.dK (aD c.items ad)) ∧ ∃ inn, InnOk c (ls.take i) inn ∧ ∀ u ∈ c.items, F (ad u) = none ∧ ∃ vs, F1 (ad u) = some (.dK (inD (inn u) vs)) ∧ All2 F vs ((inn u).map fun r => pLk r.2))
      (fun H' H2 s => ?_) ?_ ?_
    · have k2 := s.keep k1.1 k1.2
      refine ⟨(s0.trans s1).trans s, s.a, ⟨_, _, _, rfl⟩, k2.1, k2.2, fun _ => [], ⟨fun _ => List.nodup_nil, fun _ _ h => (by cases h), fun _ h => (by cases h)⟩, fun u hu => ?_⟩
      obtain ⟨a1, a2, a3, a4⟩ := hap u hu
      have k3 := s.keep a2 a4
      exact ⟨k3.1, [], k3.2, True.intro⟩
    · rintro i p u σ' F F1 F' F2 hpi ⟨sF, eF, ⟨x, y, z, rfl⟩, nD, gD, inn, hI, hA⟩ eHF s2 rp
      obtain ⟨⟨a, b⟩, hab, rfl⟩ := map_get hpi
      obtain ⟨x1, y1, ra, rb, hb⟩ := bnd_pair (K := K) (i := 3) (j := 4) rp
      have hlk : (a, b) ∈ c.links := hls.mem_iff.mp (List.mem_of_getElem? hab)
      obtain ⟨hap1, hbp⟩ := CaseD.link_ps hc hlk
      have hai := hc.itemOk a hap1
      have k2 := s2.keep nD gD
      have rvF := (pCase CC c).mono (sF.a.trans s2.a) rv
      have sF2 := sF.trans s2
      have etk : ls.take (i + 1) = ls.take i ++ [(a, b)] := by
        have hi := List.getElem?_eq_some_iff.mp hab
        rw [List.take_succ_eq_append_getElem hi.1, hi.2]
      refine hb F2 s2.b _ ?_
      have eS : Ex (upd F' d (.dK (aD c.items ad))) F2 := s2.b.put k2.2
      have eFS : Ex F' (upd F' d (.dK (aD c.items ad))) := Ex.new k2.1
      have hT : Ev (tDGet (tVar 1) (tOp (rIxT K) (tDGet (tFld K (tVar 0) "_told") (tVar 3)) (tC (.int 1)))) [some v, some (.ref d), x, some x1, some y1] (upd F' d (.dK (aD c.items ad))) (pV (.ref (ad (c.tld a).i))) :=
        ev_dgetR (k := .inr (c.tld a).i) (ev_var rfl) (ev_ixT' (n := 1) (ev_tld Z (ev_var ((pCase CC c).mono eFS rvF)) (ev_var ((pN a).mono eFS ra)) hap1) rfl rfl) (.inl upd_same) (valV_aD hai) rfl
      obtain ⟨nU, vsU, gU, rU⟩ := hA _ hai
      have kU := s2.keep nU gU
      have hlU := rU.length
      rw [List.length_map] at hlU
      refine hT F2 eS _ fun xv K1 B1 t1 rx => ?_
      refine ⟨ad (c.tld a).i, rx, .inl ⟨_, .inl (t1.c _ _ kU.2)⟩, ?_⟩
      have eB1 : Ex F' B1 := s2.b.trans t1.c
      refine (ev_ixT' (K := K) (n := 1) (ev_tld Z (ev_var (i := 0) (σ := [some v, some (.ref d), x, some x1, some y1]) rvF) (ev_var (i := 4) rb) hbp) rfl rfl) B1 eB1 _ fun yv K2 B2 t2 ry => ?_
      have ry : yv = .str (c.tld b).i := ry
      subst ry
      have eB2 : Ex F' B2 := eB1.trans t2.c
      refine (ev_tup (ea_cons (ev_var (i := 3) (σ := [some v, some (.ref d), x, some x1, some y1]) ra) (ea_one (ev_var (i := 4) rb)))) B2 eB2 _ fun zv K3 B3 t3 rz => ?_
      have t12 : Ex F2 B2 := t1.c.trans t2.c
      have sK : Sep F F1 K3 B3 := (s2.ext t12).trans t3
      have sK2 : Sep H H1 K3 B3 := sF.trans sK
      have kD := sK.keep nD gD
      have kU3 := sK.keep nU gU
      refine ⟨_, .inr (c.tld b).i, kU3.2, rfl, ?_, fun v' hv' => ?_, fun hn' => ?_⟩
      · rw [List.length_zip, List.length_map, hlU, Nat.min_self]
        have h8 := nodup_len (hI.nd (c.tld a).i) (ys := c.items) fun z hz => by
          obtain ⟨r, hr, rfl⟩ := List.mem_map.mp hz
          obtain ⟨l1, l2, l3⟩ := hI.lk _ r hr
          rw [← l3]
          exact hc.itemOk _ (CaseD.link_ps hc l1).2
        rw [List.length_map] at h8
        exact Nat.lt_of_lt_of_le (show (inn (c.tld a).i).length < 100 by omega) (by decide)
      · have hin : (c.tld b).i ∈ (inn (c.tld a).i).map Prod.fst := by
          have := inD_val hlU (c.tld b).i
          rw [hv'] at this
          exact of_decide_eq_true this.symm
        refine ⟨K3, sK.a, t3.b, sK2, eF.trans sK.a, ⟨_, _, _, rfl⟩, kD.1, kD.2, inn, ?_, fun u hu => ?_⟩
        · rw [etk]
          exact hI.skip hin
        · obtain ⟨n1, vs1, g1, r1⟩ := hA u hu
          have k4 := sK.keep n1 g1
          exact ⟨k4.1, vs1, k4.2, r1.mono sK.a⟩
      · have hin : (c.tld b).i ∉ (inn (c.tld a).i).map Prod.fst := by
          have := inD_val hlU (c.tld b).i
          rw [hn'] at this
          exact of_decide_eq_false this.symm
        obtain ⟨a1, a2, a3, a4⟩ := hap _ hai
        refine ⟨K3, sK.a, t3.b.mut kU3.1, sK2.mut a3 kU3.1, eF.trans sK.a, ⟨_, _, _, rfl⟩, kD.1, ?_, (fun u => if u = (c.tld a).i then inn u ++ [((c.tld b).i, (a, b))] else inn u), ?_, fun u hu => ?_⟩
        · rw [upd_ne (Ne.symm a1)]
          exact kD.2
        · rw [etk]
          exact hI.add hlk hin
        · obtain ⟨n1, vs1, g1, r1⟩ := hA u hu
          have k4 := sK.keep n1 g1
          refine ⟨k4.1, ?_⟩
          by_cases hui : u = (c.tld a).i
          · subst hui
            have ev1 : inD (inn (c.tld a).i) vs1 = inD (inn (c.tld a).i) vsU := by
              rw [gU] at g1
              injection g1 with g1
              injection g1 with g1
              exact g1.symm
            refine ⟨vsU ++ [zv], ?_, ?_⟩
            · dsimp only
              rw [upd_same, putK_new _ hn', if_pos rfl]
              unfold inD
              rw [List.map_append, List.zip_append (by rw [List.length_map, hlU])]
              rfl
            · dsimp only
              rw [if_pos rfl, List.map_append]
              exact (rU.mono sK.a).snoc rz
          · refine ⟨vs1, ?_, ?_⟩
            · dsimp only
              rw [upd_ne (fun z => hui (inj u hu _ hai z)), if_neg hui]
              exact k4.2
            · dsimp only
              rw [if_neg hui]
              exact r1.mono sK.a
    · rintro σ' F F1 eHF eF1 ⟨sF, eF, ⟨x, y, z, rfl⟩, nD, gD, inn, hI, hA⟩
      rw [List.length_map, List.take_length] at hI
      have hA2 : ∀ u ∈ c.items, ∃ vs, F1 (ad u) = some (.dK (inD (inn u) vs)) ∧ All2 F vs ((inn u).map fun r => pLk r.2) := fun u hu => (hA u hu).2
      let vsf : Str → List V := fun u => if hu : u ∈ c.items then Classical.choose (hA2 u hu) else []
      have hvs : ∀ u ∈ c.items, F1 (ad u) = some (.dK (inD (inn u) (vsf u))) ∧ All2 F (vsf u) ((inn u).map fun r => pLk r.2) := fun u hu => by
        show F1 (ad u) = some (.dK (inD (inn u) (if hu : u ∈ c.items then Classical.choose (hA2 u hu) else []))) ∧ All2 F (if hu : u ∈ c.items then Classical.choose (hA2 u hu) else []) _
        rw [dif_pos hu]
        exact Classical.choose_spec (hA2 u hu)
      obtain ⟨F', sF', eFF, hF1, hF2⟩ := own_all (o := fun u => .dK (inD (inn u) (vsf u))) sF c.items inj hc.items fun u hu => ⟨(hA u hu).1, (hap u hu).2.2.1, (hvs u hu).1, fun ps z => by cases z⟩
      have nD' : F' d = none := (hF2 d fun u hu => Ne.symm (hap u hu).1).trans nD
      have sN := sF'.own (o := .dK (aD c.items ad)) nd1 nD' gD
      refine ⟨.ref d, rfl, q _ _ _ sN ⟨c.items.map fun u => (u, inn u), ⟨?_, ?_, ?_, ?_⟩, d, c.items.map fun u => V.ref (ad u), rfl, ?_, ?_⟩⟩
      · rw [List.map_map]
        exact List.map_id' _
      · intro q hq
        obtain ⟨u, _, rfl⟩ := List.mem_map.mp hq
        exact hI.nd u
      · intro q hq r hr
        obtain ⟨u, _, rfl⟩ := List.mem_map.mp hq
        exact hI.lk u r hr
      · intro lk hlk
        have h1 := hI.has lk (hls.mem_iff.mpr hlk)
        have h2 := hc.itemOk _ (CaseD.link_ps hc hlk).1
        unfold isEd
        rw [outs_of (q := ((c.tld lk.1).i, inn (c.tld lk.1).i)) (by
          rw [List.map_map]
          show (c.items.map id).Nodup
          rw [List.map_id]
          exact hc.items) (List.mem_map.mpr ⟨_, h2, rfl⟩)]
        exact h1
      · rw [upd_same, List.map_map, List.map_map, List.zip_map']
        rfl
      · rw [List.map_map, List.map_map]
        have aux : ∀ us : List Str, (∀ u ∈ us, u ∈ c.items) → All2 (upd F' d (.dK (aD c.items ad))) (us.map fun u => V.ref (ad u)) (us.map (Prod.snd ∘ kEd ∘ fun u => (u, inn u))) := by
          intro us
          induction us with
          | nil => exact fun _ => True.intro
          | cons u us ih =>
            intro hus
            have hu := hus u List.mem_cons_self
            refine ⟨⟨ad u, vsf u, rfl, ?_, ?_⟩, ih fun x hx => hus x (List.mem_cons_of_mem _ hx)⟩
            · rw [upd_ne (hap u hu).1, hF1 u hu, List.map_map]
              rfl
            · rw [List.map_map]
              exact (hvs u hu).2.mono (eFF.trans (Ex.new nD'))
        exact aux c.items fun _ h => h
end
end Rb
set_option Elab.async false
set_option linter.all false
set_option maxRecDepth 100000
set_option maxHeartbeats 3200000
/-! Walks: ring, is_explained. -/
namespace Rb
open PySem PySem.Spec PyProof.Rows L2
/-- no ring -/
noncomputable def expl (c : CaseD) : Bool := @decide (¬ ∃ r, IsRing c r) (Classical.propDecidable _)
theorem expl_yes {c : CaseD} : expl c = true ↔ ¬ ∃ r, IsRing c r := by
  unfold expl
  exact @decide_eq_true_iff _ (Classical.propDecidable _)
theorem CaseD.Ok.linkItem {c : CaseD} (hc : c.Ok) : ∀ lk ∈ c.links, (c.tld lk.2).i ∈ c.items := fun lk h => hc.itemOk _ (CaseD.link_ps hc h).2
section
variable {P : Program} {w : World} {K : PySem.W.Frag} {mg : Str → Option Value} {base : Heap} {CL CC : Addr}
theorem EdgeOk.len {c : CaseD} {E : EdgeD} (h : EdgeOk c E) : E.length = c.items.length := by
  have := congrArg List.length h.keys
  simpa using this
theorem ring_case {c : CaseD} {E : EdgeD} (hc : c.Ok) (h : EdgeOk c E) : (∀ k < E.length, ¬ stable E k) ↔ ∃ r, IsRing c r := ring_iff h hc.items hc.linkItem (by rw [h.len]; exact hc.pos)
abbrev s_Case_is_explained : Stmt := inClass (topS 31) 17
theorem sc_Case_is_explained : FnScope ["self"] ["self"] (defScope s_Case_is_explained) := ⟨rfl, rfl, rfl, by decide +kernel, rfl, by decide +kernel, by decide +kernel⟩
abbrev n_Case_is_explained : List Str := ["self"]
abbrev M_expl (P : Program) (w : World) (K : PySem.W.Frag) (mg : Str → Option Value) (base : Heap) (CC : Addr) : Prop := Me P w K mg base 6 CC "is_explained" ["self"] (spN (fun c : CaseD => [pCase CC c]) (fun c => c.Ok) fun c => pB (expl c))
theorem w_expl (Z : Bz K mg CL CC) (D : Dm K CC "is_explained" "Case.is_explained" s_Case_is_explained) (m_Case__edges : M_edges P w K mg base CC) (m_Case__depths : M_depths P w K mg base CC) : M_expl P w K mg base CC :=
  me_mk (k := 5) D sc_Case_is_explained (fun _ => rfl) (bnd1 fun _ _ _ _ _ _ _ => rfl) fun f cdv A outer s H1 vs Q X c H hr e hc h q => by
    have sc := sc_Case_is_explained
    obtain ⟨v, rfl, rv⟩ := all1 h
    refine ⟨_, (pss_one (ps_ret (pe_cmpR op_notN (pe_me m_Case__depths Z.c_Case hr (by decide) (pv 0) (pa_cons (pe_me0 m_Case__edges Z.c_Case hr (by decide) (pv 0)) pa_nil)) pe_non (nomark _)))), ?_⟩
    -- self first, then the edges
    refine ⟨v, rfl, ?_⟩
    obtain ⟨ca, dx, fs, rfl, hca, hl⟩ := case_ins (CC := CC) (c := c) (m := "_depths") rfl H v rv
    refine ⟨ca, dx, fs, rfl, e _ _ hca, hl, ?_⟩
    refine (ev_meth (as := []) c (ev_var (i := 0) (σ := [some (.ref ca)]) rv) (case_ins rfl) ea_nil rfl hc) H1 e _ fun ve G1 A1 s1 r1 => ?_
    obtain ⟨E, hE, re⟩ := r1
    refine ⟨(c, E), G1, s1.b, ⟨hc, hE⟩, ⟨(pCase CC c).mono s1.a rv, re, True.intro⟩, fun vd G2 A2 s2 r2 => ?_⟩
    refine ⟨rfl, ?_⟩
    have r2 : vd = .non ↔ ∀ k < E.length, ¬ stable E k := r2
    have e3 : (!decide (vd = .non)) = expl c := by
      cases hx : expl c with
      | true =>
        have h1 := expl_yes.mp hx
        have : ¬ vd = .non := fun z => h1 ((ring_case hc hE).mp (r2.mp z))
        simp [this]
      | false =>
        have h1 : ∃ r, IsRing c r := Classical.byContradiction fun z => by
          rw [expl_yes.mpr z] at hx
          cases hx
        have : vd = .non := r2.mpr ((ring_case hc hE).mpr h1)
        simp [this]
    rw [e3]
    exact q.val (s1.trans s2)
def wDat (W : List (Nat × Nat)) : PyData := .tuple [.int (W.length : Int), .list (W.map lkDat)]
theorem lks_alike : ∀ V W : List (Nat × Nat), PySem.W.alikeAll (V.map lkDat) (W.map lkDat) = true
  | [], _ => by simp [PySem.W.alikeAll]
  | _ :: _, [] => by simp [PySem.W.alikeAll]
  | a :: V, b :: W => by
    rw [List.map_cons, List.map_cons]
    simp only [PySem.W.alikeAll]
    rw [lk_alike, lks_alike V W]
    rfl
abbrev s_Case_ring : Stmt := inClass (topS 31) 15
theorem sc_Case_ring : FnScope ["self", "edges", "ways", "item", "way"] ["self"] (defScope s_Case_ring) := ⟨rfl, rfl, rfl, by decide +kernel, rfl, by decide +kernel, by decide +kernel⟩
abbrev n_Case_ring : List Str := ["self", "edges", "ways", "item", "way"]
abbrev M_ring (P : Program) (w : World) (K : PySem.W.Frag) (mg : Str → Option Value) (base : Heap) (CC : Addr) : Prop := Me P w K mg base 6 CC "ring" ["self"] (spN (fun c : CaseD => [pCase CC c]) (fun c => c.Ok) fun c => pRing c)
theorem w_ring (Z : Bz K mg CL CC) (D : Dm K CC "ring" "Case.ring" s_Case_ring) (m_Case__edges : M_edges P w K mg base CC) (m_Case__depths : M_depths P w K mg base CC) (m_Case__first_way : M_first_way P w K mg base CC) : M_ring P w K mg base CC :=
  me_mk (k := 5) D sc_Case_ring (fun _ => rfl) (bnd1 fun _ _ _ _ _ _ _ => rfl) fun f cdv A outer s H1 vs Q X c H hr e hc h q => by
    have sc := sc_Case_ring
    obtain ⟨v, rfl, rv⟩ := all1 h
    refine ⟨_, (pss_cons (ps_set (i := 1) sc.nd rfl (Or.inr rfl) (pe_me0 m_Case__edges Z.c_Case hr (by decide) (pv 0)))
    (pss_cons (ps_if (pt_cmpR op_notN (pe_me m_Case__depths Z.c_Case hr (by decide) (pv 0) (pa_cons (pv 1) pa_nil)) pe_non (nomark _)) (pss_one (ps_ret pe_non)) pss_nil)
    (pss_cons (ps_setLc (i := 2) (own := [("item", 3)]) (g := (gName 3)) rfl sc.nd rfl rfl (sw_true rfl rfl rfl (by decide +kernel)) (piList K (peFld K (pv 0) rfl)) (blkOk_by (N := n_Case_ring) (sc := defScope s_Case_ring) (by decide +kernel)) (fun _ _ _ _ _ => (pg_name (i := 3) sc.nd rfl (by first | exact Or.inl rfl | exact Or.inr rfl))) (fun _ _ _ _ _ => pts_nil) (fun _ _ _ _ _ => (pe_me m_Case__first_way Z.c_Case hr (by decide) (pv 0) (pa_cons (pv 1) (pa_cons (pv 3) (pa_cons (pv 3) pa_nil))))))
    (pss_one (ps_ret (pe_ix (ixT K) (pe_callB (crMinD K hr.hd hr.units) (by rfl) Z.min (by decide +kernel) (pa_cons (pe_lc (own := [("way", 4)]) (g := (gName 4)) rfl sc.nd (piList K (pv 2)) (blkOk_by (N := n_Case_ring) (sc := defScope s_Case_ring) (by decide +kernel)) (fun _ _ _ _ _ => (pg_name (i := 4) sc.nd rfl (by first | exact Or.inl rfl | exact Or.inr rfl))) (fun _ _ _ _ _ => pts_one (pt_cmpR op_notN (pv 4) pe_non (nomark _))) (fun _ _ _ _ _ => (pe_tup (pa_cons (pe_callB (cLen K) (by rfl) Z.len PySem.boot_len (pa_cons (pv 4) pa_nil)) (pa_cons (pv 4) pa_nil))))) pa_nil)) pe_int (fun _ _ => rfl))))))), ?_⟩
    refine q_asg e (ev_meth (as := []) c (ev_var rv) (case_ins rfl) ea_nil rfl hc) fun ve G1 A1 s1 r1 => ?_
    obtain ⟨E, hE, re⟩ := r1
    have rv1 := (pCase CC c).mono s1.a rv
    have hmany := hc.many
    have hEl := hE.len
    have ht : EvT (tTest (tOp rNotN (tMeth CC "_depths" (spN (fun a : CaseD × EdgeD => [pCase CC a.1, pEdges a.2]) (fun a => a.1.Ok ∧ EdgeOk a.1 a.2) fun a => pDepths a.2) [] E0 (tVar 0) (tCons (tVar 1) tNil)) (tC .non))) [some v, some ve, none, none, none] G1 (expl c) := by
      refine et_test (ev_notN (ev_meth (as := [pEdges E]) (c, E) (ev_var rv1) (case_ins rfl) (ea_one (ev_var re)) rfl ⟨hc, hE⟩) fun H' vd _ r2 => ?_)
      have r2 : vd = .non ↔ ∀ k < E.length, ¬ stable E k := r2
      cases hx : expl c with
      | true =>
        have h1 := expl_yes.mp hx
        have : ¬ vd = .non := fun z => h1 ((ring_case hc hE).mp (r2.mp z))
        simp [this]
      | false =>
        have h1 : ∃ r, IsRing c r := Classical.byContradiction fun z => by
          rw [expl_yes.mpr z] at hx
          cases hx
        have : vd = .non := r2.mpr ((ring_case hc hE).mpr h1)
        simp [this]
    refine q_if s1.b ht (fun z A2 e2 => ?_) fun z A2 e2 => ?_
    · have := expl_yes.mp z
      exact (q.go s1).ext e2 |> fun q2 => q2 .non G1 A2 (Sep.refl (s1.b.trans e2)) ⟨none, this, rfl⟩
    · have hrg : ∃ r, IsRing c r := Classical.byContradiction fun z2 => by
        rw [expl_yes.mpr z2] at z
        cases z
      have hns := (ring_case hc hE).mpr hrg
      have e12 := s1.b.trans e2
      refine q_asg e12 (ev_lcA (f := pS) (h := fun it => pE (WayO c E it it) pWo) (as := c.items) (ei_list (ev_c_items Z (ev_var rv1))) (by omega) fun it u G hit eG ru => ⟨_, bnd_name, rfl, ev_meth (as := [pEdges E, pS it, pS it]) (c, E, it, it) (ev_var ((pCase CC c).mono eG rv1)) (case_ins rfl) (ea_cons (ev_var ((pEdges E).mono eG re)) (ea_cons (ev_var ru) (ea_one (ev_var ru)))) rfl ⟨hc, hE, hit, hit⟩⟩) fun vw G3 A3 s3 r3 => ?_
      obtain ⟨wl, ws, rfl, hwl, hws⟩ := r3
      obtain ⟨os, ho1, ho2, ho3⟩ := all2_choose hws
      have ro : (pL (os.map pWo)).p G3 (.ref wl) := ⟨wl, ws, rfl, hwl, ho1⟩
      -- some way is there
      have hedw := hE.edW hc.items hc.linkItem
      obtain ⟨x, q1, s2, hch⟩ := loop_of hedw (by rw [hEl]; exact hc.pos) hns
      have hxk : x ∈ c.items := by
        rw [← hE.keys]
        cases q1 with
        | nil => exact isEd_key hch.1
        | cons y q1 => exact isEd_key hch.1
      obtain ⟨i, hi⟩ := List.mem_iff_getElem?.mp hxk
      have hil := (List.getElem?_eq_some_iff.mp hi).1
      obtain ⟨o, hoi⟩ : ∃ o, os[i]? = some o := ⟨_, List.getElem?_eq_getElem (by omega)⟩
      have hox := ho3 i x o hi hoi
      have hsome : o.isSome = true := by
        cases o with
        | some W => rfl
        | none =>
          obtain ⟨far, hF, hno⟩ := hox
          obtain ⟨z1, hz1, hz2⟩ := loop_far hch hF
          exact absurd hz2 (hno z1 hz1)
      have hne : os.filter Option.isSome ≠ [] := fun z => by
        have : o ∈ os.filter Option.isSome := List.mem_filter.mpr ⟨List.mem_of_getElem? hoi, hsome⟩
        rw [z] at this
        cases this
      refine s_ret s3.b ((ev_ixTE (K := K) (n := 1) (Pp := fun W => some W ∈ os) (qs := fun W => [pN W.length, pLks W]) (p := pLks) (ev_minD (K := K) (as := os.filter Option.isSome) (f := fun o => pT [pN (o.getD []).length, pLks (o.getD [])]) (d := fun o => wDat (o.getD [])) (ev_lc (f := pWo) (h := fun o => pT [pN (o.getD []).length, pLks (o.getD [])]) (t := Option.isSome) (as := os) (ei_list (ev_var ro)) (by omega) fun o u G ho eG ru => ⟨_, bnd_name, rfl, et_test (ev_notN (ev_var ru) fun H' v e3 r => ?_), fun ht2 => ?_⟩) hne (fun o _ => dpT2 (dpN _) (dpL fun l _ => dpLk l)) (alike_map (fun a _ b _ => ?_) fun a _ => fun z => nomatch z) (depth_map fun a _ => ?_) fun o ho H v hv => ?_) (fun _ => rfl) rfl).imp fun H' v _ hv => ?_) (((q.go s1).ext e2).go s3)
      · cases o with
        | none =>
          have r : v = .non := r
          subst r
          rfl
        | some W =>
          obtain ⟨a1, xs, r, _⟩ : (pLks W).p H' v := r
          subst r
          rfl
      · cases o with
        | none => cases ht2
        | some W =>
          have ru : (pLks W).p G u := ru
          exact ev_tup (ea_cons ((ev_len (ev_var ru)).eq (by simp)) (ea_one (ev_var ru)))
      · simp only [wDat, PySem.W.alike, PySem.W.alikeAll]
        rw [lks_alike]
        simp
      · have h1 : PyData.depthAll ((a.getD []).map lkDat) ≤ 1 := depth_map fun l _ => by rw [lk_depth]; omega
        simp only [wDat, PyData.depth, PyData.depthAll]
        omega
      · obtain ⟨ho4, ho5⟩ := List.mem_filter.mp ho
        obtain ⟨W, rfl⟩ := Option.isSome_iff_exists.mp ho5
        exact ⟨W, ho4, hv⟩
      · obtain ⟨W, hW, hv⟩ := hv
        obtain ⟨j, hj⟩ := List.mem_iff_getElem?.mp hW
        have hjl := (List.getElem?_eq_some_iff.mp hj).1
        have hcj : c.items[j]? = some c.items[j] := List.getElem?_eq_getElem (by omega)
        have h1 := ho3 j _ _ hcj hj
        exact ⟨some W, ⟨⟨h1.1, _, h1.2.1⟩, h1.2.2⟩, hv⟩
end
end Rb
set_option Elab.async false
set_option linter.all false
set_option maxRecDepth 100000
set_option maxHeartbeats 3200000
/-! Walks: checks of a case's making. -/
namespace Rb
open PySem PySem.Spec PyProof.Rows L2
section
variable {K : PySem.W.Frag} {σ : L2.St} {H : Hp} {ta te : TE} {g : TG} {tt : TT}
abbrev rSortD : List V → Hp → VK → Prop := fun xs H Q => ∃ (a : Addr) (kvs : List (Key × V)) (ks : List Str), xs = [.ref a] ∧ Rd H a (.dK kvs) ∧ kvs.map (·.1) = ks.map Sum.inr ∧ ks.length < 64 ∧
    ∀ ys p, ys.Perm ks → sortedS ys = true → H p = none → Q (.ref p) (upd H p (.lst (ys.map V.str)))
theorem ev_sortD0 (h : Ev ta σ H (pD [])) : Ev (tCB rSortD (tCons ta tNil)) σ H (pL []) := ev_cb (ea_one h) fun H' vs _ hv H1 e1 Q q => by
  obtain ⟨v, rfl, d, xs, rfl, hd, hx⟩ := all1 hv
  refine ⟨d, [], [], rfl, .inl (e1 _ _ hd), rfl, by decide, fun ys p hp _ hn => ?_⟩
  obtain rfl := List.Perm.eq_nil hp
  exact q _ _ _ (Sep.new e1 hn) ⟨p, [], rfl, upd_same, True.intro⟩
theorem ei_vals0 {d : Addr} {od : Obj} (h : Ev ta σ (frzD H d od []) (pV (.ref d))) : EvI (iVals ta) σ (frzD H d od []) [] := fun H1 e Q q => h H1 e _ fun v K1 H2 s r => by
  have r : v = .ref d := r
  subst r
  have hd := s.at_frz
  refine ⟨d, od, [], rfl, s.b _ _ hd, q _ K1 H2 s fun H3 e3 => ⟨fun i p hp => by simp at hp, e3 _ _ hd, Nat.le_refl _⟩⟩
theorem ev_lcV0 {d : Addr} {vs : List Nat} (hd : H d = some (.dK [])) (ht : ∀ od, Ev ta σ (frzD H d od []) (pV (.ref d))) : Ev (tLockE (tLc (iVals ta) g tt te vs)) σ H (pL []) := fun H1 e Q q => by
  refine ⟨d, .dK [], e _ _ hd, True.intro, fun od => ?_⟩
  refine ev_lc (α := Unit) (as := []) (f := fun _ => pNo) (t := fun _ => true) (h := fun _ => pNo) (ei_vals0 (ht od)) (Nat.zero_le _) (fun a v G ha _ _ => by cases ha) _ (Ex.lock e) _ fun v G G2 s r => ?_
  have hG := s.at_frz
  exact ⟨s.b _ _ hG, q v _ _ (Sep.unlock e hd s) (flat_pL (fun p hp => by cases hp) _ _ _ _ _ hG r)⟩
end
section
variable {P : Program} {w : World} {K : PySem.W.Frag} {mg : Str → Option Value} {base : Heap} {CL CC : Addr}
abbrev F_is_drift (P : Program) (w : World) (K : PySem.W.Frag) (mg : Str → Option Value) (base : Heap) : Prop := Fn P w K mg base 1 "is_drift" ["text"] (spN (fun x : Str => [pS x]) DriftOk fun _ => pB true)
abbrev s_check_drifts : Stmt := topS 28
theorem sc_check_drifts : FnScope ["log", "drifts", "judge", "drift"] ["log", "drifts"] (defScope s_check_drifts) := ⟨rfl, rfl, rfl, by decide +kernel, rfl, by decide +kernel, by decide +kernel⟩
abbrev n_check_drifts : List Str := ["log", "drifts", "judge", "drift"]
abbrev F_check_drifts (P : Program) (w : World) (K : PySem.W.Frag) (mg : Str → Option Value) (base : Heap) (CL : Addr) : Prop := Fn P w K mg base 2 "check_drifts" ["log", "drifts"] (spN (fun l : LogD => [pLog CL l, pD []]) (fun _ => True) fun _ => pNo)
theorem w_check_drifts (Z : Bz K mg CL CC) (D : Df K mg "check_drifts" s_check_drifts [] []) (m_Log_drift_of : M_drift_of P w K mg base CL) (f_is_drift : F_is_drift P w K mg base) : F_check_drifts P w K mg base CL :=
  fn_mk (k := 1) D sc_check_drifts (fun _ => rfl) (bnd2 fun _ _ _ _ _ _ _ _ => rfl) fun f cdv A outer s H1 vs Q X l H hr e hp h q => by
    have sc := sc_check_drifts
    obtain ⟨v, vd, rfl, rv, rd⟩ := all2 h
    refine ⟨_, (pss_cons (ps_for PassesOwn.never rfl (piList K (pe_callB (call_sortedD rfl) (by rfl) Z.sorted (by decide +kernel) (pa_cons (pv 1) pa_nil))) (pg_name (i := 2) sc.nd rfl (by first | exact Or.inl rfl | exact Or.inr rfl)) (pss_one (ps_expr (pe_me m_Log_drift_of Z.c_Log hr (by decide) (pv 0) (pa_cons (pv 2) pa_nil)))))
    (pss_one (ps_if (pt_not (pt_val (pe_callB (crAll K rfl) (by rfl) Z.all (by decide +kernel) (pa_cons (pe_lock (pe_lc (own := [("drift", 3)]) (g := (gName 3)) rfl sc.nd (pi_values (pv 1)) (blkOk_by (N := n_check_drifts) (sc := defScope s_check_drifts) (by decide +kernel)) (fun _ _ _ _ _ => (pg_name (i := 3) sc.nd rfl (by first | exact Or.inl rfl | exact Or.inr rfl))) (fun _ _ _ _ _ => pts_nil) (fun _ _ _ _ _ => (pe_fn f_is_drift hr (by decide) (by rfl) (pa_cons (pv 3) pa_nil))))) pa_nil)))) pss_never pss_nil))), ?_⟩
    refine q_forE (K := K) e (ev_sortD0 (ev_var rd)) fun vl G1 A1 s1 rl => ?_
    refine q_for (H := G1) s1.b (ei_list (ps := []) (ev_cR rl)) (fun i σ F F1 => i = 0 ∧ Sep H H1 F F1 ∧ σ = [some v, some vd, none, none]) (fun H' H2 s => ⟨rfl, s1.trans s, rfl⟩) (fun i p v σ' G G1 G' G2 hp => by simp at hp) ?_
    rintro σ' F F1 eF eF1 ⟨_, sF, rfl⟩
    obtain ⟨d, xs, rfl, hd, hx⟩ := rd
    have hd2 := sF.a _ _ hd
    have hxs : xs = [] := by
      cases xs with
      | nil => rfl
      | cons a b => exact hx.elim
    subst hxs
    refine s_ifN sF.b ((et_not (et_B (ev_all (K := K) (bs := []) (ev_lcV0 hd2 fun od => ev_var rfl)))).eq rfl) fun H2 e2 => ?_
    exact ((q.go sF).ext e2).val (Sep.refl (sF.b.trans e2))
abbrev s_check_answers : Stmt := topS 29
theorem sc_check_answers : FnScope ["log", "places", "place"] ["log", "places"] (defScope s_check_answers) := ⟨rfl, rfl, rfl, by decide +kernel, rfl, by decide +kernel, by decide +kernel⟩
abbrev n_check_answers : List Str := ["log", "places", "place"]
abbrev F_check_answers (P : Program) (w : World) (K : PySem.W.Frag) (mg : Str → Option Value) (base : Heap) (CL : Addr) : Prop := Fn P w K mg base 2 "check_answers" ["log", "places"] (spN (fun a : LogD × List Nat => [pLog CL a.1, pNs a.2]) (fun a => ∀ p ∈ a.2, a.1.isAns p = true) fun _ => pNo)
theorem w_check_answers (Z : Bz K mg CL CC) (D : Df K mg "check_answers" s_check_answers [] []) (m_Log_is_answer : M_is_answer P w K mg base CL) : F_check_answers P w K mg base CL :=
  fn_mk (k := 1) D sc_check_answers (fun _ => rfl) (bnd2 fun _ _ _ _ _ _ _ _ => rfl) fun f cdv A outer s H1 vs Q X a H hr e hp h q => by
    have sc := sc_check_answers
    obtain ⟨l, ns⟩ := a
    obtain ⟨v, vn, rfl, rv, rn⟩ := all2 h
    refine ⟨_, (pss_one (ps_for PassesOwn.never rfl (piList K (pv 1)) (pg_name (i := 2) sc.nd rfl (by first | exact Or.inl rfl | exact Or.inr rfl)) (pss_one (ps_if (pt_not (pt_val (pe_me m_Log_is_answer Z.c_Log hr (by decide) (pv 0) (pa_cons (pv 2) pa_nil)))) pss_never pss_nil)))), ?_⟩
    refine s_for e (ei_list (ps := ns.map pN) (ev_var rn)) (fun i σ F F1 => Sep H H1 F F1 ∧ ∃ x, σ = [some v, some vn, x]) (fun H' H2 s => ⟨s, _, rfl⟩) ?_ ?_
    · rintro i p u σ' F F1 F' F2 hpi ⟨sF, x, rfl⟩ eF s2 rp
      obtain ⟨n, hn, rfl⟩ := map_get hpi
      have hna : l.isAns n = true := hp n (List.mem_of_getElem? hn)
      refine bnd_name F2 s2.b _ ?_
      refine s_ifN s2.b ((et_not (et_B (ev_meth (as := [pN n]) (l, n) (ev_var ((pLog CL l).mono (sF.a.trans s2.a) rv)) (log_ins rfl) (ea_one (ev_var rp)) rfl True.intro))).eq (by rw [hna] <;> rfl)) fun H3 e3 => ?_
      exact ⟨F', s2.a, s2.b.trans e3, (sF.trans s2).ext e3, _, rfl⟩
    · rintro σ' F F1 eF eF1 ⟨sF, x, rfl⟩
      exact q.val sF
end
end Rb
set_option Elab.async false
set_option linter.all false
set_option maxRecDepth 100000
set_option maxHeartbeats 3200000
/-! Walks: what a case gathers. -/
namespace Rb
open PySem PySem.Spec PyProof.Rows L2
section
variable {P : Program} {w : World} {K : PySem.W.Frag} {mg : Str → Option Value} {base : Heap} {x qual : Str} {st : Stmt} {N ps : List Str} {k : Nat} {sp : Sp} {C : Addr}
theorem me_mkS (D : Dm K C x qual st) (S : FnScope N ps (defScope st)) (hl : ∀ vs H Q E, sp vs H Q E → vs.length = ps.length) (hbd : BindT x qual st ps)
    (hb : ∀ (f : Addr) (cdv : Value) (A : Around) (outer : List Env) (s : Shared) (H1 : Hp) (vs : List V) (Q : VK) (E : XK), Room k (A.deeper (envOfC qual (defScope st) s.heap.objs.size f cdv)) → sp vs H1 Q E →
      ∃ t, PSs (cxOf CX0 P w K mg base N qual (defScope st) f cdv A outer s H1 E).nox (defBody st) t ∧ t { nx := fun _ H' => Q .non H', rt := Q } (start N vs) H1) : Me P w K mg base (k + 1) C x ps sp := by
  obtain ⟨f, fd, F, hm⟩ := D.ex
  refine ⟨f, fd, F.ok S hl fun cdv A outer s H1 vs Q E hr h => ?_, hm, F.bindsN hbd⟩
  obtain ⟨t, h1, h2⟩ := hb f cdv A outer s H1 vs Q E hr h
  exact ⟨t, h1.nox, h2⟩
end
/-- a new dict of one's own -/
def EvOwn (te : TE) (σ : L2.St) (H : Hp) (kvs : List (Key × V)) : Prop := ∀ H1, Ex H H1 → ∀ Q : VK, (∀ d H' H2, Sep H H1 H' H2 → H' d = none → H1 d = none → H2 d = some (.dK kvs) → Q (.ref d) H2) → te σ H1 Q
section
variable {K : PySem.W.Frag} {σ : L2.St} {H H1 : Hp} {te tk td tv ty : TE} {R : Pr} {tz tu : TS} {D : Ends} {g : TG} {wi : TI} {i : Nat}
theorem eo_dc {vs : List Nat} {items : List Str} {c : Int} (hi : EvI wi σ H (items.map pS)) (hn : items.Nodup) (hz : items.length ≤ 100000)
    (hs : ∀ x v G, x ∈ items → Ex H G → (pS x).p G v → ∃ σ2, Bnd g v (wipe σ vs) G σ2 ∧ wipe σ2 vs = wipe σ vs ∧ Ev tk σ2 G (pV (kV (.inr x)))) :
    EvOwn (tDc wi g tYes tk (tC (.int c)) vs) σ H (items.map fun x => ((.inr x : Key), V.int c)) := fun H1 e Q q => hi H1 e _ fun J K1 H2 s y L hL => by
  have kL : K1 L = none := s.b.back hL
  have hlen : (items.map pS).length = items.length := List.length_map ..
  refine ⟨fun i m G1 => m = items.length - i ∧ i ≤ items.length ∧ ∃ G, Sep K1 H2 G G1 ∧ G L = none ∧ G1 L = some (.dK ((items.take i).map fun x => ((.inr x : Key), V.int c))), ⟨items.length, by simp, Nat.zero_le _, K1, Sep.hid s.b hL, kL, upd_same⟩, ?_⟩
  rintro i m G1 ⟨rfl, hi2, G, sG, nL, gL⟩
  obtain ⟨y1, y2⟩ := y.mono sG.a G1 sG.b
  by_cases hlt : i < items.length
  · have ea : items[i]? = some items[i] := List.getElem?_eq_getElem hlt
    have ef : (items.map pS)[i]? = some (pS items[i]) := get_map ea
    have etk : items.take (i + 1) = items.take i ++ [items[i]] := List.take_succ_eq_append_getElem hlt
    obtain ⟨go, yl⟩ := y1 i _ ef
    refine .inr ⟨go, fun G4 => i + 1 ≤ items.length ∧ ∃ G, Sep K1 H2 G G4 ∧ G L = none ∧ G4 L = some (.dK ((items.take (i + 1)).map fun x => ((.inr x : Key), V.int c))), fun G4 w => ⟨items.length - (i + 1), by omega, rfl, w⟩, fun x G2 yx => ?_⟩
    obtain ⟨G', s2, rx⟩ := yl x G2 yx
    obtain ⟨σ2, hb, hw, hk⟩ := hs items[i] x G' (List.getElem_mem hlt) (s.a.trans (sG.a.trans s2.a)) rx
    have n2 := s2.keep nL gL
    refine hb G2 s2.b _ ⟨hw, ?_⟩
    show tk σ2 G2 _
    refine hk G2 s2.b _ fun yk G3 H3 s3 ek => ?_
    have n3 := s3.keep n2.1 n2.2
    have hni : items[i] ∉ items.take i := fun hm => by
      have e1 : items = items.take i ++ items.drop i := (List.take_append_drop ..).symm
      rw [e1] at hn
      refine (List.nodup_append.mp hn).2.2 _ hm _ ?_ rfl
      rw [List.drop_eq_getElem_cons hlt]
      exact List.mem_cons_self
    have hnew : valV ((items.take i).map fun x => ((.inr x : Key), V.int c)) (.inr items[i]) = none := valV_no (by
      rw [List.map_map]
      intro hm
      obtain ⟨x, hx, ex⟩ := List.mem_map.mp hm
      have ex : (Sum.inr x : Key) = .inr items[i] := ex
      have ex : x = items[i] := by injection ex
      exact hni (by rw [← ex]; exact hx))
    refine ⟨_, .inr items[i], ek, n3.2, ?_, hlt, G3, (((sG.trans s2).trans s3).mut hL n3.1), n3.1, ?_⟩
    · rw [List.length_map, List.length_take]
      exact Nat.lt_of_lt_of_le (by omega) (Nat.le_trans hz (by decide))
    · rw [upd_same, putK_new _ hnew, etk, List.map_append]
      rfl
  · have ei : i = items.length := by omega
    subst ei
    rw [List.take_length] at gL
    rw [hlen] at y2
    exact .inl ⟨y2, q L G G1 (s.trans sG) nL (s.c.back hL) gL⟩
theorem eo_lock {d : Addr} {kvs out : List (Key × V)} (hd : H d = some (.dK kvs)) (h : ∀ od, EvOwn te σ (frzD H d od kvs) out) : EvOwn (tLockE te) σ H out := fun H1 e Q q => by
  refine ⟨d, .dK kvs, e _ _ hd, True.intro, fun od => h od _ (Ex.lock e) _ fun p G G2 s n1 n2 g2 => ?_⟩
  have hG := s.at_frz
  have hne : p ≠ d := fun z => by
    rw [z, hG] at n1
    cases n1
  exact ⟨s.b _ _ hG, q p _ _ (Sep.unlock e hd s) (by rw [upd_ne hne]; exact n1) ((frz_ne hne).symm.trans n2) (by rw [upd_ne hne]; exact g2)⟩
theorem q_lockO {out : List (Key × V)} (e : Ex H H1) (h : EvOwn (tLockE te) σ H out) (k : ∀ d H2, Ex H1 H2 → H1 d = none → H2 d = some (.dK out) → tz D (σ.set i (some (.ref d))) H2) : tSeq (tLock (tAsg te (gName i))) tz D σ H1 := h H1 e _ fun d H' H2 s n1 n2 g => k d H2 s.c n2 g
/-- d[k] += n -/
theorem s_daugR {d : Addr} {kvs : List (Key × V)} {k : Key} {n m : Int} (e : Ex H H1) (ht : Ev td σ H (pV (.ref d))) (hk : Ev ty σ H (pV (kV k))) (hv : Ev tv σ H (pI m)) (hd : H1 d = some (.dK kvs)) (hg : valV kvs k = some (.int n)) (hz : kvs.length < 100000)
    (kk : ∀ H2, Ex H1 H2 → D.nx σ (upd H2 d (.dK (putK kvs k (.int (n + m)))))) : sDAug td ty tv rAdd D σ H1 :=
  ht H1 e _ fun x G2 A2 s2 r2 => (hk.mono s2.a) A2 s2.b _ fun y G3 A3 s3 r3 => by
    have r2 : x = .ref d := r2
    have r3 : y = kV k := r3
    subst r2 r3
    have e3 := s2.c.trans s3.c
    refine ⟨d, .int n, rfl, .inl ⟨kvs, k, .inl (e3 _ _ hd), rfl, hg.symm⟩, ((hv.mono s2.a).mono s3.a) A3 s3.b _ fun v G4 A4 s4 r4 => ?_⟩
    have r4 : v = .int m := r4
    subst r4
    have e4 := e3.trans s4.c
    exact ⟨n, m, rfl, rfl, _, DPut.k (e4 _ _ hd) (Nat.lt_of_lt_of_le hz (by decide)), kk A4 e4⟩
/-- own objects are told, any index -/
theorem own_allG {α : Type} {F F1 : Hp} {ad : α → Addr} {o : α → HO} {B : Hp} {G : Hp} (s : Sep G B F F1) : ∀ (us : List α), (∀ x ∈ us, ∀ y ∈ us, ad x = ad y → x = y) → us.Nodup → (∀ u ∈ us, F (ad u) = none ∧ B (ad u) = none ∧ F1 (ad u) = some (o u) ∧ ∀ ps, o u ≠ .tbl ps) →
    ∃ F', Sep G B F' F1 ∧ Ex F F' ∧ (∀ u ∈ us, F' (ad u) = some (o u)) ∧ ∀ b, (∀ u ∈ us, b ≠ ad u) → F' b = F b
  | [], _, _, _ => ⟨F, s, Ex.refl _, fun _ h => (by cases h), fun _ _ => rfl⟩
  | u :: us, inj, hn, h => by
    obtain ⟨F', s', e', h1, h2⟩ := own_allG s us (fun x hx y hy => inj x (List.mem_cons_of_mem _ hx) y (List.mem_cons_of_mem _ hy)) (List.nodup_cons.mp hn).2 fun x hx => h x (List.mem_cons_of_mem _ hx)
    obtain ⟨a1, a2, a3, a4⟩ := h u List.mem_cons_self
    have hne : ∀ x ∈ us, ad u ≠ ad x := fun x hx z => (List.nodup_cons.mp hn).1 (by rw [inj u List.mem_cons_self x (List.mem_cons_of_mem _ hx) z]; exact hx)
    have n1 : F' (ad u) = none := (h2 _ hne).trans a1
    refine ⟨upd F' (ad u) (o u), s'.own a2 n1 a3 a4, e'.trans (Ex.new n1), fun x hx => ?_, fun b hb => ?_⟩
    · rcases List.mem_cons.mp hx with z | z
      · rw [z]
        exact upd_same
      · rw [upd_ne (Ne.symm (hne x z))]
        exact h1 x z
    · rw [upd_ne (hb u List.mem_cons_self)]
      exact h2 b fun x hx => hb x (List.mem_cons_of_mem _ hx)
end
abbrev keyT (k : Str × Nat) : List Key := [.inr k.1, .inl (k.2 : Int)]
theorem keyT_inj {a b : Str × Nat} (h : keyT a = keyT b) : a = b := by
  obtain ⟨a1, a2⟩ := a
  obtain ⟨b1, b2⟩ := b
  have h : ([.inr a1, .inl (a2 : Int)] : List Key) = [.inr b1, .inl (b2 : Int)] := h
  injection h with h1 h2
  injection h2 with h2 _
  have h1 : a1 = b1 := by injection h1
  have h2 : (a2 : Int) = (b2 : Int) := by injection h2
  have h3 : a2 = b2 := by omega
  rw [h1, h3]
abbrev rowsD (rows : List ((Str × Nat) × List Nat)) (ad : Str × Nat → Addr) : List (List Key × V) := rows.map fun r => (keyT r.1, V.ref (ad r.1))
theorem valV_rows {rows : List ((Str × Nat) × List Nat)} {ad : Str × Nat → Addr} {k : Str × Nat} (h : k ∈ rows.map Prod.fst) : valV (rowsD rows ad) (keyT k) = some (.ref (ad k)) := by
  induction rows with
  | nil => cases h
  | cons r rows ih =>
    by_cases e : r.1 = k
    · subst e
      exact valV_pos rfl
    · have e2 : ¬ keyT r.1 = keyT k := fun z => e (keyT_inj z)
      show valV ((keyT r.1, V.ref (ad r.1)) :: rowsD rows ad) (keyT k) = _
      rw [valV_neg e2]
      exact ih (by
        rw [List.map_cons] at h
        rcases List.mem_cons.mp h with z | z
        · exact absurd z.symm e
        · exact z)
theorem valV_rowsN {rows : List ((Str × Nat) × List Nat)} {ad : Str × Nat → Addr} {k : Str × Nat} (h : k ∉ rows.map Prod.fst) : valV (rowsD rows ad) (keyT k) = none := valV_no (by
  rw [List.map_map]
  intro hm
  obtain ⟨r, hr, er⟩ := List.mem_map.mp hm
  exact h (List.mem_map.mpr ⟨r, hr, keyT_inj er⟩))
abbrev kIn (t : Nat × Tld) : Key := .inl (t.1 : Int)
/-- what stands while a case gathers -/
structure GatS (l : LogD) (S R : List Nat) (M : Option (List Nat)) (i : Nat) (lf pf : Str → Nat) (CC x dx ta la pa ra : Addr) (fs : List (Str × V)) (B F F1 : Hp) : Prop where
  fx : F1 x = some (.ins CC dx fs)
  ft : ∃ tv, F1 ta = some (.dK (((l.toldTo S R M i).map kIn).zip tv)) ∧ All2 F tv ((l.toldTo S R M i).map fun t => pTld t.2)
  fl : F1 la = some (.dK (dD l.names lf))
  fp : F1 pa = some (.dK (dD l.names pf))
  fr : ∃ ad : Str × Nat → Addr, F1 ra = some (.dT (rowsD (rowsOf (l.toldTo S R M i)) ad)) ∧ (∀ r ∈ rowsOf (l.toldTo S R M i), ∀ q ∈ rowsOf (l.toldTo S R M i), ad r.1 = ad q.1 → r.1 = q.1) ∧
    ∀ r ∈ rowsOf (l.toldTo S R M i), F1 (ad r.1) = some (.lst (r.2.map fun n : Nat => V.int (n : Int))) ∧ F (ad r.1) = none ∧ B (ad r.1) = none
  ux : F x = none
  ut : F ta = none
  ul : F la = none
  up : F pa = none
  ur : F ra = none
theorem GatS.keep {l : LogD} {S R : List Nat} {M : Option (List Nat)} {i : Nat} {lf pf : Str → Nat} {CC x dx ta la pa ra : Addr} {fs : List (Str × V)} {B F F1 F' F2 : Hp} (g : GatS l S R M i lf pf CC x dx ta la pa ra fs B F F1) (s : Sep F F1 F' F2) : GatS l S R M i lf pf CC x dx ta la pa ra fs B F' F2 := by
  obtain ⟨tv, t1, t2⟩ := g.ft
  obtain ⟨ad, r1, r2, r3⟩ := g.fr
  have kx := s.keep g.ux g.fx
  have kt := s.keep g.ut t1
  have kl := s.keep g.ul g.fl
  have kp := s.keep g.up g.fp
  have kr := s.keep g.ur r1
  refine ⟨kx.2, ⟨tv, kt.2, t2.mono s.a⟩, kl.2, kp.2, ⟨ad, kr.2, r2, fun r hr => ?_⟩, kx.1, kt.1, kl.1, kp.1, kr.1⟩
  obtain ⟨a1, a2, a3⟩ := r3 r hr
  have ka := s.keep a2 a1
  exact ⟨ka.2, ka.1, a3⟩
theorem GatS.ext {l : LogD} {S R : List Nat} {M : Option (List Nat)} {i : Nat} {lf pf : Str → Nat} {CC x dx ta la pa ra : Addr} {fs : List (Str × V)} {B F F1 F2 : Hp} (g : GatS l S R M i lf pf CC x dx ta la pa ra fs B F F1) (e : Ex F1 F2) (e0 : Ex F F1) : GatS l S R M i lf pf CC x dx ta la pa ra fs B F F2 :=
  g.keep ⟨Ex.refl _, e0.trans e, e, fun _ _ h => h, fun _ _ h => h⟩
abbrev rRes (l : LogD) (R : List Nat) (i : Nat) : Bool := l.isRes i || decide (i ∈ R)
theorem lot_next (l : LogD) (R : List Nat) (i : Nat) : (fun j => l.lotC R j (i + 1)) = if rRes l R i = true then (fun j => if j = l.evJ i then l.lotC R (l.evJ i) i + 1 else l.lotC R j i) else fun j => l.lotC R j i := by
  funext j
  rw [lotC_succ]
  by_cases h : rRes l R i = true
  · have h2 : l.isRes i = true ∨ i ∈ R := by simpa [rRes] using h
    rw [if_pos h]
    by_cases hj : j = l.evJ i
    · subst hj
      rw [if_pos ⟨rfl, h2⟩, if_pos rfl]
    · rw [if_neg (fun z => hj z.1.symm), if_neg hj]
  · have h2 : ¬ (l.isRes i = true ∨ i ∈ R) := by simpa [rRes] using h
    rw [if_neg h, if_neg (fun z => h2 z.2)]
theorem part_next (l : LogD) (M : Option (List Nat)) (i : Nat) : (fun j => l.partC M j (i + 1)) = if LogD.movesAt M i = true then (fun j => if j = l.evJ i then l.partC M (l.evJ i) i + 1 else l.partC M j i) else fun j => l.partC M j i := by
  funext j
  rw [partC_succ]
  by_cases h : LogD.movesAt M i = true
  · rw [if_pos h]
    by_cases hj : j = l.evJ i
    · subst hj
      rw [if_pos ⟨rfl, h⟩, if_pos rfl]
    · rw [if_neg (fun z => hj z.1.symm), if_neg hj]
  · rw [if_neg h, if_neg (fun z => h z.2)]
/-- the promise -/
def spGather (CL CC : Addr) : Sp := fun vs H1 Q _ => ∃ (l : LogD) (S R : List Nat) (M : Option (List Nat)) (G B : Hp) (x dx ta : Addr) (vl vs' vr vm vi vg vd lv : V), vs = [.ref x, vl, vs', vr, vm] ∧ l.Ok ∧ Ex G B ∧ Ex B H1 ∧ (pLog CL l).p G vl ∧ (pNs S).p G vs' ∧ (pNs R).p G vr ∧ (pON M).p G vm ∧
  (pD (l.judges.map kDr)).p G vd ∧ B x = none ∧ B ta = none ∧ H1 x = some (.ins CC dx [("_items", vi), ("_grades", vg), ("_drifts", vd), ("_told", .ref ta), ("_lots", lv)]) ∧ H1 ta = some (.dK []) ∧
  ∀ H' H2 tv ll, Sep G B H' H2 → H' x = none → H' ta = none → H2 x = some (.ins CC dx [("_items", vi), ("_grades", vg), ("_drifts", vd), ("_told", .ref ta), ("_lots", ll)]) → H2 ta = some (.dK (((mkCase l S R M).told.map kIn).zip tv)) →
    All2 H' tv ((mkCase l S R M).told.map fun t => pTld t.2) → (pL ((mkCase l S R M).lots.map pNs)).p H' ll → Q .non H2
end Rb
set_option Elab.async false
set_option linter.all false
set_option maxRecDepth 100000
set_option maxHeartbeats 3200000
/-! Walks: _gather. -/
namespace Rb
open PySem PySem.Spec PyProof.Rows L2
theorem Sep.sub {G B A H' H2 : Hp} (s : Sep G A H' H2) (e : Ex B A) : Sep G B H' H2 := ⟨s.a, s.b, e.trans s.c, fun b h1 h2 => s.d b (fun q => h1 (e.back q)) h2, s.e⟩
theorem isRes_res {l : LogD} {i : Nat} {j : Str} (h : l.events[i]? = some (.res j)) : l.isRes i = true ∧ l.isAns i = false ∧ l.evJ i = j := by
  unfold LogD.isRes LogD.isAns LogD.evJ
  rw [h]
  exact ⟨rfl, rfl, rfl⟩
theorem isRes_ans {l : LogD} {i : Nat} {j it : Str} {g : Nat} (h : l.events[i]? = some (.ans j it g)) : l.isRes i = false ∧ l.isAns i = true ∧ l.evJ i = j ∧ l.itemAt i = it ∧ l.gradeAt i = g := by
  unfold LogD.isRes LogD.isAns LogD.evJ LogD.itemAt LogD.gradeAt
  rw [h]
  exact ⟨rfl, rfl, rfl, rfl, rfl⟩
theorem evJ_name {l : LogD} (h : l.Ok) {i : Nat} (hi : i < l.events.length) : l.evJ i ∈ l.names := by
  have he : l.events[i]? = some l.events[i] := List.getElem?_eq_getElem hi
  have h2 := h.evs _ (List.getElem_mem hi)
  cases hev : l.events[i] with
  | res j =>
    rw [hev] at he h2
    rw [(isRes_res he).2.2]
    exact h2
  | ans j it g =>
    rw [hev] at he h2
    rw [(isRes_ans he).2.2.1]
    exact h2.1
/-- an event's first and second -/
theorem ev_first {K : PySem.W.Frag} {σ : L2.St} {H : Hp} {te : TE} {l : LogD} {i : Nat} (hi : i < l.events.length) (h : Ev te σ H (pEv (l.events.getD i (.res Str.empty)))) :
    Ev (tOp (rIxT K) te (tC (.int 0))) σ H (pS (if l.isRes i = true then "reset" else "answer")) ∧ Ev (tOp (rIxT K) te (tC (.int 1))) σ H (pS (l.evJ i)) := by
  have he : l.events[i]? = some l.events[i] := List.getElem?_eq_getElem hi
  have eD : l.events.getD i (.res Str.empty) = l.events[i] := by rw [List.getD_eq_getElem?_getD, he] <;> rfl
  rw [eD] at h
  cases hev : l.events[i] with
  | res j =>
    rw [hev] at he h
    obtain ⟨h1, _, h3⟩ := isRes_res he
    rw [h1, h3]
    exact ⟨ev_ixT' (n := 0) (ps := [pS "reset", pS j]) h rfl rfl, ev_ixT' (n := 1) (ps := [pS "reset", pS j]) h rfl rfl⟩
  | ans j it g =>
    rw [hev] at he h
    obtain ⟨h1, _, h3, _⟩ := isRes_ans he
    rw [h1, h3]
    exact ⟨ev_ixT' (n := 0) (ps := [pS "answer", pS j, pS it, pN g]) h rfl rfl, ev_ixT' (n := 1) (ps := [pS "answer", pS j, pS it, pN g]) h rfl rfl⟩
theorem ev_third {K : PySem.W.Frag} {σ : L2.St} {H : Hp} {te : TE} {l : LogD} {i : Nat} (hi : l.isAns i = true) (h : Ev te σ H (pEv (l.events.getD i (.res Str.empty)))) :
    Ev (tOp (rIxT K) te (tC (.int 2))) σ H (pS (l.itemAt i)) ∧ Ev (tOp (rIxT K) te (tC (.int 3))) σ H (pN (l.gradeAt i)) := by
  have he := LogD.isAns_ev hi
  have eD : l.events.getD i (.res Str.empty) = .ans (l.evJ i) (l.itemAt i) (l.gradeAt i) := by rw [List.getD_eq_getElem?_getD, he] <;> rfl
  rw [eD] at h
  exact ⟨ev_ixT' (n := 2) (ps := [pS "answer", pS (l.evJ i), pS (l.itemAt i), pN (l.gradeAt i)]) h rfl rfl, ev_ixT' (n := 3) (ps := [pS "answer", pS (l.evJ i), pS (l.itemAt i), pN (l.gradeAt i)]) h rfl rfl⟩
section
variable {P : Program} {w : World} {K : PySem.W.Frag} {mg : Str → Option Value} {base : Heap} {CL CC : Addr}
abbrev P_events (P : Program) (w : World) (K : PySem.W.Frag) (mg : Str → Option Value) (base : Heap) (CL : Addr) : Prop := Pp P w K mg base 1 CL "events" (spN (fun l : LogD => [pLog CL l]) (fun _ => True) fun l => pL (l.events.map pEv))
abbrev P_judges (P : Program) (w : World) (K : PySem.W.Frag) (mg : Str → Option Value) (base : Heap) (CL : Addr) : Prop := Pp P w K mg base 1 CL "judges" (spN (fun l : LogD => [pLog CL l]) (fun _ => True) fun l => pL (l.judges.map pJ))
abbrev P_item_names (P : Program) (w : World) (K : PySem.W.Frag) (mg : Str → Option Value) (base : Heap) (CL : Addr) : Prop := Pp P w K mg base 1 CL "item_names" (spN (fun l : LogD => [pLog CL l]) (fun _ => True) fun l => pL (l.items.map pS))
abbrev P_grades (P : Program) (w : World) (K : PySem.W.Frag) (mg : Str → Option Value) (base : Heap) (CL : Addr) : Prop := Pp P w K mg base 1 CL "grades" (spN (fun l : LogD => [pLog CL l]) (fun _ => True) fun l => pN l.grades)
theorem q_ifJ {σ : L2.St} {H H1 : Hp} {t : TT} {tu tz : TS} {D : Ends} {b : Bool} (P : Hp → Prop) (e : Ex H H1) (h : EvT t σ H b) (h1 : b = true → ∀ H2, Ex H1 H2 → ∀ D' : Ends, (∀ H', P H' → D'.nx σ H') → tu D' σ H2) (h2 : b = false → ∀ H2, Ex H1 H2 → P H2) (k : ∀ H', P H' → tz D σ H') : tSeq (tIfS t tu tNext) tz D σ H1 :=
  q_if e h (fun z H2 e2 => h1 z H2 e2 _ k) fun z H2 e2 => k H2 (h2 z H2 e2)
theorem GatS.lot {l : LogD} {S R : List Nat} {M : Option (List Nat)} {i : Nat} {lf pf : Str → Nat} {x dx ta la pa ra : Addr} {fs : List (Str × V)} {B F F1 : Hp} (g : GatS l S R M i lf pf CC x dx ta la pa ra fs B F F1) (n1 : ta ≠ la) (n2 : la ≠ pa) (lf' : Str → Nat) : GatS l S R M i lf' pf CC x dx ta la pa ra fs B F (upd F1 la (.dK (dD l.names lf'))) := by
  obtain ⟨tv, t1, t2⟩ := g.ft
  obtain ⟨ad, r1, r2, r3⟩ := g.fr
  refine ⟨?_, ⟨tv, ?_, t2⟩, upd_same, ?_, ⟨ad, ?_, r2, fun r hr => ?_⟩, g.ux, g.ut, g.ul, g.up, g.ur⟩
  · rw [upd_ne (ne_of g.fx g.fl (fun z => nomatch z))]
    exact g.fx
  · rw [upd_ne n1]
    exact t1
  · rw [upd_ne (Ne.symm n2)]
    exact g.fp
  · rw [upd_ne (ne_of r1 g.fl (fun z => nomatch z))]
    exact r1
  · obtain ⟨a1, a2, a3⟩ := r3 r hr
    rw [upd_ne (ne_of a1 g.fl (fun z => nomatch z))]
    exact ⟨a1, a2, a3⟩
theorem GatS.part {l : LogD} {S R : List Nat} {M : Option (List Nat)} {i : Nat} {lf pf : Str → Nat} {x dx ta la pa ra : Addr} {fs : List (Str × V)} {B F F1 : Hp} (g : GatS l S R M i lf pf CC x dx ta la pa ra fs B F F1) (n1 : ta ≠ pa) (n2 : la ≠ pa) (pf' : Str → Nat) : GatS l S R M i lf pf' CC x dx ta la pa ra fs B F (upd F1 pa (.dK (dD l.names pf'))) := by
  obtain ⟨tv, t1, t2⟩ := g.ft
  obtain ⟨ad, r1, r2, r3⟩ := g.fr
  refine ⟨?_, ⟨tv, ?_, t2⟩, ?_, upd_same, ⟨ad, ?_, r2, fun r hr => ?_⟩, g.ux, g.ut, g.ul, g.up, g.ur⟩
  · rw [upd_ne (ne_of g.fx g.fp (fun z => nomatch z))]
    exact g.fx
  · rw [upd_ne n1]
    exact t1
  · rw [upd_ne n2]
    exact g.fl
  · rw [upd_ne (ne_of r1 g.fp (fun z => nomatch z))]
    exact r1
  · obtain ⟨a1, a2, a3⟩ := r3 r hr
    rw [upd_ne (ne_of a1 g.fp (fun z => nomatch z))]
    exact ⟨a1, a2, a3⟩
abbrev s_Case__gather : Stmt := inClass (topS 31) 1
theorem sc_Case__gather : FnScope ["self", "log", "struck", "resets", "moves", "lots", "judge", "parts", "rows", "place", "event", "key"] ["self", "log", "struck", "resets", "moves"] (defScope s_Case__gather) := ⟨rfl, rfl, rfl, by decide +kernel, rfl, by decide +kernel, by decide +kernel⟩
abbrev n_Case__gather : List Str := ["self", "log", "struck", "resets", "moves", "lots", "judge", "parts", "rows", "place", "event", "key"]
abbrev M_gather (P : Program) (w : World) (K : PySem.W.Frag) (mg : Str → Option Value) (base : Heap) (CL CC : Addr) : Prop := Me P w K mg base 3 CC "_gather" ["self", "log", "struck", "resets", "moves"] (spGather CL CC)
theorem w_gather (Z : Bz K mg CL CC) (D : Dm K CC "_gather" "Case._gather" s_Case__gather) (p_Log_events : P_events P w K mg base CL) : M_gather P w K mg base CL CC :=
  me_mkS (k := 2) D sc_Case__gather (fun vs H Q E ⟨l, S, R, M, G, B, x, dx, ta, vl, vs', vr, vm, vi, vg, vd, lv, e, _⟩ => by rw [e]; rfl) (bnd5 fun _ _ _ _ _ _ _ _ _ _ _ => rfl) fun f cdv A outer s H1 vs Q X hr h => by
    have sc := sc_Case__gather
    have hu := hu_of hr
    obtain ⟨l, S, R, M, G, B, x, dx, ta, vl, vs', vr, vm, vi, vg, vd, lv, rfl, hl, eGB, eB, rl, rs, rr, rm, rd, nx, nt, hx, ht, q⟩ := h
    have hf := hl.few
    have hnm := hl.names.hi
    obtain ⟨dd, dvs, rfl, hdd, hdx⟩ := rd
    have hkeys : (((l.judges.map kDr).map Prod.fst).zip dvs).map Prod.fst = l.names.map fun j => (.inr j : Key) := by
      rw [zip_fst (by rw [hdx.length, List.length_map, List.length_map, List.length_map, List.length_map])]
      show _ = (l.judges.map Prod.fst).map _
      rw [List.map_map, List.map_map]
      rfl
    have eG1 := eGB.trans eB
    have nxG := eGB.back nx
    have ntG := eGB.back nt
    have hnl : l.names.Nodup := hl.names.nd
    refine ⟨_, (pss_cons (ps_lock (ps_setDc (i := 5) (own := [("judge", 6)]) (g := (gName 6)) (tt := tYes) rfl sc.nd rfl rfl (sw_trueD rfl rfl rfl (by decide +kernel)) (pi_keys (peFld K (pv 0) rfl)) (blkOk_by (N := n_Case__gather) (sc := defScope s_Case__gather) (by decide +kernel)) (fun _ _ _ _ _ => (pg_name (i := 6) sc.nd rfl (by first | exact Or.inl rfl | exact Or.inr rfl))) (fun _ _ _ _ _ => pts_nil) (fun _ _ _ _ _ => (pv 6)) (fun _ _ _ _ _ => pe_int)))
    (pss_cons (ps_lock (ps_setDc (i := 7) (own := [("judge", 6)]) (g := (gName 6)) (tt := tYes) rfl sc.nd rfl rfl (sw_trueD rfl rfl rfl (by decide +kernel)) (pi_keys (peFld K (pv 0) rfl)) (blkOk_by (N := n_Case__gather) (sc := defScope s_Case__gather) (by decide +kernel)) (fun _ _ _ _ _ => (pg_name (i := 6) sc.nd rfl (by first | exact Or.inl rfl | exact Or.inr rfl))) (fun _ _ _ _ _ => pts_nil) (fun _ _ _ _ _ => (pv 6)) (fun _ _ _ _ _ => pe_int)))
    (pss_cons (ps_set (i := 8) sc.nd rfl (Or.inl rfl) pe_dnewT)
    (pss_cons (ps_for PassesOwn.never rfl (piEnum K (by rfl) Z.enumerate (pa_cons (pe_pp p_Log_events Z.c_Log hr (by decide) (pv 1) rfl) pa_nil)) (pgTup K rfl (pgs_cons (pg_name (i := 9) sc.nd rfl (by first | exact Or.inl rfl | exact Or.inr rfl)) (pgs_cons (pg_name (i := 10) sc.nd rfl (by first | exact Or.inl rfl | exact Or.inr rfl)) pgs_nil))) (pss_cons (ps_set (i := 6) sc.nd rfl (Or.inl rfl) (pe_ix (ixT K) (pv 10) pe_int (fun _ _ => rfl)))
    (pss_cons (ps_if (PW.pt (pw_or (pt_cmpR op_eq (pe_ix (ixT K) (pv 10) pe_int (fun _ _ => rfl)) (pe_gs rfl Z.RESET) (nomark _)) (pw_or1 (pt_cmpR (opIn K) (pv 9) (pv 3) (by rfl))))) (pss_one (ps_daug hu (pv 5) (pv 6) pe_int in_add (fun _ _ _ => rfl))) pss_nil)
    (pss_cons (ps_if (PW.pt (pw_or (pt_cmpR op_isN (pv 4) pe_non (nomark _)) (pw_or1 (pt_cmpR (opIn K) (pv 9) (pv 4) (by rfl))))) (pss_one (ps_daug hu (pv 7) (pv 6) pe_int in_add (fun _ _ _ => rfl))) pss_nil)
    (pss_one (ps_if (PW.pt (pw_and (pt_cmpR op_ne (pe_ix (ixT K) (pv 10) pe_int (fun _ _ => rfl)) (pe_gs rfl Z.RESET) (nomark _)) (pw_and1 (pt_cmpR (opNin K) (pv 9) (pv 2) (by rfl))))) (pss_cons (ps_set (i := 11) sc.nd rfl (Or.inl rfl) (pe_tup (pa_cons (pv 6) (pa_cons (pe_dget hu (pv 5) (pv 6) (fun _ _ => rfl)) pa_nil))))
    (pss_cons (ps_dput hu (peFld K (pv 0) rfl) (pv 9) (pe_tup (pa_cons (pv 6) (pa_cons (pe_ix (ixT K) (pv 10) pe_int (fun _ _ => rfl)) (pa_cons (pe_ix (ixT K) (pv 10) pe_int (fun _ _ => rfl)) (pa_cons (pv 11) (pa_cons (pe_dget hu (pv 7) (pv 6) (fun _ _ => rfl)) pa_nil)))))) rfl)
    (pss_one (ps_expr (pe_bm PySem.F.plainAttrs_list PySem.F.slot_list_append PySem.F.type_list_append mt_append (pe_dsetdT hu (pv 8) (pv 11) (pe_lst pa_nil) (by exact ⟨rfl, rfl, rfl, rfl⟩)) (pa_cons (pv 9) pa_nil)))))) pss_nil))))))
    (pss_one (ps_fld (pv 0) (pe_callTy (call_list_vals hr.hd) (by rfl) Z.list (by decide +kernel) (pa_cons (pe_bm0 PySem.F.plainAttrs_dict PySem.F.slot_dict_values PySem.F.type_dict_values mt_valsT (pv 8)) pa_nil)) rfl)))))), ?_⟩
    generalize hfs : [(Str.ofString "_items", vi), (Str.ofString "_grades", vg), (Str.ofString "_drifts", V.ref dd), (Str.ofString "_told", V.ref ta), (Str.ofString "_lots", lv)] = fs at hx
    have eX : Ex (upd G x (.ins CC dx fs)) H1 := eG1.put hx
    have hddx : (upd G x (.ins CC dx fs)) dd = some (.dK (((l.judges.map kDr).map Prod.fst).zip dvs)) := by
      rw [upd_ne (ne_of_none hdd nxG)]
      exact hdd
    have hxd : x ≠ dd := Ne.symm (ne_of_none hdd nxG)
    have hfld : ∀ (σ : L2.St), σ[0]? = some (some (.ref x)) → ∀ od, Ev (tFld K (tVar 0) "_drifts") σ (frzD (upd G x (.ins CC dx fs)) dd od (((l.judges.map kDr).map Prod.fst).zip dvs)) (pV (.ref dd)) := fun σ hσ od H1 e Q q =>
      ⟨.ref x, hσ, x, CC, dx, fs, .ref dd, rfl, e _ _ ((frz_ne hxd).trans upd_same), Z.c_Case, Z.c_drifts, by rw [← hfs]; rfl, q.val (Sep.refl e)⟩
    refine q_lockO eX (eo_lock hddx fun od => eo_dc (ei_keys (as := l.names) (key := fun j => .inr j) (hfld _ rfl od) hkeys) hnl (by omega) fun x v G hx eG ru => ⟨_, bnd_name, rfl, ev_var ru⟩) fun la A1 e1 nl gl => ?_
    refine q_lockO (eX.trans e1) (eo_lock hddx fun od => eo_dc (ei_keys (as := l.names) (key := fun j => .inr j) (hfld _ rfl od) hkeys) hnl (by omega) fun x v G hx eG ru => ⟨_, bnd_name, rfl, ev_var ru⟩) fun pa A2 e2 np gp => ?_
    refine fun ra hra => ?_
    have e12 := e1.trans e2
    have n1 : ta ≠ la := ne_of_none ht nl
    have n2 : ta ≠ pa := ne_of_none (e1 _ _ ht) np
    have n3 : la ≠ pa := ne_of_none gl np
    have nlB := eB.back nl
    have npB := eB.back (e1.back np)
    have nrB := eB.back (e12.back hra)
    have eGA : Ex G (upd A2 ra (.dT [])) := (eG1.trans e12).mut (eGB.back nrB)
    have eBA : Ex B (upd A2 ra (.dT [])) := (eB.trans e12).mut nrB
    have hz0 : rowsOf (l.toldTo S R M 0) = [] := rfl
    have g0 : GatS l S R M 0 (fun j => l.lotC R j 0) (fun j => l.partC M j 0) CC x dx ta la pa ra fs B G (upd A2 ra (.dT [])) := by
      refine ⟨?_, ⟨[], ?_, True.intro⟩, ?_, ?_, ⟨fun _ => 0, upd_same, fun r hr => absurd hr (by rw [hz0]; exact List.not_mem_nil), fun r hr => absurd hr (by rw [hz0]; exact List.not_mem_nil)⟩, nxG, ntG, eGB.back nlB, eGB.back npB, eGB.back nrB⟩
      · rw [upd_ne (ne_of_none (e12 _ _ hx) hra)]
        exact e12 _ _ hx
      · rw [upd_ne (ne_of_none (e12 _ _ ht) hra)]
        exact e12 _ _ ht
      · rw [upd_ne (ne_of_none (e2 _ _ gl) hra)]
        exact e2 _ _ gl
      · rw [upd_ne (ne_of_none gp hra)]
        exact gp
    have hep : Ev (tProp CL (spN (fun l : LogD => [pLog CL l]) (fun _ => True) fun l => pL (l.events.map pEv)) [] E0 (tVar 1)) [some (.ref x), some vl, some vs', some vr, some vm, some (.ref la), none, some (.ref pa), some (.ref ra), none, none, none] G (pL (l.events.map pEv)) := ev_prop l (ev_var rl) log_prop rfl True.intro
    have hen := ei_enum (K := K) (ea_one hep)
    rw [enum_range] at hen
    refine q_for eGA hen (fun i σ F F1 => Sep G B F F1 ∧ (∃ a b c d, σ = [some (.ref x), some vl, some vs', some vr, some vm, some (.ref la), a, some (.ref pa), some (.ref ra), b, c, d]) ∧ GatS l S R M i (fun j => l.lotC R j i) (fun j => l.partC M j i) CC x dx ta la pa ra fs B F F1)
      (fun H' H2 s => ⟨s.sub eBA, ⟨_, _, _, _, rfl⟩, g0.keep s⟩) ?_ ?_
    · rintro i p u σ' F F1 F' F2 hpi ⟨sF, ⟨a, b, c, d, rfl⟩, hG⟩ eF s2 rp
      obtain ⟨i', hi', rfl⟩ := map_get hpi
      obtain ⟨hil, eii⟩ := List.getElem?_eq_some_iff.mp hi'
      rw [List.length_range] at hil
      rw [List.getElem_range] at eii
      subst eii
      obtain ⟨x9, ve, r9, re, hb⟩ := bnd_pair (K := K) (i := 9) (j := 10) rp
      have r9 : x9 = .int (i : Int) := r9
      subst r9
      refine hb F2 s2.b _ ?_
      have g2 := hG.keep s2
      have sF2 := sF.trans s2
      have hjn := evJ_name hl hil
      have hF1 := (ev_first (K := K) (σ := [some (.ref x), some vl, some vs', some vr, some vm, some (.ref la), a, some (.ref pa), some (.ref ra), some (.int (i : Int)), some ve, d]) hil (ev_var (i := 10) re)).2
      refine q_asgV (v := .str (l.evJ i)) s2.b hF1 fun A3 e3 e4 => ?_
      have g3 := g2.ext e4 s2.b
      have sF3 := sF2.ext e4
      have rsF := (pNs S).mono (sF2.a) rs
      have rrF := (pNs R).mono (sF2.a) rr
      have rmF := (pON M).mono (sF2.a) rm
      have hff := fun (σ : L2.St) (hσ : σ[10]? = some (some ve)) => ev_first (K := K) (σ := σ) hil (ev_var (i := 10) re hσ)
      refine q_ifJ (P := fun A => Ex F' A ∧ Sep G B F' A ∧ GatS l S R M i (fun j => l.lotC R j (i + 1)) (fun j => l.partC M j i) CC x dx ta la pa ra fs B F' A) (b := rRes l R i) e3
        (et_or ((et_test (ev_eq (hff _ rfl).1 ev_c (by cases l.isRes i <;> rfl))).eq (by cases l.isRes i <;> rfl)) fun _ => et_test (ev_inN (ev_var (R := pN i) rfl) (ev_var rrF)))
        (fun z A4 e5 D' hD' => ?_) (fun z A4 e5 => ?_) fun A5 ⟨eA5, sA5, gA5⟩ => ?_
      · have g4 := g3.ext e5 e3
        refine s_daugR (d := la) (k := .inr (l.evJ i)) (n := (l.lotC R (l.evJ i) i : Int)) (m := 1) (e3.trans e5) (ev_var rfl) (ev_var rfl) ev_c g4.fl (valV_dD hjn) (by
          rw [List.length_map]
          omega) fun A5 e6 => hD' _ ?_
        have g5 := g4.ext e6 (e3.trans e5)
        have hput : putK (dD l.names fun j => l.lotC R j i) (.inr (l.evJ i)) (.int ((l.lotC R (l.evJ i) i : Int) + 1)) = dD l.names fun j => l.lotC R j (i + 1) := by
          have h1 : ((l.lotC R (l.evJ i) i : Int) + 1) = ((l.lotC R (l.evJ i) i + 1 : Nat) : Int) := by omega
          rw [h1, putK_dD hjn, lot_next, if_pos z]
        rw [hput]
        exact ⟨((e3.trans e5).trans e6).mut g5.ul, ((sF3.ext e5).ext e6).mut nlB g5.ul, g5.lot n1 n3 _⟩
      · have g4 := g3.ext e5 e3
        refine ⟨e3.trans e5, sF3.ext e5, ?_⟩
        have h1 : (fun j => l.lotC R j (i + 1)) = fun j => l.lotC R j i := by rw [lot_next, if_neg (by rw [z]; decide)]
        rw [h1]
        exact g4
      · refine q_ifJ (P := fun A => Ex F' A ∧ Sep G B F' A ∧ GatS l S R M i (fun j => l.lotC R j (i + 1)) (fun j => l.partC M j (i + 1)) CC x dx ta la pa ra fs B F' A) (b := LogD.movesAt M i) eA5 ?_
          (fun z A6 e5 D' hD' => ?_) (fun z A6 e5 => ?_) fun A7 ⟨eA7, sA7, gA7⟩ => ?_
        · cases M with
          | none =>
            refine et_or (a := true) (b := true) (et_test (ev_isN (ev_var rmF) fun H' v _ hv => ?_)) fun z => nomatch z
            have hv : v = .non := hv
            subst hv
            rfl
          | some m =>
            have rmF : (pNs m).p F' vm := rmF
            have h1 := et_or (a := false) (b := decide (i ∈ m)) (et_test (ev_isN (b := false) (ev_var (i := 4) (σ := [some (.ref x), some vl, some vs', some vr, some vm, some (.ref la), some (.str (l.evJ i)), some (.ref pa), some (.ref ra), some (.int (i : Int)), some ve, d]) rmF) fun H' v _ hv => ?_)) fun _ => et_test (ev_inN (K := K) (ev_var (i := 9) (R := pN i) rfl) (ev_var (i := 4) rmF))
            · exact h1
            · obtain ⟨_, _, hv, _⟩ := hv
              subst hv
              rfl
        · have g4 := gA5.ext e5 eA5
          refine s_daugR (d := pa) (k := .inr (l.evJ i)) (n := (l.partC M (l.evJ i) i : Int)) (m := 1) (eA5.trans e5) (ev_var rfl) (ev_var rfl) ev_c g4.fp (valV_dD hjn) (by
            rw [List.length_map]
            omega) fun A5 e6 => hD' _ ?_
          have g5 := g4.ext e6 (eA5.trans e5)
          have hput : putK (dD l.names fun j => l.partC M j i) (.inr (l.evJ i)) (.int ((l.partC M (l.evJ i) i : Int) + 1)) = dD l.names fun j => l.partC M j (i + 1) := by
            have h1 : ((l.partC M (l.evJ i) i : Int) + 1) = ((l.partC M (l.evJ i) i + 1 : Nat) : Int) := by omega
            rw [h1, putK_dD hjn, part_next, if_pos z]
          rw [hput]
          exact ⟨((eA5.trans e5).trans e6).mut g5.up, ((sA5.ext e5).ext e6).mut npB g5.up, g5.part n2 n3 _⟩
        · have g4 := gA5.ext e5 eA5
          refine ⟨eA5.trans e5, sA5.ext e5, ?_⟩
          have h1 : (fun j => l.partC M j (i + 1)) = fun j => l.partC M j i := by rw [part_next, if_neg (by rw [z]; decide)]
          rw [h1]
          exact g4
        · refine s_if (b := !l.isRes i && !decide (i ∈ S)) eA7 (et_and ((et_test (ev_ne (hff _ rfl).1 ev_c (by cases l.isRes i <;> rfl))).eq (by cases l.isRes i <;> rfl)) fun _ => et_test (ev_ninN (ev_var (R := pN i) rfl) (ev_var rsF))) (fun z A8 e8 => ?_) fun z A8 e8 => ?_
          · rw [Bool.and_eq_true] at z
            have hnr : l.isRes i = false := by simpa using z.1
            have hnS : i ∉ S := by simpa using z.2
            have hia : l.isAns i = true := by
              have he : l.events[i]? = some l.events[i] := List.getElem?_eq_getElem hil
              cases hev : l.events[i] with
              | res j =>
                rw [hev] at he
                rw [(isRes_res he).1] at hnr
                cases hnr
              | ans j it g =>
                rw [hev] at he
                exact (isRes_ans he).2.1
            have g8 := gA7.ext e8 eA7
            have eA8 := eA7.trans e8
            refine ⟨.str (l.evJ i), rfl, .ref la, rfl, .str (l.evJ i), rfl, la, .int (l.lotC R (l.evJ i) (i + 1) : Int), rfl, .inl ⟨_, .inr (l.evJ i), .inl g8.fl, rfl, (valV_dD (d := fun j => l.lotC R j (i + 1)) hjn).symm⟩, Nat.le_trans (show 2 ≤ 100 by decide) (by decide), fun tk htk => ?_⟩
            have s9 := Sep.new (H := F') (o := .tup [.str (l.evJ i), .int (l.lotC R (l.evJ i) (i + 1) : Int)]) eA8 htk
            have g9 := g8.keep s9
            have hth := fun (σ : L2.St) (hσ : σ[10]? = some (some ve)) => ev_third (K := K) (σ := σ) hia (ev_var (i := 10) ((pEv _).mono s9.a re) hσ)
            refine ⟨.str (l.evJ i), rfl, ?_⟩
            refine (hth _ rfl).1 _ s9.b _ fun v2 K2 A10 t2 r2 => ?_
            refine ((hth _ rfl).2) A10 (s9.b.trans t2.c) _ fun v3 K3 A11 t3 r3 => ?_
            have r2 : v2 = .str (l.itemAt i) := r2
            have r3 : v3 = .int (l.gradeAt i : Int) := r3
            subst r2 r3
            have e11 := t2.c.trans t3.c
            have g11 := g9.ext e11 s9.b
            refine ⟨.ref tk, rfl, .ref pa, rfl, .str (l.evJ i), rfl, pa, .int (l.partC M (l.evJ i) (i + 1) : Int), rfl, .inl ⟨_, .inr (l.evJ i), .inl g11.fp, rfl, (valV_dD (d := fun j => l.partC M j (i + 1)) hjn).symm⟩, Nat.le_trans (show 5 ≤ 100 by decide) (by decide), fun tp htp => ?_⟩
            have s13 := Sep.new (H := upd F' tk (.tup [.str (l.evJ i), .int (l.lotC R (l.evJ i) (i + 1) : Int)])) (o := .tup [.str (l.evJ i), .str (l.itemAt i), .int (l.gradeAt i : Int), .ref tk, .int (l.partC M (l.evJ i) (i + 1) : Int)]) (s9.b.trans e11) htp
            have g13 := g11.keep s13
            have sN : Sep F' A8 _ _ := (s9.ext e11).trans s13
            have sG13 : Sep G B _ _ := (sA7.ext e8).trans sN
            generalize hF13 : upd (upd F' tk (.tup [.str (l.evJ i), .int (l.lotC R (l.evJ i) (i + 1) : Int)])) tp (.tup [.str (l.evJ i), .str (l.itemAt i), .int (l.gradeAt i : Int), .ref tk, .int (l.partC M (l.evJ i) (i + 1) : Int)]) = F13 at s13 g13 sN sG13
            have hk13 : F13 tk = some (.tup [.str (l.evJ i), .int (l.lotC R (l.evJ i) (i + 1) : Int)]) := s13.a _ _ upd_same
            have hp13 : F13 tp = some (.tup [.str (l.evJ i), .str (l.itemAt i), .int (l.gradeAt i : Int), .ref tk, .int (l.partC M (l.evJ i) (i + 1) : Int)]) := by rw [← hF13]; exact upd_same
            have hpT : (pTld (l.tldAt R M i)).p F13 (.ref tp) := ⟨tp, _, rfl, hp13, rfl, rfl, rfl, ⟨tk, _, rfl, hk13, rfl, rfl, True.intro⟩, rfl, True.intro⟩
            generalize upd A11 tp (.tup [.str (l.evJ i), .str (l.itemAt i), .int (l.gradeAt i : Int), .ref tk, .int (l.partC M (l.evJ i) (i + 1) : Int)]) = A13 at s13 g13 sN sG13
            obtain ⟨tv, ft1, ft2⟩ := g13.ft
            obtain ⟨ad, fr1, fr2, fr3⟩ := g13.fr
            have htl := toldTo_len l S R M i
            have hrl := rowsOf_le (l.toldTo S R M i)
            have htvl := ft2.length
            rw [List.length_map] at htvl
            refine ⟨.ref x, rfl, x, CC, dx, fs, .ref ta, rfl, g13.fx, Z.c_Case, Z.c_told, by rw [← hfs]; rfl, .int (i : Int), rfl, ta, _, rfl, DPut.k (k := .inl (i : Int)) ft1 ?_, ?_⟩
            · rw [List.length_zip, List.length_map, htvl, Nat.min_self]
              exact Nat.lt_of_lt_of_le (show (l.toldTo S R M i).length < 1000 by omega) (by decide)
            have hnew : valV (((l.toldTo S R M i).map kIn).zip tv) (.inl (i : Int)) = none := valV_no (by
              rw [zip_fst (by rw [List.length_map, htvl])]
              intro hm
              obtain ⟨t, ht2, et⟩ := List.mem_map.mp hm
              have et : (t.1 : Int) = (i : Int) := by injection et
              have h1 : t.1 ∈ (l.toldTo S R M i).map Prod.fst := List.mem_map.mpr ⟨t, ht2, rfl⟩
              rw [toldTo_keys] at h1
              have := List.mem_range.mp (List.mem_filter.mp h1).1
              omega)
            rw [putK_new _ hnew]
            have htd : (l.toldTo S R M (i + 1)) = l.toldTo S R M i ++ [(i, l.tldAt R M i)] := by rw [toldTo_succ, if_pos ⟨hia, hnS⟩]
            have hrd : rowsOf (l.toldTo S R M (i + 1)) = addRow (rowsOf (l.toldTo S R M i)) (l.evJ i, l.lotC R (l.evJ i) (i + 1)) i := by
              rw [htd, rowsOf_snoc]
              rfl
            have hzip : ((l.toldTo S R M i).map kIn).zip tv ++ [((.inl (i : Int) : Key), V.ref tp)] = ((l.toldTo S R M (i + 1)).map kIn).zip (tv ++ [.ref tp]) := by
              rw [htd, List.map_append, List.zip_append (by rw [List.length_map, htvl])]
              rfl
            have htv : All2 F13 (tv ++ [.ref tp]) ((l.toldTo S R M (i + 1)).map fun t => pTld t.2) := by
              rw [htd, List.map_append]
              exact ft2.snoc hpT
            rw [hzip]
            -- the row
            have kx := g13.fx
            have nra : ra ≠ ta := ne_of fr1 ft1 (fun z => nomatch z)
            have ntk : tk ≠ ta := ne_of (s13.b _ _ hk13) ft1 (fun z => nomatch z)
            have fr0 : upd A13 ta (.dK (((l.toldTo S R M (i + 1)).map kIn).zip (tv ++ [.ref tp]))) ra = some (.dT (rowsD (rowsOf (l.toldTo S R M i)) ad)) := (upd_ne nra).trans fr1
            refine ⟨.ref ra, rfl, ra, rfl, .inr ⟨_, Rd.of fr0⟩, .ref tk, rfl, Nat.zero_le _, fun pn hpn => ⟨rowsD (rowsOf (l.toldTo S R M i)) ad, keyT (l.evJ i, l.lotC R (l.evJ i) (i + 1)), tk, ?_, rfl, ?_, ?_, fun v' hv' => ?_, fun hn' => ?_⟩⟩
            · rw [upd_ne (ne_of_none ((upd_ne nra).trans fr1) hpn)]
              exact (upd_ne nra).trans fr1
            · rw [upd_ne (ne_of_none ((upd_ne ntk).trans (s13.b _ _ hk13)) hpn)]
              exact (upd_ne ntk).trans (s13.b _ _ hk13)
            · rw [List.length_map]
              exact Nat.lt_of_lt_of_le (show (rowsOf (l.toldTo S R M i)).length < 1000 by omega) (by decide)
            · by_cases hkm : (l.evJ i, l.lotC R (l.evJ i) (i + 1)) ∈ (rowsOf (l.toldTo S R M i)).map Prod.fst
              · rw [valV_rows hkm] at hv'
                have hv' := Option.some.inj hv'
                subst hv'
                obtain ⟨r0, hr0, hr0k⟩ := List.mem_map.mp hkm
                obtain ⟨b1, b2, b3⟩ := fr3 r0 hr0
                rw [hr0k] at b1 b2 b3
                have c1 : ad (l.evJ i, l.lotC R (l.evJ i) (i + 1)) ≠ ta := ne_of b1 ft1 (fun z => nomatch z)
                have c2 : upd (upd A13 ta (.dK (((l.toldTo S R M (i + 1)).map kIn).zip (tv ++ [.ref tp])))) pn (.lst []) (ad (l.evJ i, l.lotC R (l.evJ i) (i + 1))) = some (.lst (r0.2.map fun n : Nat => V.int (n : Int))) := by
                  rw [upd_ne (ne_of_none ((upd_ne c1).trans b1) hpn)]
                  exact (upd_ne c1).trans b1
                have hr0l : r0.2.length < 1000 := by
                  have h1 := rowsOf_len (l.toldTo S R M i)
                  obtain ⟨p1, p2, pe⟩ := List.append_of_mem hr0
                  rw [pe, List.flatMap_append, List.flatMap_cons, List.length_append, List.length_append] at h1
                  omega
                refine ⟨.inl ⟨rfl, _, SqL.of c2⟩, .int (i : Int), rfl, _, _, .int (i : Int), rfl, rfl, c2, Nat.lt_of_lt_of_le (by rw [List.length_map]; exact hr0l) (by decide), ?_⟩
                have hfin : ∀ b o, A13 b = some o → b ≠ ta → b ≠ ad (l.evJ i, l.lotC R (l.evJ i) (i + 1)) → upd (upd (upd A13 ta (.dK (((l.toldTo S R M (i + 1)).map kIn).zip (tv ++ [.ref tp])))) pn (.lst [])) (ad (l.evJ i, l.lotC R (l.evJ i) (i + 1))) (.lst ((r0.2.map fun n : Nat => V.int (n : Int)) ++ [.int (i : Int)])) b = some o := fun b o h1 h2 h3 => by
                  rw [upd_ne h3, upd_ne (ne_of_none ((upd_ne h2).trans h1) hpn), upd_ne h2]
                  exact h1
                have eT : Ex F13 (upd A13 ta (.dK (((l.toldTo S R M (i + 1)).map kIn).zip (tv ++ [.ref tp])))) := s13.b.mut g13.ut
                have hadd : rowsOf (l.toldTo S R M (i + 1)) = (rowsOf (l.toldTo S R M i)).map fun r => if r.1 = (l.evJ i, l.lotC R (l.evJ i) (i + 1)) then (r.1, r.2 ++ [i]) else r := by
                  rw [hrd]
                  unfold addRow
                  rw [if_pos hkm]
                have hkeep : ∀ r : (Str × Nat) × List Nat, (if r.1 = (l.evJ i, l.lotC R (l.evJ i) (i + 1)) then (r.1, r.2 ++ [i]) else r).1 = r.1 := fun r => by
                  split <;> rfl
                refine ⟨F13, s2.a.trans sN.a, ?_, ?_, ⟨_, _, _, _, rfl⟩, ⟨?_, ⟨_, ?_, htv⟩, ?_, ?_, ⟨ad, ?_, ?_, ?_⟩, g13.ux, g13.ut, g13.ul, g13.up, g13.ur⟩⟩
                · exact (eT.trans (Ex.new hpn)).mut b2
                · exact ((sG13.mut nt g13.ut).ext (Ex.new hpn)).mut b3 b2
                · exact hfin _ _ g13.fx (ne_of g13.fx ft1 (fun z => nomatch z)) (ne_of g13.fx b1 (fun z => nomatch z))
                · rw [upd_ne (Ne.symm c1), upd_ne (ne_of_none upd_same hpn)]
                  exact upd_same
                · exact hfin _ _ g13.fl (Ne.symm n1) (ne_of g13.fl b1 (fun z => nomatch z))
                · exact hfin _ _ g13.fp (Ne.symm n2) (ne_of g13.fp b1 (fun z => nomatch z))
                · have h1 : rowsD (rowsOf (l.toldTo S R M (i + 1))) ad = rowsD (rowsOf (l.toldTo S R M i)) ad := by
                    rw [hadd]
                    unfold rowsD
                    rw [List.map_map]
                    refine List.map_congr_left fun r _ => ?_
                    show (keyT (if r.1 = (l.evJ i, l.lotC R (l.evJ i) (i + 1)) then (r.1, r.2 ++ [i]) else r).1, V.ref (ad (if r.1 = (l.evJ i, l.lotC R (l.evJ i) (i + 1)) then (r.1, r.2 ++ [i]) else r).1)) = _
                    rw [hkeep]
                  rw [h1]
                  exact hfin _ _ fr1 nra (ne_of fr1 b1 (fun z => nomatch z))
                · intro r hr q hq
                  rw [hadd] at hr hq
                  obtain ⟨r1, hr1, rfl⟩ := List.mem_map.mp hr
                  obtain ⟨q1, hq1, rfl⟩ := List.mem_map.mp hq
                  rw [hkeep, hkeep]
                  exact fr2 r1 hr1 q1 hq1
                · intro r hr
                  rw [hadd] at hr
                  obtain ⟨r1, hr1, rfl⟩ := List.mem_map.mp hr
                  rw [hkeep]
                  obtain ⟨d1, d2, d3⟩ := fr3 r1 hr1
                  refine ⟨?_, d2, d3⟩
                  by_cases hr1k : r1.1 = (l.evJ i, l.lotC R (l.evJ i) (i + 1))
                  · have h2 : r1.2 = r0.2 := by
                      have l1 := lookup_nd' (rowsOf_nd (l.toldTo S R M i)) hr1
                      have l2 := lookup_nd' (rowsOf_nd (l.toldTo S R M i)) hr0
                      rw [hr1k] at l1
                      rw [hr0k, l1] at l2
                      exact Option.some.inj l2
                    rw [if_pos hr1k, hr1k, upd_same, h2, List.map_append]
                    rfl
                  · rw [if_neg hr1k]
                    exact hfin _ _ d1 (ne_of d1 ft1 (fun z => nomatch z)) fun z => hr1k ((fr2 r1 hr1 r0 hr0 (by rw [hr0k]; exact z)).trans hr0k)
              · rw [valV_rowsN hkm] at hv'
                cases hv'
            · have hkm : (l.evJ i, l.lotC R (l.evJ i) (i + 1)) ∉ (rowsOf (l.toldTo S R M i)).map Prod.fst := fun hkm => by
                rw [valV_rows hkm] at hn'
                cases hn'
              have eT : Ex F13 (upd A13 ta (.dK (((l.toldTo S R M (i + 1)).map kIn).zip (tv ++ [.ref tp])))) := s13.b.mut g13.ut
              have sT : Sep G B F13 (upd A13 ta (.dK (((l.toldTo S R M (i + 1)).map kIn).zip (tv ++ [.ref tp])))) := sG13.mut nt g13.ut
              have npF : F13 pn = none := eT.back hpn
              have npB' : B pn = none := sT.c.back hpn
              have hra' : upd A13 ta (.dK (((l.toldTo S R M (i + 1)).map kIn).zip (tv ++ [.ref tp]))) ra = some (.dT (rowsD (rowsOf (l.toldTo S R M i)) ad)) := (upd_ne nra).trans fr1
              have hpr : pn ≠ ra := Ne.symm (ne_of_none hra' hpn)
              have c2 : upd (upd (upd A13 ta (.dK (((l.toldTo S R M (i + 1)).map kIn).zip (tv ++ [.ref tp])))) pn (.lst [])) ra (.dT (putK (rowsD (rowsOf (l.toldTo S R M i)) ad) (keyT (l.evJ i, l.lotC R (l.evJ i) (i + 1))) (.ref pn))) pn = some (.lst []) := by
                rw [upd_ne hpr]
                exact upd_same
              refine ⟨.inl ⟨rfl, _, SqL.of c2⟩, .int (i : Int), rfl, _, _, .int (i : Int), rfl, rfl, c2, Nat.lt_of_lt_of_le (show 0 < 1 by decide) (by decide), ?_⟩
              have hfin : ∀ b o, A13 b = some o → b ≠ ta → b ≠ ra → upd (upd (upd (upd A13 ta (.dK (((l.toldTo S R M (i + 1)).map kIn).zip (tv ++ [.ref tp])))) pn (.lst [])) ra (.dT (putK (rowsD (rowsOf (l.toldTo S R M i)) ad) (keyT (l.evJ i, l.lotC R (l.evJ i) (i + 1))) (.ref pn)))) pn (.lst ([] ++ [.int (i : Int)])) b = some o := fun b o h1 h2 h3 => by
                have h4 : b ≠ pn := ne_of_none ((upd_ne h2).trans h1) hpn
                rw [upd_ne h4, upd_ne h3, upd_ne h4, upd_ne h2]
                exact h1
              have hadd : rowsOf (l.toldTo S R M (i + 1)) = rowsOf (l.toldTo S R M i) ++ [((l.evJ i, l.lotC R (l.evJ i) (i + 1)), [i])] := by
                rw [hrd]
                unfold addRow
                rw [if_neg hkm]
              have hold : ∀ r ∈ rowsOf (l.toldTo S R M i), (if r.1 = (l.evJ i, l.lotC R (l.evJ i) (i + 1)) then pn else ad r.1) = ad r.1 := fun r hr => if_neg fun z => hkm (by rw [← z]; exact List.mem_map.mpr ⟨r, hr, rfl⟩)
              have hnew2 : ∀ r ∈ rowsOf (l.toldTo S R M i), ad r.1 ≠ pn := fun r hr => by
                obtain ⟨d1, _, _⟩ := fr3 r hr
                have : ad r.1 ≠ ta := ne_of d1 ft1 (fun z => nomatch z)
                exact ne_of_none ((upd_ne this).trans d1) hpn
              refine ⟨F13, s2.a.trans sN.a, ?_, ?_, ⟨_, _, _, _, rfl⟩, ⟨?_, ⟨_, ?_, htv⟩, ?_, ?_, ⟨fun k => if k = (l.evJ i, l.lotC R (l.evJ i) (i + 1)) then pn else ad k, ?_, ?_, ?_⟩, g13.ux, g13.ut, g13.ul, g13.up, g13.ur⟩⟩
              · exact (((eT.trans (Ex.new hpn)).mut g13.ur).mut npF)
              · exact (((sT.ext (Ex.new hpn)).mut nrB g13.ur).mut npB' npF)
              · exact hfin _ _ g13.fx (ne_of g13.fx ft1 (fun z => nomatch z)) (ne_of g13.fx fr1 (fun z => nomatch z))
              · have h4 : ta ≠ pn := ne_of_none upd_same hpn
                rw [upd_ne h4, upd_ne (Ne.symm nra), upd_ne h4]
                exact upd_same
              · exact hfin _ _ g13.fl (Ne.symm n1) (ne_of g13.fl fr1 (fun z => nomatch z))
              · exact hfin _ _ g13.fp (Ne.symm n2) (ne_of g13.fp fr1 (fun z => nomatch z))
              · have h1 : rowsD (rowsOf (l.toldTo S R M (i + 1))) (fun k => if k = (l.evJ i, l.lotC R (l.evJ i) (i + 1)) then pn else ad k) = rowsD (rowsOf (l.toldTo S R M i)) ad ++ [(keyT (l.evJ i, l.lotC R (l.evJ i) (i + 1)), .ref pn)] := by
                  rw [hadd]
                  unfold rowsD
                  rw [List.map_append]
                  congr 1
                  · refine List.map_congr_left fun r hr => ?_
                    dsimp only
                    rw [hold r hr]
                  · simp
                rw [upd_ne (Ne.symm hpr), upd_same, putK_new _ (valV_rowsN hkm), h1]
              · intro r hr q hq hrq
                rw [hadd, List.mem_append, List.mem_singleton] at hr hq
                dsimp only at hrq
                rcases hr with hr | hr
                · rw [hold r hr] at hrq
                  rcases hq with hq | hq
                  · rw [hold q hq] at hrq
                    exact fr2 r hr q hq hrq
                  · rw [hq, if_pos rfl] at hrq
                    exact absurd hrq (hnew2 r hr)
                · rcases hq with hq | hq
                  · rw [hold q hq, hr, if_pos rfl] at hrq
                    exact absurd hrq.symm (hnew2 q hq)
                  · rw [hr, hq]
              · intro r hr
                rw [hadd, List.mem_append, List.mem_singleton] at hr
                dsimp only
                rcases hr with hr | hr
                · rw [hold r hr]
                  obtain ⟨d1, d2, d3⟩ := fr3 r hr
                  exact ⟨hfin _ _ d1 (ne_of d1 ft1 (fun z => nomatch z)) (ne_of d1 fr1 (fun z => nomatch z)), d2, d3⟩
                · rw [hr, if_pos rfl]
                  exact ⟨upd_same, npF, npB'⟩
          · have g8 := gA7.ext e8 eA7
            have hno : ¬ (l.isAns i = true ∧ i ∉ S) := fun ⟨q1, q2⟩ => by
              have hnr : l.isRes i = false := by
                obtain ⟨j, it, g, he⟩ := LogD.isAns_lt q1
                exact (isRes_ans he).1
              rw [hnr, decide_eq_false q2] at z
              cases z
            have htd : (l.toldTo S R M (i + 1)) = l.toldTo S R M i := by rw [toldTo_succ, if_neg hno]
            refine ⟨F', s2.a, eA7.trans e8, sA7.ext e8, ⟨_, _, _, _, rfl⟩, ?_⟩
            obtain ⟨f1, f2, f3, f4, f5, u1, u2, u3, u4, u5⟩ := g8
            rw [← htd] at f2 f5
            exact ⟨f1, f2, f3, f4, f5, u1, u2, u3, u4, u5⟩
    · rintro σ' F F1 eF eF1 ⟨sF, ⟨a, b, c, d, rfl⟩, hG⟩
      rw [List.length_map, List.length_range] at hG
      obtain ⟨tv, ft1, ft2⟩ := hG.ft
      obtain ⟨ad, fr1, fr2, fr3⟩ := hG.fr
      have htl := toldTo_len l S R M l.events.length
      have hrl := rowsOf_le (l.toldTo S R M l.events.length)
      refine ⟨.ref ra, rfl, .inr (.inr (.inl ⟨rfl, .inr ⟨_, fr1⟩⟩)), ra, rowsD (rowsOf (l.toldTo S R M l.events.length)) ad, rfl, rfl, fr1, fun pw hpw => ⟨pw, ra, rowsD (rowsOf (l.toldTo S R M l.events.length)) ad, rfl, upd_same, ?_, fun pl hpl => ⟨.ref x, rfl, x, CC, dx, fs, rfl, ?_, Z.c_Case, Z.c_lots, ?_, ?_⟩⟩⟩
      · rw [upd_ne (ne_of_none fr1 hpw)]
        exact fr1
      · have h1 : x ≠ pw := ne_of_none hG.fx hpw
        rw [upd_ne (ne_of_none ((upd_ne h1).trans hG.fx) hpl), upd_ne h1]
        exact hG.fx
      · rw [← hfs]
        show 5 < 1000
        decide
      · have e1 : Ex F1 (upd F1 pw (valsO pw ra)) := Ex.new hpw
        have e2 : Ex F1 (upd (upd F1 pw (valsO pw ra)) pl (.lst ((rowsD (rowsOf (l.toldTo S R M l.events.length)) ad).map Prod.snd))) := e1.trans (Ex.new hpl)
        have sF2 := (sF.ext e2).mut (o := .ins CC dx (putF "_lots" (.ref pl) fs)) nx hG.ux
        have hxn : ∀ b o, F1 b = some o → (∀ C d f, o ≠ .ins C d f) → upd (upd (upd F1 pw (valsO pw ra)) pl (.lst ((rowsD (rowsOf (l.toldTo S R M l.events.length)) ad).map Prod.snd))) x (.ins CC dx (putF "_lots" (.ref pl) fs)) b = some o := fun b o h1 h2 => by
          rw [upd_ne (ne_of h1 hG.fx (h2 _ _ _))]
          exact e2 _ _ h1
        have hnd := rowsOf_nd (l.toldTo S R M l.events.length)
        obtain ⟨F', sF', eFF, hF1, hF2⟩ := own_allG (ad := ad) (o := fun k => .lst ((((rowsOf (l.toldTo S R M l.events.length)).lookup k).getD []).map fun n : Nat => V.int (n : Int))) sF2 ((rowsOf (l.toldTo S R M l.events.length)).map Prod.fst)
          (fun k1 h1 k2 h2 h3 => by
            obtain ⟨r1, hr1, rfl⟩ := List.mem_map.mp h1
            obtain ⟨r2, hr2, rfl⟩ := List.mem_map.mp h2
            exact fr2 r1 hr1 r2 hr2 h3) hnd fun k hk => by
            obtain ⟨r, hr, rfl⟩ := List.mem_map.mp hk
            obtain ⟨d1, d2, d3⟩ := fr3 r hr
            rw [lookup_nd' hnd hr]
            exact ⟨d2, d3, hxn _ _ d1 (fun _ _ _ z => nomatch z), fun ps z => nomatch z⟩
        have hplF1 : F1 pl = none := e1.back hpl
        have hplx : pl ≠ x := Ne.symm (ne_of_none hG.fx hplF1)
        have hplF : F pl = none := eF1.back hplF1
        have hplF' : F' pl = none := (hF2 pl fun k hk => by
          obtain ⟨r, hr, rfl⟩ := List.mem_map.mp hk
          exact Ne.symm (ne_of_none (fr3 r hr).1 hplF1)).trans hplF
        have nx' : ∀ b o, F1 b = some o → (∀ xs, o ≠ .lst xs) → F b = none → F' b = none := fun b o h1 h2 h3 => (hF2 b fun k hk => by
          obtain ⟨r, hr, rfl⟩ := List.mem_map.mp hk
          exact ne_of h1 (fr3 r hr).1 (h2 _)).trans h3
        have sE := sF'.own (o := .lst ((rowsD (rowsOf (l.toldTo S R M l.events.length)) ad).map Prod.snd)) (sF.c.back hplF1) hplF' (by rw [upd_ne hplx]; exact upd_same)
        have hxpl : x ≠ pl := Ne.symm hplx
        have htpl : ta ≠ pl := ne_of_none ft1 hplF1
        refine q _ _ tv (.ref pl) sE ?_ ?_ ?_ ?_ (ft2.mono (eFF.trans (Ex.new hplF'))) ⟨pl, _, rfl, upd_same, ?_⟩
        · rw [upd_ne hxpl]
          exact nx' _ _ hG.fx (fun xs z => nomatch z) hG.ux
        · rw [upd_ne htpl]
          exact nx' _ _ ft1 (fun xs z => nomatch z) hG.ut
        · rw [upd_same, ← hfs]
          rfl
        · exact hxn _ _ ft1 (fun _ _ _ z => nomatch z)
        · show All2 _ ((rowsD (rowsOf (l.toldTo S R M l.events.length)) ad).map Prod.snd) (((rowsOf (l.toldTo S R M l.events.length)).map Prod.snd).map pNs)
          have em1 : (rowsD (rowsOf (l.toldTo S R M l.events.length)) ad).map Prod.snd = (rowsOf (l.toldTo S R M l.events.length)).map (Prod.snd ∘ fun r => (keyT r.1, V.ref (ad r.1))) := List.map_map
          have em2 : ∀ Hz : Hp, All2 Hz ((rowsOf (l.toldTo S R M l.events.length)).map (Prod.snd ∘ fun r => (keyT r.1, V.ref (ad r.1)))) (((rowsOf (l.toldTo S R M l.events.length)).map (pNs ∘ Prod.snd))) → All2 Hz ((rowsD (rowsOf (l.toldTo S R M l.events.length)) ad).map Prod.snd) (((rowsOf (l.toldTo S R M l.events.length)).map Prod.snd).map pNs) := fun Hz h => by
            rw [em1, List.map_map]
            exact h
          refine em2 _ ?_
          have aux : ∀ rs : List ((Str × Nat) × List Nat), (∀ r ∈ rs, r ∈ rowsOf (l.toldTo S R M l.events.length)) → All2 (upd F' pl (.lst ((rowsD (rowsOf (l.toldTo S R M l.events.length)) ad).map Prod.snd))) (rs.map (Prod.snd ∘ fun r => (keyT r.1, V.ref (ad r.1)))) (rs.map (pNs ∘ Prod.snd)) := by
            intro rs
            induction rs with
            | nil => exact fun _ => True.intro
            | cons r rs ih =>
              intro hrs
              have hr := hrs r List.mem_cons_self
              refine ⟨⟨ad r.1, _, rfl, ?_, all2_of_pV (f := fun n : Nat => V.int (n : Int))⟩, ih fun y hy => hrs y (List.mem_cons_of_mem _ hy)⟩
              have h1 := hF1 r.1 (List.mem_map.mpr ⟨r, hr, rfl⟩)
              rw [lookup_nd' hnd hr] at h1
              rw [upd_ne (ne_of_none h1 hplF')]
              exact h1
          exact aux _ fun _ h => h
end
end Rb
set_option Elab.async false
set_option linter.all false
set_option maxRecDepth 100000
set_option maxHeartbeats 3200000
/-! Walks: Case.__init__. -/
namespace Rb
open PySem PySem.Spec PyProof.Rows L2
theorem Sep.join {G B F A H' H2 : Hp} (s : Sep G B F A) (t : Sep F B H' H2) : Sep G B H' H2 :=
  ⟨s.a.trans t.a, t.b, t.c, fun b h1 h2 => t.d b h1 (s.d b h1 h2), fun b ps h => s.e b ps (t.e b ps h)⟩
section
variable {K : PySem.W.Frag} {σ : L2.St} {H H1 : Hp} {te td ty tx : TE} {R : Pr} {tz : TS} {D : Ends} {i : Nat} {k : Key}
theorem q_fld {C x dx : Addr} {f : Str} {fs : List (Str × V)} (e : Ex H H1) (h : Ev te σ H R) (hx : H x = none) (h1 : H1 x = some (.ins C dx fs)) (hs : σ[i]? = some (some (.ref x))) (c : Cls K C) (n : NoAttr K C f) (hz : fs.length < 1000)
    (k : ∀ v H' H2, Sep H H1 H' H2 → R.p H' v → H' x = none → tz D σ (upd H2 x (.ins C dx (putF f v fs)))) : tSeq (sFld K (tVar i) te f) tz D σ H1 := h H1 e _ fun v H' H2 s r => by
  have kx := s.keep hx h1
  exact ⟨.ref x, hs, x, C, dx, fs, rfl, kx.2, c, n, hz, k v H' H2 s r kx.1⟩
theorem ev_dget20 (h : Ev td σ H (pD [])) (hk : Ev ty σ H (pV (kV k))) (hx : Ev tx σ H R) : Ev (tDGet2 td ty tx) σ H R := fun H1 e1 Q q =>
  h H1 e1 _ fun x K1 H2 s ⟨d, vs, ex, hd, hv⟩ => by
    subst ex
    have hvs : vs = [] := by
      cases vs with
      | nil => rfl
      | cons a b => exact hv.elim
    subst hvs
    refine ⟨d, rfl, .inl ⟨[], .inl (s.b _ _ hd)⟩, (hk.mono s.a) H2 s.b _ fun y K2 H3 s2 ry => ((hx.mono s.a).mono s2.a) H3 s2.b _ fun w K3 H4 s3 rw' => ?_⟩
    have ry : y = kV k := ry
    subst ry
    exact ⟨none, .inl ⟨[], k, .inl (s3.b _ _ (s3.a _ _ (s2.a _ _ hd))), rfl, rfl⟩, q _ _ _ ((s.trans s2).trans s3) rw'⟩
theorem ev_orD0 (h : Ev td σ H pNo) : Ev (tOrT K td tDNewK) σ H (pD []) := ev_orT (b := false) h (fun H' v r H1 e => by
    have r : v = .non := r
    subst r
    rfl) (fun z => nomatch z) fun _ => ev_dnew
end
section
variable {P : Program} {w : World} {K : PySem.W.Frag} {mg : Str → Option Value} {base : Heap} {CL CC : Addr}
/-- the promise of a case's making -/
def spInit (CL CC : Addr) : Sp := fun vs Hin Q _ => ∃ (l : LogD) (S R M : Option (List Nat)) (G Hc : Hp) (x dx : Addr) (vl vS vR vM : V), vs = [.ref x, vl, .non, vS, vR, vM] ∧ l.Ok ∧ (∀ p ∈ S.getD [], l.isAns p = true) ∧ (∀ p ∈ R.getD [], l.isAns p = true) ∧ (∀ p ∈ M.getD [], l.isAns p = true) ∧
  Ex G Hc ∧ Hc x = none ∧ Hc dx = none ∧ dx ≠ x ∧ Hin = upd (upd Hc dx (.own x)) x (.ins CC dx []) ∧ (pLog CL l).p G vl ∧ (pON S).p G vS ∧ (pON R).p G vR ∧ (pON M).p G vM ∧
  ∀ H' H2, Sep G Hc H' H2 → (pCase CC (mkCase l (S.getD []) (R.getD []) M)).p H' (.ref x) → Q .non H2
abbrev dI : List Str := ["self", "log", "drifts", "struck", "resets", "moves"]
abbrev s_Case___init__ : Stmt := inClass (topS 31) 0
theorem sc_Case___init__ : FnScope ["self", "log", "drifts", "struck", "resets", "moves", "places", "judge", "drift"] ["self", "log", "drifts", "struck", "resets", "moves"] (defScope s_Case___init__) := ⟨rfl, rfl, rfl, by decide +kernel, rfl, by decide +kernel, by decide +kernel⟩
abbrev n_Case___init__ : List Str := ["self", "log", "drifts", "struck", "resets", "moves", "places", "judge", "drift"]
abbrev M_init (P : Program) (w : World) (K : PySem.W.Frag) (mg : Str → Option Value) (base : Heap) (CL CC : Addr) (f : Addr) (fd : FuncData) : Prop := FnOk P w K mg base CX0 4 f fd dI (spInit CL CC)
theorem w_init {f : Addr} {fd : FuncData} {dvs : List V} {kws : List (Str × V)} (Z : Bz K mg CL CC) (F : FunD K "__init__" "Case.__init__" (defArgs s_Case___init__) (defBody s_Case___init__) (defScope s_Case___init__) dvs kws f fd)
    (p_Log_events : P_events P w K mg base CL) (p_Log_judges : P_judges P w K mg base CL) (p_Log_item_names : P_item_names P w K mg base CL) (p_Log_grades : P_grades P w K mg base CL)
    (f_check_drifts : F_check_drifts P w K mg base CL) (f_check_answers : F_check_answers P w K mg base CL) (m_Case__gather : M_gather P w K mg base CL CC) : M_init P w K mg base CL CC f fd := by
  have sc := sc_Case___init__
  refine F.ok (k := 3) sc (fun vs H Q E ⟨l, S, R, M, G, Hc, x, dx, vl, vS, vR, vM, e, _⟩ => by rw [e]; rfl) fun cdv A outer s H1 vs Q E hr h => ?_
  have hu := hu_of hr
  obtain ⟨l, S, R, M, G, Hc, x, dx, vl, vS, vR, vM, rfl, hl, aS, aR, aM, eG, nx, nd, ndx, rfl, rl, rS, rR, rM, q⟩ := h
  refine ⟨_, ((pss_cons (ps_expr (pe_fn f_check_drifts hr (by decide) (by rfl) (pa_cons (pv 1) (pa_cons (peOrT K (pv 2) (pe_one pe_dnewK)) pa_nil))))
    (pss_cons (ps_for PassesOwn.never rfl (piTup K (pe_tup (pa_cons (pv 3) (pa_cons (pv 4) (pa_cons (pv 5) pa_nil))))) (pg_name (i := 6) sc.nd rfl (by first | exact Or.inl rfl | exact Or.inr rfl)) (pss_one (ps_expr (pe_fn f_check_answers hr (by decide) (by rfl) (pa_cons (pv 1) (pa_cons (peOrT K (pv 6) (pe_one (pe_lst pa_nil))) pa_nil))))))
    (pss_cons (ps_fld (pv 0) (pe_pp p_Log_item_names Z.c_Log hr (by decide) (pv 1) rfl) rfl)
    (pss_cons (ps_fld (pv 0) (pe_pp p_Log_grades Z.c_Log hr (by decide) (pv 1) rfl) rfl)
    (pss_cons (ps_fld (pv 0) (pe_dc (own := [("judge", 7), ("drift", 8)]) (g := (gTup K 2 (gCons (gName 7) (gCons (gName 8) gNil)))) (tt := tYes) rfl sc.nd (piList K (pe_pp p_Log_judges Z.c_Log hr (by decide) (pv 1) rfl)) (blkOk_by (N := n_Case___init__) (sc := defScope s_Case___init__) (by decide +kernel)) (fun _ _ _ _ _ => (pgTup K rfl (pgs_cons (pg_name (i := 7) sc.nd rfl (by first | exact Or.inl rfl | exact Or.inr rfl)) (pgs_cons (pg_name (i := 8) sc.nd rfl (by first | exact Or.inl rfl | exact Or.inr rfl)) pgs_nil)))) (fun _ _ _ _ _ => pts_nil) (fun _ _ _ _ _ => (pv 7)) (fun _ _ _ _ _ => (pe_dget2 hu (peOrT K (pv 2) (pe_one pe_dnewK)) (pv 7) (pv 8) (by exact ⟨rfl, rfl, rfl, rfl⟩)))) rfl)
    (pss_cons (ps_fld (pv 0) pe_dnewK rfl)
    (pss_cons (ps_fld (pv 0) (pe_lst pa_nil) rfl)
    (pss_one (ps_expr (pe_me m_Case__gather Z.c_Case hr (by decide) (pv 0) (pa_cons (pv 1) (pa_cons (peOrT K (pv 3) (pe_one (pe_lst pa_nil))) (pa_cons (peOrT K (pv 4) (pe_one (pe_lst pa_nil))) (pa_cons (pv 5) pa_nil))))))))))))))).nox, ?_⟩
  have nxG := eG.back nx
  have s0 : Sep G Hc G (upd (upd Hc dx (.own x)) x (.ins CC dx [])) := (Sep.hid eG nd).ext (Ex.new (by rw [upd_ne (Ne.symm ndx)]; exact nx))
  have x0 : (upd (upd Hc dx (.own x)) x (.ins CC dx [])) x = some (.ins CC dx []) := upd_same
  generalize upd (upd Hc dx (.own x)) x (.ins CC dx []) = H1 at s0 x0
  -- the checks
  refine q_drop s0.b (ev_call l (ea_cons (ev_var rl) (ea_one (ev_orD0 (ev_var rfl)))) True.intro) fun G1 A1 s1 => ?_
  have k1 := s1.keep nxG x0
  have t1 := s0.trans s1
  refine q_for (H := G1) s1.b (ei_tup (ps := [pON S, pON R, pON M]) (ev_tup (ea_cons (ev_var ((pON S).mono s1.a rS)) (ea_cons (ev_var ((pON R).mono s1.a rR)) (ea_one (ev_var ((pON M).mono s1.a rM)))))))
    (fun i σ F F1 => Sep G Hc F F1 ∧ F x = none ∧ F1 x = some (.ins CC dx []) ∧ ∃ u, σ = [some (.ref x), some vl, some .non, some vS, some vR, some vM, u, none, none]) (fun H' H2 s => ⟨t1.trans s, (s.keep k1.1 k1.2).1, (s.keep k1.1 k1.2).2, _, rfl⟩) ?_ ?_
  · rintro i p u σ' F F1 F' F2 hpi ⟨sF, n1, x1, y, rfl⟩ eF s2 rp
    have k2 := s2.keep n1 x1
    have hO : ∃ O : Option (List Nat), p = pON O ∧ ∀ a ∈ O.getD [], l.isAns a = true := by
      match i, hpi with
      | 0, hpi => exact ⟨S, (Option.some.inj hpi).symm, aS⟩
      | 1, hpi => exact ⟨R, (Option.some.inj hpi).symm, aR⟩
      | 2, hpi => exact ⟨M, (Option.some.inj hpi).symm, aM⟩
      | n + 3, hpi => simp at hpi
    obtain ⟨O, rfl, hO⟩ := hO
    refine bnd_name F2 s2.b _ ?_
    refine s_drop s2.b (ev_call (l, O.getD []) (ea_cons (ev_var ((pLog CL l).mono (sF.a.trans s2.a) rl)) (ea_one (ev_orN (ev_var rp)))) hO) fun F3 F4 s3 => ?_
    have k3 := s3.keep k2.1 k2.2
    exact ⟨F3, s2.a.trans s3.a, s3.b, (sF.trans s2).trans s3, k3.1, k3.2, _, rfl⟩
  rintro σ' F F1 eF eF1 ⟨sF, n1, x1, y, rfl⟩
  have rl1 := (pLog CL l).mono sF.a rl
  -- the fields
  refine q_fld sF.b (ev_prop l (ev_var rl1) log_prop rfl True.intro) n1 x1 rfl Z.c_Case Z.c_items (show 0 < 1000 by decide) fun vi G2 A2 s2 ri n2 => ?_
  have t2 : Sep G Hc G2 _ := (sF.trans s2).mut (o := .ins CC dx (putF "_items" vi [])) nx n2
  refine q_fld t2.b (ev_prop l (ev_var ((pLog CL l).mono s2.a rl1)) log_prop rfl True.intro) n2 upd_same rfl Z.c_Case Z.c_grades (show 1 < 1000 by decide) fun vg G3 A3 s3 rg n3 => ?_
  have t3 : Sep G Hc G3 _ := (t2.trans s3).mut (o := .ins CC dx (putF "_grades" vg (putF "_items" vi []))) nx n3
  have rl3 := (pLog CL l).mono (s2.a.trans s3.a) rl1
  have hnl : l.names.Nodup := hl.names.nd
  refine q_fld t3.b (ev_dc (as := l.judges) (key := fun j => .inr j.1) (f := pJ) (h := fun j => pS j.2) (ei_list (ev_prop l (ev_var rl3) log_prop rfl True.intro)) ?_ ?_ ?_) n3 upd_same rfl Z.c_Case Z.c_drifts (show 2 < 1000 by decide) fun vd G4 A4 s4 rd n4 => ?_
  · have := hl.names.hi
    have h1 : l.names.length = l.judges.length := List.length_map ..
    omega
  · have h1 : l.judges.map (fun j => (.inr j.1 : Key)) = l.names.map Sum.inr := by
      show _ = (l.judges.map Prod.fst).map _
      rw [List.map_map]
      rfl
    rw [h1]
    exact List.pairwise_map.mpr (hnl.imp fun h z => h (by injection z))
  · intro j v G' hj eG' rj
    obtain ⟨a, b, ra, rb, hb⟩ := bnd_pair (K := K) (i := 7) (j := 8) rj
    exact ⟨_, hb, rfl, ev_var ra, ev_dget20 (k := .inr j.1) (ev_orD0 (ev_var rfl)) (ev_var ra) (ev_var rb)⟩
  have t4 : Sep G Hc G4 _ := (t3.trans s4).mut (o := .ins CC dx (putF "_drifts" vd (putF "_grades" vg (putF "_items" vi [])))) nx n4
  have x4 : (upd A4 x (.ins CC dx (putF "_drifts" vd (putF "_grades" vg (putF "_items" vi []))))) x = some (.ins CC dx (putF "_drifts" vd (putF "_grades" vg (putF "_items" vi [])))) := upd_same
  generalize upd A4 x (.ins CC dx (putF "_drifts" vd (putF "_grades" vg (putF "_items" vi [])))) = A4' at t4 x4
  -- _told
  refine fun ta hta => ⟨.ref x, rfl, x, CC, dx, _, rfl, (Ex.new hta) _ _ x4, Z.c_Case, Z.c_told, (show 3 < 1000 by decide), ?_⟩
  have ntG : G4 ta = none := t4.b.back hta
  have ntH : Hc ta = none := t4.c.back hta
  have hxt : ta ≠ x := Ne.symm (ne_of_none x4 hta)
  have t5 : Sep G Hc G4 (upd (upd A4' ta (.dK [])) x (.ins CC dx (putF "_told" (.ref ta) (putF "_drifts" vd (putF "_grades" vg (putF "_items" vi [])))))) := ((t4.ext (Ex.new hta))).mut nx n4
  have x5 : (upd (upd A4' ta (.dK [])) x (.ins CC dx (putF "_told" (.ref ta) (putF "_drifts" vd (putF "_grades" vg (putF "_items" vi [])))))) x = some (.ins CC dx (putF "_told" (.ref ta) (putF "_drifts" vd (putF "_grades" vg (putF "_items" vi []))))) := upd_same
  have y5 : (upd (upd A4' ta (.dK [])) x (.ins CC dx (putF "_told" (.ref ta) (putF "_drifts" vd (putF "_grades" vg (putF "_items" vi [])))))) ta = some (.dK []) := by
    rw [upd_ne hxt]
    exact upd_same
  generalize upd (upd A4' ta (.dK [])) x (.ins CC dx (putF "_told" (.ref ta) (putF "_drifts" vd (putF "_grades" vg (putF "_items" vi []))))) = A5 at t5 x5 y5
  -- _lots
  refine q_fld t5.b (ev_lst ea_nil) n4 x5 rfl Z.c_Case Z.c_lots (show 4 < 1000 by decide) fun lv G6 A6 s6 _ n6 => ?_
  have k6 := s6.keep ntG y5
  have t6 : Sep G Hc G6 _ := (t5.trans s6).mut (o := .ins CC dx (putF "_lots" lv (putF "_told" (.ref ta) (putF "_drifts" vd (putF "_grades" vg (putF "_items" vi [])))))) nx n6
  have x6 : (upd A6 x (.ins CC dx (putF "_lots" lv (putF "_told" (.ref ta) (putF "_drifts" vd (putF "_grades" vg (putF "_items" vi []))))))) x = some (.ins CC dx (putF "_lots" lv (putF "_told" (.ref ta) (putF "_drifts" vd (putF "_grades" vg (putF "_items" vi [])))))) := upd_same
  have y6 : (upd A6 x (.ins CC dx (putF "_lots" lv (putF "_told" (.ref ta) (putF "_drifts" vd (putF "_grades" vg (putF "_items" vi []))))))) ta = some (.dK []) := by
    rw [upd_ne hxt]
    exact k6.2
  generalize upd A6 x (.ins CC dx (putF "_lots" lv (putF "_told" (.ref ta) (putF "_drifts" vd (putF "_grades" vg (putF "_items" vi [])))))) = A7 at t6 x6 y6
  -- what is gathered
  have e26 := s2.a.trans (s3.a.trans (s4.a.trans s6.a))
  have eF6 := sF.a.trans e26
  refine ⟨.ref x, rfl, x, dx, _, rfl, x6, rfl, ?_⟩
  refine (ea_cons (ev_var ((pLog CL l).mono eF6 rl)) (ea_cons (ev_orN (ev_var ((pON S).mono eF6 rS))) (ea_cons (ev_orN (ev_var ((pON R).mono eF6 rR))) (ea_one (ev_var ((pON M).mono eF6 rM)))))) A7 t6.b _ fun vs G8 A8 s8 r8 => ?_
  obtain ⟨v1, v2, v3, v4, rfl, r1, r2, r3, r4⟩ := all4 r8
  have k8 := s8.keep n6 x6
  have k8' := s8.keep k6.1 y6
  have t8 := t6.trans s8
  have eB : Ex (fun b => if b = x ∨ b = ta then none else A8 b) A8 := fun b o h => by
    dsimp only at h
    split at h
    · cases h
    · exact h
  have eH : Ex Hc (fun b => if b = x ∨ b = ta then none else A8 b) := fun b o h => by
    have h1 : b ≠ x := ne_of_none h nx
    have h2 : b ≠ ta := ne_of_none h ntH
    show (if b = x ∨ b = ta then none else A8 b) = _
    rw [if_neg (fun z => z.elim h1 h2)]
    exact t8.c _ _ h
  have eGB : Ex G8 (fun b => if b = x ∨ b = ta then none else A8 b) := fun b o h => by
    have h1 : b ≠ x := ne_of_none h k8.1
    have h2 : b ≠ ta := ne_of_none h k8'.1
    show (if b = x ∨ b = ta then none else A8 b) = _
    rw [if_neg (fun z => z.elim h1 h2)]
    exact t8.b _ _ h
  refine ⟨l, S.getD [], R.getD [], M, G8, _, x, dx, ta, v1, v2, v3, v4, vi, vg, vd, lv, rfl, hl, eGB, eB, r1, r2, r3, r4, (pD (l.judges.map kDr)).mono (s6.a.trans s8.a) rd, if_pos (.inl rfl), if_pos (.inr rfl), k8.2, k8'.2, ?_⟩
  intro H' H2 tv ll sg nx' nt' gx gt ht hll
  have sJ := t8.join (sg.sub eH)
  have sO := sJ.own ntH nt' gt
  have nx2 : (upd H' ta (.dK (((mkCase l (S.getD []) (R.getD []) M).told.map kIn).zip tv))) x = none := by
    rw [upd_ne (Ne.symm hxt)]
    exact nx'
  have sX := sO.own nx nx2 gx
  have eT : Ex H' (upd H' ta (.dK (((mkCase l (S.getD []) (R.getD []) M).told.map kIn).zip tv))) := Ex.new nt'
  have eX := eT.trans (Ex.new (o := .ins CC dx [("_items", vi), ("_grades", vg), ("_drifts", vd), ("_told", .ref ta), ("_lots", ll)]) nx2)
  have e8 := s8.a.trans (sg.a.trans eX)
  refine q _ _ sX ⟨x, dx, [vi, vg, vd, .ref ta, ll], rfl, upd_same, (pL _).mono (s3.a.trans (s4.a.trans (s6.a.trans e8))) ri, (pN _).mono (s4.a.trans (s6.a.trans e8)) rg, ?_, ?_, (pL _).mono eX hll, True.intro⟩
  · exact (pD _).mono (s6.a.trans e8) rd
  · refine ⟨ta, tv, rfl, ?_, ?_⟩
    · rw [upd_ne hxt, upd_same]
      simp only [List.map_map]
      rfl
    · simp only [List.map_map]
      exact ht.mono eX
end
end Rb
set_option Elab.async false
set_option linter.all false
set_option maxRecDepth 100000
set_option maxHeartbeats 3200000
/-! A case's making: the calls. -/
namespace Rb
open PySem PySem.Spec PyProof.Rows L2
abbrev kwsI : List (Str × V) := [("drifts", .non), ("struck", .non), ("resets", .non), ("moves", .non)]
abbrev s_Case_init : Stmt := inClass (topS 31) 0
section
variable {K : PySem.W.Frag} {f : Addr} {fd : FuncData}
abbrev FdI (K : PySem.W.Frag) (f : Addr) (fd : FuncData) : Prop := FunD K "__init__" "Case.__init__" (defArgs s_Case_init) (defBody s_Case_init) (defScope s_Case_init) [] kwsI f fd
theorem init_b0 (F : FdI K f fd) : ∃ ds, Vals [.non, .non, .non, .non] ds ∧ Binds K fd dI ds :=
  F.binds0 2 (fun z => nomatch z) rfl fun D doc pm an cdv ct us ks h1 h2 => match us, ks, h1, h2 with
    | [u, v], [a, b, c, d], _, _ => ⟨_, _, _, _, _, _, rfl, rfl, ⟨_, _, _, _, _, _, rfl, rfl, ⟨_, _, _, _, _, _, rfl, rfl, ⟨_, _, _, _, _, _, rfl, rfl, rfl⟩⟩⟩⟩
abbrev gM {α : Type} (vs mz zs : List α) : List α := vs ++ (mz ++ zs)
abbrev gR {α : Type} (vs mz zs : List α) : List α := vs ++ (mz.take 2 ++ (zs ++ mz.drop 2))
abbrev gS {α : Type} (vs mz zs : List α) : List α := vs ++ (mz.take 1 ++ (zs ++ mz.drop 1))
abbrev gSM {α : Type} (vs mz zs : List α) : List α := vs ++ (mz.take 1 ++ (zs.take 1 ++ (mz.drop 1 ++ zs.drop 1)))
theorem init_kM (F : FdI K f fd) : ∃ mv : List Value, KBn K fd dI 2 ["moves"] (fun us ws => gM us mv ws) (fun vs zs => gM vs [.non, .non, .non] zs) :=
  F.kbinds0 2 ["moves"] [("drifts", .non), ("struck", .non), ("resets", .non)] (fun vs mz zs => gM vs mz zs) (fun z => nomatch z) (by decide) (fun r1 r2 r3 => r1.append (r2.append r3)) fun D doc pm an cdv ct us mv ws h1 h2 h3 => match us, mv, ws, h1, h2, h3 with
    | [u, v], [a, b, c], [d], _, _, _ => ⟨_, _, _, _, _, _, rfl, rfl, ⟨_, _, _, _, _, _, rfl, rfl, ⟨_, _, _, _, _, _, rfl, rfl, rfl⟩⟩⟩
theorem init_kR (F : FdI K f fd) : ∃ mv : List Value, KBn K fd dI 2 ["resets"] (fun us ws => gR us mv ws) (fun vs zs => gR vs [.non, .non, .non] zs) :=
  F.kbinds0 2 ["resets"] [("drifts", .non), ("struck", .non), ("moves", .non)] (fun vs mz zs => gR vs mz zs) (fun z => nomatch z) (by decide) (fun r1 r2 r3 => r1.append ((r2.take 2).append (r3.append (r2.drop 2)))) fun D doc pm an cdv ct us mv ws h1 h2 h3 => match us, mv, ws, h1, h2, h3 with
    | [u, v], [a, b, d], [c], _, _, _ => ⟨_, _, _, _, _, _, rfl, rfl, ⟨_, _, _, _, _, _, rfl, rfl, ⟨_, _, _, _, _, _, rfl, rfl, rfl⟩⟩⟩
theorem init_kS (F : FdI K f fd) : ∃ mv : List Value, KBn K fd dI 2 ["struck"] (fun us ws => gS us mv ws) (fun vs zs => gS vs [.non, .non, .non] zs) :=
  F.kbinds0 2 ["struck"] [("drifts", .non), ("resets", .non), ("moves", .non)] (fun vs mz zs => gS vs mz zs) (fun z => nomatch z) (by decide) (fun r1 r2 r3 => r1.append ((r2.take 1).append (r3.append (r2.drop 1)))) fun D doc pm an cdv ct us mv ws h1 h2 h3 => match us, mv, ws, h1, h2, h3 with
    | [u, v], [a, c, d], [b], _, _, _ => ⟨_, _, _, _, _, _, rfl, rfl, ⟨_, _, _, _, _, _, rfl, rfl, ⟨_, _, _, _, _, _, rfl, rfl, rfl⟩⟩⟩
theorem init_kSM (F : FdI K f fd) : ∃ mv : List Value, KBn K fd dI 2 ["struck", "moves"] (fun us ws => gSM us mv ws) (fun vs zs => gSM vs [.non, .non] zs) :=
  F.kbinds0 2 ["struck", "moves"] [("drifts", .non), ("resets", .non)] (fun vs mz zs => gSM vs mz zs) (fun z => nomatch z) (by decide) (fun r1 r2 r3 => r1.append ((r2.take 1).append ((r3.take 1).append ((r2.drop 1).append (r3.drop 1))))) fun D doc pm an cdv ct us mv ws h1 h2 h3 => match us, mv, ws, h1, h2, h3 with
    | [u, v], [a, c], [b, d], _, _, _ => ⟨_, _, _, _, _, _, rfl, rfl, ⟨_, _, _, _, _, _, rfl, rfl, rfl⟩⟩
end
section
variable {P : Program} {w : World} {K : PySem.W.Frag} {mg : Str → Option Value} {base : Heap} {CL CC : Addr}
/-- a case is made -/
structure CaseMk (P : Program) (w : World) (K : PySem.W.Frag) (mg : Str → Option Value) (base : Heap) (CL CC : Addr) : Prop where
  ex : ∃ f fd, M_init P w K mg base CL CC f fd ∧ FdI K f fd ∧ Mk K CC f
end
section
variable {X : Cx} {CL CC : Addr} {j : Nat} {e : Expr} {p pos : Pos} {t tk : TA} {kws : List Keyword}
theorem pe_case (M : CaseMk X.prog X.w X.K X.mg X.base CL CC) (hr : Room j X.A) (hk : 5 ≤ j) (hg : Gl X "Case") (hm : X.mg "Case" = some (.ref CC)) (ha : PA X [e] t)
    (he : starEach [e] X.env = (false, eval e X.env) :: starEach [] X.env := by rfl) : PE X (.Call (.Name "Case" p) [e] [] pos) (tMake CC (spInit CL CC) [.non, .non, .non, .non] E0 t) := by
  obtain ⟨f, fd, G, F, mk⟩ := M.ex
  obtain ⟨ds, hd, hb⟩ := init_b0 F
  exact pe_make mk G (hr.mono hk) hg hm hb hd pass0 ha (by decide) he (by rfl)
theorem pe_caseM (M : CaseMk X.prog X.w X.K X.mg X.base CL CC) (hr : Room j X.A) (hk : 5 ≤ j) (hg : Gl X "Case") (hm : X.mg "Case" = some (.ref CC)) (ha : PA X [e] t) (hkw : PK X kws tk)
    (hall : (backToKw pos (keywordEach kws X.env)).all (·.1.isSome) = true := by rfl) (hks : (backToKw pos (keywordEach kws X.env)).filterMap (·.1) = (["moves"] : List Str) := by rfl)
    (he : starEach [e] X.env = (false, eval e X.env) :: starEach [] X.env := by rfl) (hpl : ((backTo pos (starEach [e] X.env)).any (·.1) || (backToKw pos (keywordEach kws X.env)).any (·.1.isNone)) = false := by rfl) :
    PE X (.Call (.Name "Case" p) [e] kws pos) (tMakeK CC 1 1 (spInit CL CC) (fun vs zs => gM vs [.non, .non, .non] zs) E0 t tk) := by
  obtain ⟨f, fd, G, F, mk⟩ := M.ex
  obtain ⟨mv, hb⟩ := init_kM F
  exact pe_makeK (ks := ["moves"]) mk G (hr.mono hk) hg hm hb pass0 ha hkw hall hks (by decide) he hpl
theorem pe_caseR (M : CaseMk X.prog X.w X.K X.mg X.base CL CC) (hr : Room j X.A) (hk : 5 ≤ j) (hg : Gl X "Case") (hm : X.mg "Case" = some (.ref CC)) (ha : PA X [e] t) (hkw : PK X kws tk)
    (hall : (backToKw pos (keywordEach kws X.env)).all (·.1.isSome) = true := by rfl) (hks : (backToKw pos (keywordEach kws X.env)).filterMap (·.1) = (["resets"] : List Str) := by rfl)
    (he : starEach [e] X.env = (false, eval e X.env) :: starEach [] X.env := by rfl) (hpl : ((backTo pos (starEach [e] X.env)).any (·.1) || (backToKw pos (keywordEach kws X.env)).any (·.1.isNone)) = false := by rfl) :
    PE X (.Call (.Name "Case" p) [e] kws pos) (tMakeK CC 1 1 (spInit CL CC) (fun vs zs => gR vs [.non, .non, .non] zs) E0 t tk) := by
  obtain ⟨f, fd, G, F, mk⟩ := M.ex
  obtain ⟨mv, hb⟩ := init_kR F
  exact pe_makeK (ks := ["resets"]) mk G (hr.mono hk) hg hm hb pass0 ha hkw hall hks (by decide) he hpl
theorem pe_caseS (M : CaseMk X.prog X.w X.K X.mg X.base CL CC) (hr : Room j X.A) (hk : 5 ≤ j) (hg : Gl X "Case") (hm : X.mg "Case" = some (.ref CC)) (ha : PA X [e] t) (hkw : PK X kws tk)
    (hall : (backToKw pos (keywordEach kws X.env)).all (·.1.isSome) = true := by rfl) (hks : (backToKw pos (keywordEach kws X.env)).filterMap (·.1) = (["struck"] : List Str) := by rfl)
    (he : starEach [e] X.env = (false, eval e X.env) :: starEach [] X.env := by rfl) (hpl : ((backTo pos (starEach [e] X.env)).any (·.1) || (backToKw pos (keywordEach kws X.env)).any (·.1.isNone)) = false := by rfl) :
    PE X (.Call (.Name "Case" p) [e] kws pos) (tMakeK CC 1 1 (spInit CL CC) (fun vs zs => gS vs [.non, .non, .non] zs) E0 t tk) := by
  obtain ⟨f, fd, G, F, mk⟩ := M.ex
  obtain ⟨mv, hb⟩ := init_kS F
  exact pe_makeK (ks := ["struck"]) mk G (hr.mono hk) hg hm hb pass0 ha hkw hall hks (by decide) he hpl
theorem pe_caseSM (M : CaseMk X.prog X.w X.K X.mg X.base CL CC) (hr : Room j X.A) (hk : 5 ≤ j) (hg : Gl X "Case") (hm : X.mg "Case" = some (.ref CC)) (ha : PA X [e] t) (hkw : PK X kws tk)
    (hall : (backToKw pos (keywordEach kws X.env)).all (·.1.isSome) = true := by rfl) (hks : (backToKw pos (keywordEach kws X.env)).filterMap (·.1) = (["struck", "moves"] : List Str) := by rfl)
    (he : starEach [e] X.env = (false, eval e X.env) :: starEach [] X.env := by rfl) (hpl : ((backTo pos (starEach [e] X.env)).any (·.1) || (backToKw pos (keywordEach kws X.env)).any (·.1.isNone)) = false := by rfl) :
    PE X (.Call (.Name "Case" p) [e] kws pos) (tMakeK CC 1 2 (spInit CL CC) (fun vs zs => gSM vs [.non, .non] zs) E0 t tk) := by
  obtain ⟨f, fd, G, F, mk⟩ := M.ex
  obtain ⟨mv, hb⟩ := init_kSM F
  exact pe_makeK (ks := ["struck", "moves"]) mk G (hr.mono hk) hg hm hb pass0 ha hkw hall hks (by decide) he hpl
end
section
variable {σ : L2.St} {H : Hp} {te tm ts : TE} {l : LogD} {CL CC : Addr} {M S : List Nat}
theorem ev_case (h : Ev te σ H (pLog CL l)) (hl : l.Ok) : Ev (tMake CC (spInit CL CC) [.non, .non, .non, .non] E0 (tCons te tNil)) σ H (pCase CC (mkCase l [] [] none)) := fun H1 e Q q =>
  h H1 e _ fun v G A s r => fun x dx nx nd ne => ⟨l, none, none, none, G, A, x, dx, v, .non, .non, .non, rfl, hl, (fun _ z => nomatch z), (fun _ z => nomatch z), (fun _ z => nomatch z), s.b, nx, nd, ne, rfl, r, rfl, rfl, rfl, fun H' H2 t u => ⟨rfl, q _ _ _ (s.trans t) u⟩⟩
theorem ev_caseM (h : Ev te σ H (pLog CL l)) (hm : Ev tm σ H (pNs M)) (hl : l.Ok) (ha : ∀ p ∈ M, l.isAns p = true) : Ev (tMakeK CC 1 1 (spInit CL CC) (fun vs zs => gM vs [.non, .non, .non] zs) E0 (tCons te tNil) (tCons tm tNil)) σ H (pCase CC (mkCase l [] [] (some M))) := fun H1 e Q q =>
  h H1 e _ fun v G A s r => (hm.mono s.a) A s.b _ fun u G2 A2 s2 r2 => ⟨rfl, rfl, fun x dx nx nd ne => ⟨l, none, none, some M, G2, A2, x, dx, v, .non, .non, u, rfl, hl, (fun _ z => nomatch z), (fun _ z => nomatch z), ha, s2.b, nx, nd, ne, rfl, (pLog CL l).mono s2.a r, rfl, rfl, r2, fun H' H2 t z => ⟨rfl, q _ _ _ ((s.trans s2).trans t) z⟩⟩⟩
theorem ev_caseR (h : Ev te σ H (pLog CL l)) (hm : Ev tm σ H (pNs M)) (hl : l.Ok) (ha : ∀ p ∈ M, l.isAns p = true) : Ev (tMakeK CC 1 1 (spInit CL CC) (fun vs zs => gR vs [.non, .non, .non] zs) E0 (tCons te tNil) (tCons tm tNil)) σ H (pCase CC (mkCase l [] M none)) := fun H1 e Q q =>
  h H1 e _ fun v G A s r => (hm.mono s.a) A s.b _ fun u G2 A2 s2 r2 => ⟨rfl, rfl, fun x dx nx nd ne => ⟨l, none, some M, none, G2, A2, x, dx, v, .non, u, .non, rfl, hl, (fun _ z => nomatch z), ha, (fun _ z => nomatch z), s2.b, nx, nd, ne, rfl, (pLog CL l).mono s2.a r, rfl, r2, rfl, fun H' H2 t z => ⟨rfl, q _ _ _ ((s.trans s2).trans t) z⟩⟩⟩
theorem ev_caseS (h : Ev te σ H (pLog CL l)) (hm : Ev tm σ H (pNs M)) (hl : l.Ok) (ha : ∀ p ∈ M, l.isAns p = true) : Ev (tMakeK CC 1 1 (spInit CL CC) (fun vs zs => gS vs [.non, .non, .non] zs) E0 (tCons te tNil) (tCons tm tNil)) σ H (pCase CC (mkCase l M [] none)) := fun H1 e Q q =>
  h H1 e _ fun v G A s r => (hm.mono s.a) A s.b _ fun u G2 A2 s2 r2 => ⟨rfl, rfl, fun x dx nx nd ne => ⟨l, some M, none, none, G2, A2, x, dx, v, u, .non, .non, rfl, hl, ha, (fun _ z => nomatch z), (fun _ z => nomatch z), s2.b, nx, nd, ne, rfl, (pLog CL l).mono s2.a r, r2, rfl, rfl, fun H' H2 t z => ⟨rfl, q _ _ _ ((s.trans s2).trans t) z⟩⟩⟩
theorem ev_caseSM (h : Ev te σ H (pLog CL l)) (hs : Ev ts σ H (pNs S)) (hm : Ev tm σ H (pNs M)) (hl : l.Ok) (hS : ∀ p ∈ S, l.isAns p = true) (ha : ∀ p ∈ M, l.isAns p = true) : Ev (tMakeK CC 1 2 (spInit CL CC) (fun vs zs => gSM vs [.non, .non] zs) E0 (tCons te tNil) (tCons ts (tCons tm tNil))) σ H (pCase CC (mkCase l S [] (some M))) := fun H1 e Q q =>
  h H1 e _ fun v G A s r => (hs.mono s.a) A s.b _ fun u1 G1 A1 s1 r1 => ((hm.mono s.a).mono s1.a) A1 s1.b _ fun u G2 A2 s2 r2 => ⟨rfl, rfl, fun x dx nx nd ne => ⟨l, some S, none, some M, G2, A2, x, dx, v, u1, .non, u, rfl, hl, hS, (fun _ z => nomatch z), ha, s2.b, nx, nd, ne, rfl, (pLog CL l).mono (s1.a.trans s2.a) r, (pNs S).mono s2.a r1, rfl, r2, fun H' H2 t z => ⟨rfl, q _ _ _ (((s.trans s1).trans s2).trans t) z⟩⟩⟩
end
end Rb
set_option Elab.async false
set_option linter.all false
set_option maxRecDepth 100000
set_option maxHeartbeats 3200000
/-! Walks: Log.__init__. -/
namespace Rb
open PySem PySem.Spec PyProof.Rows L2
section
variable {K : PySem.W.Frag} {σ : L2.St} {H H1 : Hp} {te : TE} {R : Pr} {D : Ends} {i : Nat}
theorem s_fld' {C x dx : Addr} {f : Str} {fs : List (Str × V)} (e : Ex H H1) (h : Ev te σ H R) (hx : H x = none) (h1 : H1 x = some (.ins C dx fs)) (hs : σ[i]? = some (some (.ref x))) (c : Cls K C) (n : NoAttr K C f) (hz : fs.length < 1000)
    (k : ∀ v H' H2, Sep H H1 H' H2 → R.p H' v → H' x = none → D.nx σ (upd H2 x (.ins C dx (putF f v fs)))) : sFld K (tVar i) te f D σ H1 := h H1 e _ fun v H' H2 s r => by
  have kx := s.keep hx h1
  exact ⟨.ref x, hs, x, C, dx, fs, rfl, kx.2, c, n, hz, k v H' H2 s r kx.1⟩
end
section
variable {P : Program} {w : World} {K : PySem.W.Frag} {mg : Str → Option Value} {base : Heap} {CL CC : Addr}
/-- the promise of a log's making -/
def spLogI (CL : Addr) : Sp := fun vs Hin Q _ => ∃ (l : LogD) (G Hc : Hp) (x dx : Addr) (vi vj ve : V), vs = [.ref x, vi, .int (l.grades : Int), vj, ve] ∧ l.Ok ∧ Ex G Hc ∧ Hc x = none ∧ Hc dx = none ∧ dx ≠ x ∧ Hin = upd (upd Hc dx (.own x)) x (.ins CL dx []) ∧
  (pL (l.items.map pS)).p G vi ∧ (pL (l.judges.map pJ)).p G vj ∧ (pL (l.events.map pEv)).p G ve ∧ ∀ H' H2, Sep G Hc H' H2 → (pLog CL l).p H' (.ref x) → Q .non H2
abbrev F_are_names (P : Program) (w : World) (K : PySem.W.Frag) (mg : Str → Option Value) (base : Heap) : Prop := Fn P w K mg base 2 "are_names" ["texts", "most"] (spN (fun a : List Str × Nat => [pL (a.1.map pS), pN a.2]) (fun a => NamesOk a.1 a.2 ∧ a.2 ≤ 50) fun _ => pB true)
abbrev F_is_event (P : Program) (w : World) (K : PySem.W.Frag) (mg : Str → Option Value) (base : Heap) : Prop := Fn P w K mg base 1 "is_event" ["event", "items", "grades", "judges"] (spN (fun a : LogD × EvD => [pEv a.2, pL (a.1.items.map pS), pN a.1.grades, pL (a.1.names.map pS)]) (fun a => a.1.EvOk a.2) fun _ => pB true)
abbrev dL : List Str := ["self", "items", "grades", "judges", "events"]
abbrev s_Log___init__ : Stmt := inClass (topS 26) 0
theorem sc_Log___init__ : FnScope ["self", "items", "grades", "judges", "events", "judge", "names", "event"] ["self", "items", "grades", "judges", "events"] (defScope s_Log___init__) := ⟨rfl, rfl, rfl, by decide +kernel, rfl, by decide +kernel, by decide +kernel⟩
abbrev n_Log___init__ : List Str := ["self", "items", "grades", "judges", "events", "judge", "names", "event"]
abbrev M_initL (P : Program) (w : World) (K : PySem.W.Frag) (mg : Str → Option Value) (base : Heap) (CL : Addr) (f : Addr) (fd : FuncData) : Prop := FnOk P w K mg base CX0 3 f fd dL (spLogI CL)
theorem w_initL {f : Addr} {fd : FuncData} {dvs : List V} {kws : List (Str × V)} (Z : Bz K mg CL CC) (F : FunD K "__init__" "Log.__init__" (defArgs s_Log___init__) (defBody s_Log___init__) (defScope s_Log___init__) dvs kws f fd)
    (f_is_drift : F_is_drift P w K mg base) (f_are_names : F_are_names P w K mg base) (f_is_event : F_is_event P w K mg base) : M_initL P w K mg base CL f fd := by
  have sc := sc_Log___init__
  refine F.ok (k := 2) sc (fun vs H Q E ⟨l, G, Hc, x, dx, vi, vj, ve, e, _⟩ => by rw [e]; rfl) fun cdv A outer s H1 vs Q E hr h => ?_
  have hu := hu_of hr
  obtain ⟨l, G, Hc, x, dx, vi, vj, ve, rfl, hl, eG, nx, nd, ndx, rfl, ri, rj, re, q⟩ := h
  refine ⟨_, PSs.nox ((pss_cons (ps_if (pt_not (pt_val (pe_callB (crAll K rfl) (by rfl) Z.all (by decide +kernel) (pa_cons (pe_lc (own := [("judge", 5)]) (g := (gName 5)) rfl sc.nd (piList K (pv 3)) (blkOk_by (N := n_Log___init__) (sc := defScope s_Log___init__) (by decide +kernel)) (fun _ _ _ _ _ => (pg_name (i := 5) sc.nd rfl (by first | exact Or.inl rfl | exact Or.inr rfl))) (fun _ _ _ _ _ => pts_nil) (fun _ _ _ _ _ => (pe_and (pe_cmpR op_eq (pe_callB (cLen K) (by rfl) Z.len PySem.boot_len (pa_cons (pv 5) pa_nil)) pe_int (nomark _)) (pe_one (pe_fn f_is_drift hr (by decide) (by rfl) (pa_cons (pe_ix (ixT K) (pv 5) pe_int (fun _ _ => rfl)) pa_nil)))))) pa_nil)))) pss_never pss_nil)
    (pss_cons (ps_set (i := 6) sc.nd rfl (Or.inr rfl) (pe_lc (own := [("judge", 5)]) (g := (gName 5)) rfl sc.nd (piList K (pv 3)) (blkOk_by (N := n_Log___init__) (sc := defScope s_Log___init__) (by decide +kernel)) (fun _ _ _ _ _ => (pg_name (i := 5) sc.nd rfl (by first | exact Or.inl rfl | exact Or.inr rfl))) (fun _ _ _ _ _ => pts_nil) (fun _ _ _ _ _ => (pe_ix (ixT K) (pv 5) pe_int (fun _ _ => rfl)))))
    (pss_cons (ps_if (PW.pt (pw_or (pt_not (pt_val (pe_fn f_are_names hr (by decide) (by rfl) (pa_cons (pv 1) (pa_cons (pe_gi rfl Z.MOST_ITEMS) pa_nil))))) (pw_or (pt_not (pt_val (pe_fn f_are_names hr (by decide) (by rfl) (pa_cons (pv 6) (pa_cons (pe_gi rfl Z.MOST_JUDGES) pa_nil))))) (pw_or1 (pt_not (pt_chain op_le op_le pe_int (pv 2) (pe_gi rfl Z.MOST_GRADE))))))) pss_never pss_nil)
    (pss_cons (ps_if (PW.pt (pw_or (pt_cmpR op_gt (pe_callB (cLen K) (by rfl) Z.len PySem.boot_len (pa_cons (pv 4) pa_nil)) (pe_gi rfl Z.MOST_EVENTS) (nomark _)) (pw_or1 (pt_not (pt_val (pe_callB (crAll K rfl) (by rfl) Z.all (by decide +kernel) (pa_cons (pe_lc (own := [("event", 7)]) (g := (gName 7)) rfl sc.nd (piList K (pv 4)) (blkOk_by (N := n_Log___init__) (sc := defScope s_Log___init__) (by decide +kernel)) (fun _ _ _ _ _ => (pg_name (i := 7) sc.nd rfl (by first | exact Or.inl rfl | exact Or.inr rfl))) (fun _ _ _ _ _ => pts_nil) (fun _ _ _ _ _ => (pe_fn f_is_event hr (by decide) (by rfl) (pa_cons (pv 7) (pa_cons (pv 1) (pa_cons (pv 2) (pa_cons (pv 6) pa_nil))))))) pa_nil))))))) pss_never pss_nil)
    (pss_cons (ps_fld (pv 0) (pe_callTy (cListOf K) (by rfl) Z.list (by decide +kernel) (pa_cons (pv 1) pa_nil)) rfl)
    (pss_cons (ps_fld (pv 0) (pv 2) rfl)
    (pss_cons (ps_fld (pv 0) (pe_callTy (cListOf K) (by rfl) Z.list (by decide +kernel) (pa_cons (pv 3) pa_nil)) rfl)
    (pss_one (ps_fld (pv 0) (pe_callTy (cListOf K) (by rfl) Z.list (by decide +kernel) (pa_cons (pv 4) pa_nil)) rfl)))))))))), ?_⟩
  have nxG := eG.back nx
  have s0 : Sep G Hc G (upd (upd Hc dx (.own x)) x (.ins CL dx [])) := (Sep.hid eG nd).ext (Ex.new (by rw [upd_ne (Ne.symm ndx)]; exact nx))
  have x0 : (upd (upd Hc dx (.own x)) x (.ins CL dx [])) x = some (.ins CL dx []) := upd_same
  generalize upd (upd Hc dx (.own x)) x (.ins CL dx []) = H1 at s0 x0
  have hj8 : l.judges.length ≤ 8 := by
    have := hl.names.hi
    have h1 : l.names.length = l.judges.length := List.length_map ..
    omega
  refine q_ifN s0.b ((et_not (a := true) (et_B ((ev_allLc (fun _ => true) (ei_list (ev_var rj)) (by omega) fun j v G' hj eG' r => ⟨_, bnd_name, rfl, (ev_andV (a := true) (b := true) ((ev_eq (ev_lenT (ev_var r)) ev_c rfl).eq rfl) fun _ => ev_call j.2 (ea_one (ev_ixT' (n := 1) (ev_var r) rfl rfl)) (hl.drifts j hj))⟩).eq ?_))).eq rfl) fun A1 e1 => ?_
  · have e3 : (l.judges.all fun _ => true) = true := by
      rw [List.all_eq_true]
      exact fun _ _ => rfl
    rw [e3]
  refine q_asg (s0.b.trans e1) (ev_lcA (as := l.judges) (f := pJ) (h := fun j => pS j.1) (ei_list (ev_var rj)) (by omega) fun j v G' hj eG' r => ⟨_, bnd_name, rfl, ev_ixT' (n := 0) (ev_var r) rfl rfl⟩) fun vn G2 A2 s2 rn => ?_
  have rn : (pL (l.names.map pS)).p G2 vn := by
    have h1 : l.names.map pS = l.judges.map fun j => pS j.1 := by
      show (l.judges.map Prod.fst).map _ = _
      rw [List.map_map]
      rfl
    rw [h1]
    exact rn
  have t2 : Sep G Hc G2 A2 := (s0.ext e1).trans s2
  have k2 := s2.keep nxG (e1 _ _ x0)
  have ri2 := (pL (l.items.map pS)).mono s2.a ri
  have re2 := (pL (l.events.map pEv)).mono s2.a re
  have rj2 := (pL (l.judges.map pJ)).mono s2.a rj
  refine q_ifN t2.b ((et_or (a := false) (b := false) ((et_not (a := true) (et_B (ev_call (l.items, 20) (ea_cons (ev_var ri2) (ea_one ev_c)) ⟨hl.items, (show 20 ≤ 50 by decide)⟩))).eq rfl) fun _ => et_or (a := false) (b := false) ((et_not (a := true) (et_B (ev_call (l.names, 8) (ea_cons (ev_var rn) (ea_one ev_c)) ⟨hl.names, (show 8 ≤ 50 by decide)⟩))).eq rfl) fun _ => (et_not (a := true) ((et_B (ev_chain (i := 1) (j := (l.grades : Int)) (m := 9) ev_c (ev_var rfl) ev_c)).eq ?_)).eq rfl)) fun A3 e3 => ?_
  · have := hl.lo
    have := hl.hi
    have e1 : (decide ((1 : Int) ≤ (l.grades : Int)) && decide ((l.grades : Int) ≤ 9)) = true := by
      rw [Bool.and_eq_true, decide_eq_true_eq, decide_eq_true_eq]
      omega
    exact e1
  refine q_ifN (t2.b.trans e3) ((et_or (a := false) (b := false) ((et_test (ev_I0 (ev_len (ev_var re2)) ev_c)).eq ?_) fun _ => (et_not (a := true) (et_B ((ev_allLc (fun _ => true) (ei_list (ev_var re2)) (by have := hl.few; omega) fun d v G' hd eG' r => ⟨_, bnd_name, rfl, ev_call (l, d) (ea_cons (ev_var r) (ea_cons (ev_var ((pL (l.items.map pS)).mono eG' ri2)) (ea_cons (ev_var rfl) (ea_one (ev_var ((pL (l.names.map pS)).mono eG' rn)))))) (hl.evs d hd)⟩).eq ?_))).eq rfl)) fun A4 e4 => ?_
  · have := hl.few
    rw [List.length_map]
    refine decide_eq_false ?_
    omega
  · have e3 : (l.events.all fun _ => true) = true := by
      rw [List.all_eq_true]
      exact fun _ _ => rfl
    rw [e3]
  have t4 := (t2.ext e3).ext e4
  have k4 : A4 x = some (.ins CL dx []) := e4 _ _ (e3 _ _ k2.2)
  refine q_fld t4.b (ev_listOf (ev_var ri2)) k2.1 k4 rfl Z.c_Log Z.l_items (show 0 < 1000 by decide) fun ui G5 A5 s5 ri5 n5 => ?_
  have t5 : Sep G Hc G5 _ := (t4.trans s5).mut (o := .ins CL dx (putF "_items" ui [])) nx n5
  refine q_fld t5.b (ev_var (R := pN l.grades) rfl) n5 upd_same rfl Z.c_Log Z.l_grades (show 1 < 1000 by decide) fun ug G6 A6 s6 rg6 n6 => ?_
  have t6 : Sep G Hc G6 _ := (t5.trans s6).mut (o := .ins CL dx (putF "_grades" ug (putF "_items" ui []))) nx n6
  refine q_fld t6.b (ev_listOf (ev_var ((pL (l.judges.map pJ)).mono (s5.a.trans s6.a) rj2))) n6 upd_same rfl Z.c_Log Z.l_judges (show 2 < 1000 by decide) fun uj G7 A7 s7 rj7 n7 => ?_
  have t7 : Sep G Hc G7 _ := (t6.trans s7).mut (o := .ins CL dx (putF "_judges" uj (putF "_grades" ug (putF "_items" ui [])))) nx n7
  refine s_fld' t7.b (ev_listOf (ev_var ((pL (l.events.map pEv)).mono (s5.a.trans (s6.a.trans s7.a)) re2))) n7 upd_same rfl Z.c_Log Z.l_events (show 3 < 1000 by decide) fun ue G8 A8 s8 re8 n8 => ?_
  have t8 : Sep G Hc G8 _ := (t7.trans s8).mut (o := .ins CL dx (putF "_events" ue (putF "_judges" uj (putF "_grades" ug (putF "_items" ui []))))) nx n8
  have eX : Ex G8 (upd G8 x (.ins CL dx (putF "_events" ue (putF "_judges" uj (putF "_grades" ug (putF "_items" ui [])))))) := Ex.new n8
  exact q _ _ (t8.own nx n8 upd_same) ⟨x, dx, [ui, ug, uj, ue], rfl, upd_same, (pL _).mono (s6.a.trans (s7.a.trans (s8.a.trans eX))) ri5, (pN _).mono (s7.a.trans (s8.a.trans eX)) rg6, (pL _).mono (s8.a.trans eX) rj7, (pL _).mono eX re8, True.intro⟩
/-- a log is made -/
structure LogMk (P : Program) (w : World) (K : PySem.W.Frag) (mg : Str → Option Value) (base : Heap) (CL : Addr) : Prop where
  ex : ∃ f fd, M_initL P w K mg base CL f fd ∧ Binds K fd dL [] ∧ Mk K CL f
end
section
variable {X : Cx} {CL : Addr} {j : Nat} {e : Expr} {es : List Expr} {p pos : Pos} {t : TA}
theorem pe_log (M : LogMk X.prog X.w X.K X.mg X.base CL) (hr : Room j X.A) (hk : 4 ≤ j) (hg : Gl X "Log") (hm : X.mg "Log" = some (.ref CL)) (ha : PA X (e :: es) t)
    (he : starEach (e :: es) X.env = (false, eval e X.env) :: starEach es X.env := by rfl) (hpl : (backTo pos (starEach es X.env)).any (·.1) = false := by rfl) : PE X (.Call (.Name "Log" p) (e :: es) [] pos) (tMake CL (spLogI CL) [] E0 t) := by
  obtain ⟨f, fd, G, hb, mk⟩ := M.ex
  exact pe_make mk G (hr.mono hk) hg hm hb .nil pass0 ha (by decide) he hpl
end
section
variable {σ : L2.St} {H : Hp} {ti tg tj te : TE} {l : LogD} {CL : Addr}
theorem ev_log (hi : Ev ti σ H (pL (l.items.map pS))) (hg : Ev tg σ H (pN l.grades)) (hj : Ev tj σ H (pL (l.judges.map pJ))) (he : Ev te σ H (pL (l.events.map pEv))) (hl : l.Ok) : Ev (tMake CL (spLogI CL) [] E0 (tCons ti (tCons tg (tCons tj (tCons te tNil))))) σ H (pLog CL l) := fun H1 e Q q =>
  (ea_cons hi (ea_cons hg (ea_cons hj (ea_one he)))) H1 e _ fun vs G A s r => fun x dx nx nd ne => by
    obtain ⟨vi, vg, vj, ve, rfl, ri, rg, rj, re⟩ := all4 r
    have rg : vg = .int (l.grades : Int) := rg
    subst rg
    exact ⟨l, G, A, x, dx, vi, vj, ve, rfl, hl, s.b, nx, nd, ne, rfl, ri, rj, re, fun H' H2 t z => ⟨rfl, q _ _ _ (s.trans t) z⟩⟩
end
end Rb
set_option Elab.async false
set_option linter.all false
set_option maxRecDepth 100000
set_option maxHeartbeats 3200000
/-! Walks: check_sizes, between, the places. -/
namespace Rb
open PySem PySem.Spec PyProof.Rows L2
namespace LogD
variable (l : LogD)
def between (ps : List Nat) (k : Nat × Nat) : List Nat := ps.filter fun p => (decide (min k.1 k.2 < p) && decide (p ≤ max k.1 k.2)) && decide (l.evJ p = l.evJ (min k.1 k.2))
def laterPlaces (j : Str) : List Nat := (l.stretches j).flatMap fun r => r.drop 1
def movePlaces : List Nat := srt ((l.judges.filter fun d => !decide (d.2 = ("stays" : Str))).flatMap fun d => l.laterPlaces d.1)
def resetPlaces : List Nat := srt (l.names.flatMap l.laterPlaces)
def heldAt (c : CaseD) (ring : List (Nat × Nat)) : List Nat := (ring.filter fun k => !c.inOrder k.1 k.2).flatMap fun k => l.between l.answers k
end LogD
section
variable {σ : L2.St} {H H1 : Hp} {ta : TA} {tz : TS} {D : Ends} {A B : Pr} {i j : Nat}
theorem q_par (e : Ex H H1) (h : EvA ta σ H [A, B]) (k : ∀ v w H' H2, Sep H H1 H' H2 → A.p H' v → B.p H' w → tz D ((σ.set i (some v)).set j (some w)) H2) : tSeq (tPar i j ta) tz D σ H1 := h H1 e _ fun vs H' H2 s r => by
  obtain ⟨v, w, rfl, r1, r2⟩ := all2 r
  exact ⟨v, w, rfl, k v w H' H2 s r1 r2⟩
end
section
variable {P : Program} {w : World} {K : PySem.W.Frag} {mg : Str → Option Value} {base : Heap} {CL CC : Addr}
abbrev s_check_sizes : Stmt := topS 35
theorem sc_check_sizes : FnScope ["places", "answers"] ["places", "answers"] (defScope s_check_sizes) := ⟨rfl, rfl, rfl, by decide +kernel, rfl, by decide +kernel, by decide +kernel⟩
abbrev n_check_sizes : List Str := ["places", "answers"]
abbrev F_check_sizes (P : Program) (w : World) (K : PySem.W.Frag) (mg : Str → Option Value) (base : Heap) : Prop := Fn P w K mg base 1 "check_sizes" ["places", "answers"] (spN (fun a : List Nat × List Nat => [pNs a.1, pNs a.2]) (fun a => a.1.length ≤ 10 ∧ a.2.length ≤ 40) fun _ => pNo)
theorem w_check_sizes (Z : Bz K mg CL CC) (D : Df K mg "check_sizes" s_check_sizes [] []) : F_check_sizes P w K mg base :=
  fn_mk (k := 0) D sc_check_sizes (fun _ => rfl) (bnd2 fun _ _ _ _ _ _ _ _ => rfl) fun f cdv A outer s H1 vs Q X a H hr e hp h q => by
    have sc := sc_check_sizes
    obtain ⟨ps, as⟩ := a
    obtain ⟨vp, va, rfl, rp, ra⟩ := all2 h
    refine ⟨_, (pss_one (ps_if (PW.pt (pw_or (pt_cmpR op_gt (pe_callB (cLen K) (by rfl) Z.len PySem.boot_len (pa_cons (pv 0) pa_nil)) (pe_gi rfl Z.MOST_PLACES) (nomark _)) (pw_or1 (pt_cmpR op_gt (pe_callB (cLen K) (by rfl) Z.len PySem.boot_len (pa_cons (pv 1) pa_nil)) (pe_gi rfl Z.MOST_ANSWERS) (nomark _))))) pss_never pss_nil)), ?_⟩
    have h1 : ps.length ≤ 10 := hp.1
    have h2 : as.length ≤ 40 := hp.2
    refine s_ifN e ((et_or (a := false) (b := false) ((et_test (ev_I0 (ev_len (ev_var rp)) ev_c)).eq ?_) fun _ => (et_test (ev_I0 (ev_len (ev_var ra)) ev_c)).eq ?_)) fun A1 e1 => q.val ((Sep.refl e).ext e1)
    · rw [List.length_map]
      exact decide_eq_false (by omega)
    · rw [List.length_map]
      exact decide_eq_false (by omega)
abbrev s_between : Stmt := topS 38
theorem sc_between : FnScope ["log", "places", "link", "first", "last", "judge", "place"] ["log", "places", "link"] (defScope s_between) := ⟨rfl, rfl, rfl, by decide +kernel, rfl, by decide +kernel, by decide +kernel⟩
abbrev n_between : List Str := ["log", "places", "link", "first", "last", "judge", "place"]
abbrev F_between (P : Program) (w : World) (K : PySem.W.Frag) (mg : Str → Option Value) (base : Heap) (CL : Addr) : Prop := Fn P w K mg base 4 "between" ["log", "places", "link"] (spN (fun a : LogD × List Nat × (Nat × Nat) => [pLog CL a.1, pNs a.2.1, pLk a.2.2]) (fun a => a.2.1.length ≤ 1000 ∧ (∀ p ∈ a.2.1, a.1.isAns p = true) ∧ a.1.isAns a.2.2.1 = true ∧ a.1.isAns a.2.2.2 = true) fun a => pNs (a.1.between a.2.1 a.2.2))
theorem w_between (Z : Bz K mg CL CC) (D : Df K mg "between" s_between [] []) (m_Log_judge_at : M_judge_at P w K mg base CL) : F_between P w K mg base CL :=
  fn_mk (k := 3) D sc_between (fun _ => rfl) (bnd3 fun _ _ _ _ _ _ _ _ _ => rfl) fun f cdv A outer s H1 vs Q X a H hr e hp h q => by
    have sc := sc_between
    obtain ⟨l, ps, k1, k2⟩ := a
    obtain ⟨vl, vp, vk, rfl, rl, rp, rk⟩ := all3 h
    obtain ⟨hz, hps, h1, h2⟩ := hp
    have hz : ps.length ≤ 1000 := hz
    have h1 : l.isAns k1 = true := h1
    have h2 : l.isAns k2 = true := h2
    have hps : ∀ p ∈ ps, l.isAns p = true := hps
    have hmin : l.isAns (min k1 k2) = true := by
      rcases Nat.le_total k1 k2 with z | z
      · rw [Nat.min_eq_left z]; exact h1
      · rw [Nat.min_eq_right z]; exact h2
    refine ⟨_, (pss_cons (ps_asg (pe_tup (pa_cons (pe_callB (crMinT K hr.hd hr.units) (by rfl) Z.min (by decide +kernel) (pa_cons (pv 2) pa_nil)) (pa_cons (pe_callB (crMaxT K hr.hd hr.units) (by rfl) Z.max (by decide +kernel) (pa_cons (pv 2) pa_nil)) pa_nil))) (pgTup K rfl (pgs_cons (pg_name (i := 3) sc.nd rfl (by first | exact Or.inl rfl | exact Or.inr rfl)) (pgs_cons (pg_name (i := 4) sc.nd rfl (by first | exact Or.inl rfl | exact Or.inr rfl)) pgs_nil))))
    (pss_cons (ps_set (i := 5) sc.nd rfl (Or.inr rfl) (pe_me m_Log_judge_at Z.c_Log hr (by decide) (pv 0) (pa_cons (pv 3) pa_nil)))
    (pss_one (ps_ret (pe_lc (own := [("place", 6)]) (g := (gName 6)) rfl sc.nd (piList K (pv 1)) (blkOk_by (N := n_between) (sc := defScope s_between) (by decide +kernel)) (fun _ _ _ _ _ => (pg_name (i := 6) sc.nd rfl (by first | exact Or.inl rfl | exact Or.inr rfl))) (fun _ _ _ _ _ => pts_one (PW.pt (pw_and (pt_chain op_lt op_le (pv 3) (pv 6) (pv 4)) (pw_and1 (pt_cmpR op_eq (pe_me m_Log_judge_at Z.c_Log hr (by decide) (pv 0) (pa_cons (pv 6) pa_nil)) (pv 5) (nomark _)))))) (fun _ _ _ _ _ => (pv 6))))))), ?_⟩
    refine q_asgG e (ev_tup (ea_cons (ev_minT (ev_var rk)) (ea_one (ev_maxT (ev_var rk))))) fun vt G A s1 rt => ?_
    obtain ⟨v1, v2, r1, r2, hb⟩ := bnd_pair (K := K) (i := 3) (j := 4) rt
    refine ⟨_, hb, ?_⟩
    refine q_asg s1.b (ev_meth (as := [pN (min k1 k2)]) (l, min k1 k2) (ev_var ((pLog CL l).mono s1.a rl)) (log_ins rfl) (ea_one (ev_var r1)) rfl hmin) fun vj G2 A2 s2 rj => ?_
    have s12 := s1.trans s2
    refine s_ret s12.b ?_ (q.go s12)
    refine Ev.imp (ev_lc (as := ps) (f := pN) (h := pN) (t := fun p => (decide (min k1 k2 < p) && decide (p ≤ max k1 k2)) && decide (l.evJ p = l.evJ (min k1 k2))) (ei_list (ev_var ((pNs ps).mono s12.a rp))) (by omega) fun p v G3 hpm eG rv => ⟨_, bnd_name, rfl, et_and ((et_test (ev_chain (i := (min k1 k2 : Nat)) (j := (p : Int)) (m := (max k1 k2 : Nat)) (ev_var (R := pN (min k1 k2)) (v := v1) ((pN _).mono eG ((pN _).mono s2.a r1))) (ev_var rv) (ev_var (R := pN (max k1 k2)) (v := v2) ((pN _).mono eG ((pN _).mono s2.a r2))))).eq ?_) fun _ => (et_test (ev_eq (x := .str (l.evJ p)) (y := .str (l.evJ (min k1 k2))) (ev_meth (as := [pN p]) (l, p) (ev_var ((pLog CL l).mono eG ((pLog CL l).mono s12.a rl))) (log_ins rfl) (ea_one (ev_var rv)) rfl (hps p hpm)) (ev_var ((pS _).mono eG rj)) rfl)).eq ?_, fun _ => ev_var rv⟩) fun H' v _ r => r
    · congr 1 <;> simp
    · simp
abbrev s_later_places : Stmt := topS 40
theorem sc_later_places : FnScope ["log", "judge", "stretch", "place"] ["log", "judge"] (defScope s_later_places) := ⟨rfl, rfl, rfl, by decide +kernel, rfl, by decide +kernel, by decide +kernel⟩
abbrev n_later_places : List Str := ["log", "judge", "stretch", "place"]
abbrev F_later_places (P : Program) (w : World) (K : PySem.W.Frag) (mg : Str → Option Value) (base : Heap) (CL : Addr) : Prop := Fn P w K mg base 7 "later_places" ["log", "judge"] (spN (fun a : LogD × Str => [pLog CL a.1, pS a.2]) (fun a => a.1.Ok ∧ a.2 ∈ a.1.names ∧ ((a.1.stretches a.2).flatMap id).length ≤ 100000) fun a => pNs (a.1.laterPlaces a.2))
theorem w_later_places (Z : Bz K mg CL CC) (D : Df K mg "later_places" s_later_places [] []) (m_Log_stretches : M_stretches P w K mg base CL) : F_later_places P w K mg base CL :=
  fn_mk (k := 6) D sc_later_places (fun _ => rfl) (bnd2 fun _ _ _ _ _ _ _ _ => rfl) fun f cdv A outer s H1 vs Q X a H hr e hp h q => by
    have sc := sc_later_places
    obtain ⟨l, j⟩ := a
    obtain ⟨vl, vj, rfl, rl, rj⟩ := all2 h
    obtain ⟨hl, hj, hz⟩ := hp
    refine ⟨_, (pss_one (ps_ret (pe_lc2 (own := [("stretch", 2), ("place", 3)]) (vs1 := [3]) (g := (gName 2)) (g1 := (gName 3)) rfl sc.nd (piList K (pe_me m_Log_stretches Z.c_Log hr (by decide) (pv 0) (pa_cons (pv 1) pa_nil))) (blkOk_by (N := n_later_places) (sc := defScope s_later_places) (by decide +kernel)) (by decide) (fun _ _ _ _ _ => (pg_name (i := 2) sc.nd rfl (by first | exact Or.inl rfl | exact Or.inr rfl))) (fun _ _ _ _ _ => pts_nil) (fun _ _ _ _ _ => (piList K (pe_slice (slList K) (pv 2) (po_some pe_int) po_none))) (fun _ _ _ _ _ => (pg_name (i := 3) sc.nd rfl (by first | exact Or.inl rfl | exact Or.inr rfl))) (fun _ _ _ _ _ => pts_nil) (fun _ _ _ _ _ => (pv 3))))), ?_⟩
    refine s_ret e ?_ q
    refine Ev.imp (ev_lc2 (as := l.stretches j) (bs := fun r => r.drop 1) (f := pNs) (f1 := fun _ => pN) (h := fun _ => pN) (t := fun _ => true) (t1 := fun _ _ => true) (ei_list (ev_meth (as := [pS j]) (l, j) (ev_var rl) (log_ins rfl) (ea_one (ev_var rj)) rfl ⟨hl, hj⟩)) ?_
      fun r v G hr eG rv => ⟨_, bnd_name, rfl, et_yes, fun _ => ⟨?_, fun p u G2 hp eG2 ru => ⟨_, bnd_name, rfl, et_yes, fun _ => ev_var ru⟩⟩⟩) fun H' v _ r => ?_
    · refine Nat.le_trans ?_ hz
      generalize l.stretches j = rs
      induction rs with
      | nil => exact Nat.le_refl _
      | cons r rs ih =>
        rw [List.flatMap_cons, List.flatMap_cons, List.length_append, List.length_append, List.length_drop]
        show _ ≤ r.length + _
        omega
    · rw [List.map_drop]
      exact ei_list (ev_from (n := 1) (ev_var rv) ev_c)
    · have e1 : (((l.stretches j).filter fun _ => true).flatMap fun a => (((a.drop 1).filter fun _ => true).map pN)) = (l.laterPlaces j).map pN := by
        rw [List.filter_eq_self.mpr (fun _ _ => rfl)]
        unfold LogD.laterPlaces
        rw [List.map_flatMap]
        congr 1
        funext a
        rw [List.filter_eq_self.mpr (fun _ _ => rfl)]
      rw [e1] at r
      exact r
abbrev s_names_of : Stmt := topS 49
theorem sc_names_of : FnScope ["log", "judge", "_"] ["log"] (defScope s_names_of) := ⟨rfl, rfl, rfl, by decide +kernel, rfl, by decide +kernel, by decide +kernel⟩
abbrev n_names_of : List Str := ["log", "judge", "_"]
abbrev F_names_of (P : Program) (w : World) (K : PySem.W.Frag) (mg : Str → Option Value) (base : Heap) (CL : Addr) : Prop := Fn P w K mg base 3 "names_of" ["log"] (spN (fun l : LogD => [pLog CL l]) (fun l => l.Ok) fun l => pL (l.names.map pS))
theorem w_names_of (Z : Bz K mg CL CC) (D : Df K mg "names_of" s_names_of [] []) (p_Log_judges : P_judges P w K mg base CL) : F_names_of P w K mg base CL :=
  fn_mk (k := 2) D sc_names_of (fun _ => rfl) (bnd1 fun _ _ _ _ _ _ _ => rfl) fun f cdv A outer s H1 vs Q X l H hr e hp h q => by
    have sc := sc_names_of
    obtain ⟨vl, rfl, rl⟩ := all1 h
    have hl : l.Ok := hp
    refine ⟨_, (pss_one (ps_ret (pe_lc (own := [("judge", 1), ("_", 2)]) (g := (gTup K 2 (gCons (gName 1) (gCons (gName 2) gNil)))) rfl sc.nd (piList K (pe_pp p_Log_judges Z.c_Log hr (by decide) (pv 0) rfl)) (blkOk_by (N := n_names_of) (sc := defScope s_names_of) (by decide +kernel)) (fun _ _ _ _ _ => (pgTup K rfl (pgs_cons (pg_name (i := 1) sc.nd rfl (by first | exact Or.inl rfl | exact Or.inr rfl)) (pgs_cons (pg_name (i := 2) sc.nd rfl (by first | exact Or.inl rfl | exact Or.inr rfl)) pgs_nil)))) (fun _ _ _ _ _ => pts_nil) (fun _ _ _ _ _ => (pv 1))))), ?_⟩
    refine s_ret e ?_ q
    refine Ev.imp (ev_lcA (as := l.judges) (f := pJ) (h := fun j => pS j.1) (ei_list (ev_prop l (ev_var rl) log_prop rfl True.intro)) ?_ fun j v G hj eG rv => ?_) fun H' v _ r => ?_
    · have := hl.names.hi
      have h1 : l.names.length = l.judges.length := List.length_map ..
      omega
    · obtain ⟨a, b, ra, rb, hb⟩ := bnd_pair (K := K) (i := 1) (j := 2) rv
      exact ⟨_, hb, rfl, ev_var ra⟩
    · show (pL ((l.judges.map Prod.fst).map pS)).p H' v
      rw [List.map_map]
      exact r
abbrev s_move_places : Stmt := topS 41
theorem sc_move_places : FnScope ["log", "judge", "drift", "place"] ["log"] (defScope s_move_places) := ⟨rfl, rfl, rfl, by decide +kernel, rfl, by decide +kernel, by decide +kernel⟩
abbrev n_move_places : List Str := ["log", "judge", "drift", "place"]
abbrev F_move_places (P : Program) (w : World) (K : PySem.W.Frag) (mg : Str → Option Value) (base : Heap) (CL : Addr) : Prop := Fn P w K mg base 8 "move_places" ["log"] (spN (fun l : LogD => [pLog CL l]) (fun l => l.Ok ∧ (∀ j ∈ l.names, ((l.stretches j).flatMap id).length ≤ 150)) fun l => pNs l.movePlaces)
theorem later_len {l : LogD} {j : Str} {n : Nat} (h : ((l.stretches j).flatMap id).length ≤ n) : (l.laterPlaces j).length ≤ n := by
  refine Nat.le_trans ?_ h
  unfold LogD.laterPlaces
  generalize l.stretches j = rs
  induction rs with
  | nil => exact Nat.le_refl _
  | cons r rs ih =>
    rw [List.flatMap_cons, List.flatMap_cons, List.length_append, List.length_append, List.length_drop]
    show _ ≤ r.length + _
    omega
theorem flat_le {α β : Type} {f : α → List β} {n : Nat} : ∀ {as : List α}, (∀ a ∈ as, (f a).length ≤ n) → (as.flatMap f).length ≤ as.length * n
  | [], _ => by simp
  | a :: as, h => by
    rw [List.flatMap_cons, List.length_append, List.length_cons, Nat.succ_mul]
    have h1 := h a List.mem_cons_self
    have h2 := flat_le (f := f) (n := n) fun x hx => h x (List.mem_cons_of_mem (a := x) a hx)
    omega
theorem w_move_places (Z : Bz K mg CL CC) (D : Df K mg "move_places" s_move_places [] []) (p_Log_judges : P_judges P w K mg base CL) (f_later_places : F_later_places P w K mg base CL) : F_move_places P w K mg base CL :=
  fn_mk (k := 7) D sc_move_places (fun _ => rfl) (bnd1 fun _ _ _ _ _ _ _ => rfl) fun f cdv A outer s H1 vs Q X l H hr e hp h q => by
    have sc := sc_move_places
    obtain ⟨vl, rfl, rl⟩ := all1 h
    obtain ⟨hl, hz⟩ := hp
    refine ⟨_, (pss_one (ps_ret (pe_callB (crSortedI K) (by rfl) Z.sorted (by decide +kernel) (pa_cons (pe_lc2 (own := [("judge", 1), ("drift", 2), ("place", 3)]) (vs1 := [3]) (g := (gTup K 2 (gCons (gName 1) (gCons (gName 2) gNil)))) (g1 := (gName 3)) rfl sc.nd (piList K (pe_pp p_Log_judges Z.c_Log hr (by decide) (pv 0) rfl)) (blkOk_by (N := n_move_places) (sc := defScope s_move_places) (by decide +kernel)) (by decide) (fun _ _ _ _ _ => (pgTup K rfl (pgs_cons (pg_name (i := 1) sc.nd rfl (by first | exact Or.inl rfl | exact Or.inr rfl)) (pgs_cons (pg_name (i := 2) sc.nd rfl (by first | exact Or.inl rfl | exact Or.inr rfl)) pgs_nil)))) (fun _ _ _ _ _ => pts_one (pt_cmpR op_ne (pv 2) (pe_gs rfl Z.STAYS) (nomark _))) (fun _ _ _ _ _ => (piList K (pe_fn f_later_places hr (by decide) (by rfl) (pa_cons (pv 0) (pa_cons (pv 1) pa_nil))))) (fun _ _ _ _ _ => (pg_name (i := 3) sc.nd rfl (by first | exact Or.inl rfl | exact Or.inr rfl))) (fun _ _ _ _ _ => pts_nil) (fun _ _ _ _ _ => (pv 3))) pa_nil)))), ?_⟩
    refine s_ret e ?_ q
    refine ev_sortedN (Ev.imp (ev_lc2 (as := l.judges) (bs := fun d => l.laterPlaces d.1) (f := pJ) (f1 := fun _ => pN) (h := fun _ => pN) (t := fun d => !decide (d.2 = ("stays" : Str))) (t1 := fun _ _ => true) (ei_list (ev_prop l (ev_var rl) log_prop rfl True.intro)) ?_ fun d v G hd eG rv => ?_) fun H' v _ r => ?_)
    · have h1 : l.judges.length ≤ 8 := by
        have := hl.names.hi
        have h1 : l.names.length = l.judges.length := List.length_map ..
        omega
      have h2 := flat_le (f := fun d => l.laterPlaces d.1) (n := 150) (as := l.judges) fun d hd => later_len (hz d.1 (List.mem_map.mpr ⟨d, hd, rfl⟩))
      have h3 : l.judges.length * 150 ≤ 8 * 150 := Nat.mul_le_mul_right _ h1
      omega
    · obtain ⟨a, b, ra, rb, hb⟩ := bnd_pair (K := K) (i := 1) (j := 2) rv
      have hdn : d.1 ∈ l.names := List.mem_map.mpr ⟨d, hd, rfl⟩
      refine ⟨_, hb, rfl, (et_test (ev_ne (ev_var rb) ev_c rfl)).eq ?_, fun _ => ⟨ei_list (ev_call (l, d.1) (ea_cons (ev_var ((pLog CL l).mono eG rl)) (ea_one (ev_var ra))) ⟨hl, hdn, Nat.le_trans (hz _ hdn) (by decide)⟩), fun p u G2 hp eG2 ru => ⟨_, bnd_name, rfl, et_yes, fun _ => ev_var ru⟩⟩⟩
      simp
    · have e1 : ((l.judges.filter fun d => !decide (d.2 = ("stays" : Str))).flatMap fun a => (((l.laterPlaces a.1).filter fun _ => true).map pN)) = (((l.judges.filter fun d => !decide (d.2 = ("stays" : Str))).flatMap fun d => l.laterPlaces d.1)).map pN := by
        rw [List.map_flatMap]
        congr 1
        funext a
        rw [List.filter_eq_self.mpr (fun _ _ => rfl)]
      rw [e1] at r
      exact r
abbrev s_reset_places : Stmt := topS 50
theorem sc_reset_places : FnScope ["log", "judge", "place"] ["log"] (defScope s_reset_places) := ⟨rfl, rfl, rfl, by decide +kernel, rfl, by decide +kernel, by decide +kernel⟩
abbrev n_reset_places : List Str := ["log", "judge", "place"]
abbrev F_reset_places (P : Program) (w : World) (K : PySem.W.Frag) (mg : Str → Option Value) (base : Heap) (CL : Addr) : Prop := Fn P w K mg base 8 "reset_places" ["log"] (spN (fun l : LogD => [pLog CL l]) (fun l => l.Ok ∧ (∀ j ∈ l.names, ((l.stretches j).flatMap id).length ≤ 150)) fun l => pNs l.resetPlaces)
theorem w_reset_places (Z : Bz K mg CL CC) (D : Df K mg "reset_places" s_reset_places [] []) (f_names_of : F_names_of P w K mg base CL) (f_later_places : F_later_places P w K mg base CL) : F_reset_places P w K mg base CL :=
  fn_mk (k := 7) D sc_reset_places (fun _ => rfl) (bnd1 fun _ _ _ _ _ _ _ => rfl) fun f cdv A outer s H1 vs Q X l H hr e hp h q => by
    have sc := sc_reset_places
    obtain ⟨vl, rfl, rl⟩ := all1 h
    obtain ⟨hl, hz⟩ := hp
    refine ⟨_, (pss_one (ps_ret (pe_callB (crSortedI K) (by rfl) Z.sorted (by decide +kernel) (pa_cons (pe_lc2 (own := [("judge", 1), ("place", 2)]) (vs1 := [2]) (g := (gName 1)) (g1 := (gName 2)) rfl sc.nd (piList K (pe_fn f_names_of hr (by decide) (by rfl) (pa_cons (pv 0) pa_nil))) (blkOk_by (N := n_reset_places) (sc := defScope s_reset_places) (by decide +kernel)) (by decide) (fun _ _ _ _ _ => (pg_name (i := 1) sc.nd rfl (by first | exact Or.inl rfl | exact Or.inr rfl))) (fun _ _ _ _ _ => pts_nil) (fun _ _ _ _ _ => (piList K (pe_fn f_later_places hr (by decide) (by rfl) (pa_cons (pv 0) (pa_cons (pv 1) pa_nil))))) (fun _ _ _ _ _ => (pg_name (i := 2) sc.nd rfl (by first | exact Or.inl rfl | exact Or.inr rfl))) (fun _ _ _ _ _ => pts_nil) (fun _ _ _ _ _ => (pv 2))) pa_nil)))), ?_⟩
    refine s_ret e ?_ q
    refine ev_sortedN (Ev.imp (ev_lc2 (as := l.names) (bs := l.laterPlaces) (f := pS) (f1 := fun _ => pN) (h := fun _ => pN) (t := fun _ => true) (t1 := fun _ _ => true) (ei_list (ev_call l (ea_one (ev_var rl)) hl)) ?_ fun d v G hd eG rv => ?_) fun H' v _ r => ?_)
    · have h1 := hl.names.hi
      have h2 := flat_le (f := l.laterPlaces) (n := 150) (as := l.names) fun d hd => later_len (hz d hd)
      have h3 : l.names.length * 150 ≤ 8 * 150 := Nat.mul_le_mul_right _ h1
      omega
    · exact ⟨_, bnd_name, rfl, et_yes, fun _ => ⟨ei_list (ev_call (l, d) (ea_cons (ev_var ((pLog CL l).mono eG rl)) (ea_one (ev_var rv))) ⟨hl, hd, Nat.le_trans (hz _ hd) (by decide)⟩), fun p u G2 hp eG2 ru => ⟨_, bnd_name, rfl, et_yes, fun _ => ev_var ru⟩⟩⟩
    · have e1 : ((l.names.filter fun _ => true).flatMap fun a => (((l.laterPlaces a).filter fun _ => true).map pN)) = (l.names.flatMap l.laterPlaces).map pN := by
        rw [List.map_flatMap, List.filter_eq_self.mpr (fun _ _ => rfl)]
        congr 1
        funext a
        rw [List.filter_eq_self.mpr (fun _ _ => rfl)]
      rw [e1] at r
      exact r
abbrev s_check_drifting : Stmt := topS 44
theorem sc_check_drifting : FnScope ["log", "judge"] ["log", "judge"] (defScope s_check_drifting) := ⟨rfl, rfl, rfl, by decide +kernel, rfl, by decide +kernel, by decide +kernel⟩
abbrev n_check_drifting : List Str := ["log", "judge"]
abbrev F_check_drifting (P : Program) (w : World) (K : PySem.W.Frag) (mg : Str → Option Value) (base : Heap) (CL : Addr) : Prop := Fn P w K mg base 3 "check_drifting" ["log", "judge"] (spN (fun a : LogD × Str => [pLog CL a.1, pS a.2]) (fun a => a.2 ∈ a.1.names ∧ a.1.driftOf a.2 ≠ ("stays" : Str) ∧ a.1.grades = 1) fun _ => pNo)
theorem w_check_drifting (Z : Bz K mg CL CC) (D : Df K mg "check_drifting" s_check_drifting [] []) (m_Log_drift_of : M_drift_of P w K mg base CL) (p_Log_grades : P_grades P w K mg base CL) : F_check_drifting P w K mg base CL :=
  fn_mk (k := 2) D sc_check_drifting (fun _ => rfl) (bnd2 fun _ _ _ _ _ _ _ _ => rfl) fun f cdv A outer s H1 vs Q X a H hr e hp h q => by
    have sc := sc_check_drifting
    obtain ⟨l, j⟩ := a
    obtain ⟨vl, vj, rfl, rl, rj⟩ := all2 h
    obtain ⟨hj, hd, hg⟩ := hp
    refine ⟨_, (pss_cons (ps_if (pt_cmpR op_eq (pe_me m_Log_drift_of Z.c_Log hr (by decide) (pv 0) (pa_cons (pv 1) pa_nil)) (pe_gs rfl Z.STAYS) (nomark _)) pss_never pss_nil)
    (pss_one (ps_if (pt_cmpR op_ne (pe_pp p_Log_grades Z.c_Log hr (by decide) (pv 0) rfl) pe_int (nomark _)) pss_never pss_nil))), ?_⟩
    refine q_ifN e ((et_test (ev_eq (x := .str (l.driftOf j)) (y := .str "stays") (ev_meth (as := [pS j]) (l, j) (ev_var rl) (log_ins rfl) (ea_one (ev_var rj)) rfl hj) ev_c rfl)).eq ?_) fun A1 e1 => ?_
    · exact decide_eq_false fun z => hd (by injection z)
    refine s_ifN (e.trans e1) ((et_test (ev_ne (x := .int (l.grades : Int)) (y := .int 1) (ev_prop l (ev_var rl) log_prop rfl True.intro) ev_c rfl)).eq ?_) fun A2 e2 => q.val ((Sep.refl e).ext (e1.trans e2))
    rw [hg]
    rfl
abbrev s_held_at : Stmt := topS 45
theorem sc_held_at : FnScope ["log", "case", "ring", "answers", "link", "place"] ["log", "case", "ring"] (defScope s_held_at) := ⟨rfl, rfl, rfl, by decide +kernel, rfl, by decide +kernel, by decide +kernel⟩
abbrev n_held_at : List Str := ["log", "case", "ring", "answers", "link", "place"]
abbrev F_held_at (P : Program) (w : World) (K : PySem.W.Frag) (mg : Str → Option Value) (base : Heap) (CL CC : Addr) : Prop := Fn P w K mg base 5 "held_at" ["log", "case", "ring"] (spN (fun a : LogD × CaseD × List (Nat × Nat) => [pLog CL a.1, pCase CC a.2.1, pLks a.2.2]) (fun a => a.1.Ok ∧ a.2.1.Ok ∧ a.2.2.length ≤ 500 ∧ (∀ k ∈ a.2.2, k.1 ∈ a.2.1.ps ∧ k.2 ∈ a.2.1.ps ∧ a.1.isAns k.1 = true ∧ a.1.isAns k.2 = true)) fun a => pNs (a.1.heldAt a.2.1 a.2.2))
theorem w_held_at (Z : Bz K mg CL CC) (D : Df K mg "held_at" s_held_at [] []) (m_Log_answers : M_answers P w K mg base CL) (m_Case_in_order : M_in_order P w K mg base CC) (f_between : F_between P w K mg base CL) : F_held_at P w K mg base CL CC :=
  fn_mk (k := 4) D sc_held_at (fun _ => rfl) (bnd3 fun _ _ _ _ _ _ _ _ _ => rfl) fun f cdv A outer s H1 vs Q X a H hr e hp h q => by
    have sc := sc_held_at
    obtain ⟨l, c, ring⟩ := a
    obtain ⟨vl, vc, vr, rfl, rl, rc, rr⟩ := all3 h
    obtain ⟨hl, hc, hz, hk⟩ := hp
    have hal : l.answers.length ≤ 120 := Nat.le_trans l.answers_len hl.few
    refine ⟨_, (pss_cons (ps_set (i := 3) sc.nd rfl (Or.inr rfl) (pe_me0 m_Log_answers Z.c_Log hr (by decide) (pv 0)))
    (pss_one (ps_ret (pe_lc2 (own := [("link", 4), ("place", 5)]) (vs1 := [5]) (g := (gName 4)) (g1 := (gName 5)) rfl sc.nd (piList K (pv 2)) (blkOk_by (N := n_held_at) (sc := defScope s_held_at) (by decide +kernel)) (by decide) (fun _ _ _ _ _ => (pg_name (i := 4) sc.nd rfl (by first | exact Or.inl rfl | exact Or.inr rfl))) (fun _ _ _ _ _ => pts_one (pt_not (pt_val (pe_me m_Case_in_order Z.c_Case hr (by decide) (pv 1) (pa_cons (pe_ix (ixT K) (pv 4) pe_int (fun _ _ => rfl)) (pa_cons (pe_ix (ixT K) (pv 4) pe_int (fun _ _ => rfl)) pa_nil)))))) (fun _ _ _ _ _ => (piList K (pe_fn f_between hr (by decide) (by rfl) (pa_cons (pv 0) (pa_cons (pv 3) (pa_cons (pv 4) pa_nil)))))) (fun _ _ _ _ _ => (pg_name (i := 5) sc.nd rfl (by first | exact Or.inl rfl | exact Or.inr rfl))) (fun _ _ _ _ _ => pts_nil) (fun _ _ _ _ _ => (pv 5)))))), ?_⟩
    refine q_asg e (ev_meth (as := []) l (ev_var rl) (log_ins rfl) ea_nil rfl hl.few) fun va G A s1 ra => ?_
    refine s_ret s1.b ?_ (q.go s1)
    refine Ev.imp (ev_lc2 (as := ring) (bs := fun k => l.between l.answers k) (f := pLk) (f1 := fun _ => pN) (h := fun _ => pN) (t := fun k => !c.inOrder k.1 k.2) (t1 := fun _ _ => true) (ei_list (ev_var ((pLks ring).mono s1.a rr))) ?_ fun k v G2 hkm eG rv => ?_) fun H' v _ r => ?_
    · have h2 := flat_le (f := fun k => l.between l.answers k) (n := 120) (as := ring) fun k _ => Nat.le_trans (List.length_filter_le _ _) hal
      have h3 : ring.length * 120 ≤ 500 * 120 := Nat.mul_le_mul_right _ hz
      omega
    · obtain ⟨h1, h2, h3, h4⟩ := hk k hkm
      have rv : (pT [pN k.1, pN k.2]).p G2 v := rv
      exact ⟨_, bnd_name, rfl, et_not (et_B (ev_meth (as := [pN k.1, pN k.2]) (c, k.1, k.2) (ev_var ((pCase CC c).mono (s1.a.trans eG) rc)) (case_ins rfl) (ea_cons (ev_ixT' (n := 0) (ev_var rv) rfl rfl) (ea_one (ev_ixT' (n := 1) (ev_var rv) rfl rfl))) rfl ⟨hc, h1, h2⟩)), fun _ => ⟨ei_list (ev_call (l, l.answers, k) (ea_cons (ev_var ((pLog CL l).mono (s1.a.trans eG) rl)) (ea_cons (ev_var ((pNs _).mono eG ra)) (ea_one (ev_var rv)))) ⟨by show l.answers.length ≤ 1000; omega, fun p hp => LogD.mem_answers.mp hp, h3, h4⟩), fun p u G3 hp eG3 ru => ⟨_, bnd_name, rfl, et_yes, fun _ => ev_var ru⟩⟩⟩
    · have e1 : ((ring.filter fun k => !c.inOrder k.1 k.2).flatMap fun k => (((l.between l.answers k).filter fun _ => true).map pN)) = (l.heldAt c ring).map pN := by
        unfold LogD.heldAt
        rw [List.map_flatMap]
        congr 1
        funext a
        rw [List.filter_eq_self.mpr (fun _ _ => rfl)]
      rw [e1] at r
      exact r
end
end Rb
set_option Elab.async false
set_option linter.all false
set_option maxRecDepth 100000
/-! Lists of places, least lists: plain. -/
namespace Rb
open PySem PySem.Spec PyProof.Rows L2
def okNext (row : List Nat) (p : Nat) : Bool := row.isEmpty || decide (row.getLastD 0 < p)
def extRows (ps : List Nat) (rows : List (List Nat)) : List (List Nat) := rows.flatMap fun row => (ps.filter (okNext row)).map fun p => row ++ [p]
def listsOf (ps : List Nat) : Nat → List (List Nat)
  | 0 => [[]]
  | n + 1 => extRows ps (listsOf ps n)
abbrev Asc (xs : List Nat) : Prop := xs.Pairwise (· < ·)
theorem okNext_snoc (row : List Nat) (c p : Nat) : okNext (row ++ [c]) p = decide (c < p) := by
  unfold okNext
  simp
theorem listsOf_len1 {ps : List Nat} : ∀ {n : Nat} {row : List Nat}, row ∈ listsOf ps n → row.length = n
  | 0, row, h => by
    have h : row = [] := by simpa [listsOf] using h
    rw [h]
    rfl
  | n + 1, row, h => by
    obtain ⟨r, hr, h2⟩ := List.mem_flatMap.mp (show row ∈ extRows ps (listsOf ps n) from h)
    obtain ⟨p, hp, rfl⟩ := List.mem_map.mp h2
    rw [List.length_append, listsOf_len1 hr]
    rfl
/-- rows are rising lists of the places -/
theorem listsOf_asc {ps : List Nat} : ∀ {n : Nat} {row : List Nat}, row ∈ listsOf ps n → Asc row ∧ ∀ p ∈ row, p ∈ ps
  | 0, row, h => by
    have h : row = [] := by simpa [listsOf] using h
    rw [h]
    exact ⟨.nil, fun p hp => by cases hp⟩
  | n + 1, row, h => by
    obtain ⟨r, hr, h2⟩ := List.mem_flatMap.mp (show row ∈ extRows ps (listsOf ps n) from h)
    obtain ⟨p, hp, rfl⟩ := List.mem_map.mp h2
    obtain ⟨h3, h4⟩ := listsOf_asc hr
    obtain ⟨hp1, hp2⟩ := List.mem_filter.mp hp
    refine ⟨List.pairwise_append.mpr ⟨h3, List.pairwise_singleton _ _, fun a ha b hb => ?_⟩, fun q hq => ?_⟩
    · have hb : b = p := by simpa using hb
      subst hb
      unfold okNext at hp2
      rcases List.eq_nil_or_concat r with e | ⟨ys, z, e⟩
      · rw [e] at ha
        cases ha
      · rw [List.concat_eq_append] at e
        subst e
        have hzb : z < b := by simpa using hp2
        rcases List.mem_append.mp ha with q | q
        · have := (List.pairwise_append.mp h3).2.2 a q z (by simp)
          omega
        · have : a = z := by simpa using q
          omega
    · rcases List.mem_append.mp hq with z | z
      · exact h4 q z
      · have : q = p := by simpa using z
        rw [this]
        exact hp1
/-- .. and all of them -/
theorem listsOf_all {ps : List Nat} {row : List Nat} : Asc row → (∀ p ∈ row, p ∈ ps) → row ∈ listsOf ps row.length := by
  refine snoc_ind (P := fun row => Asc row → (∀ p ∈ row, p ∈ ps) → row ∈ listsOf ps row.length) (fun _ _ => by simp [listsOf]) (fun xs x ih h1 h2 => ?_) row
  obtain ⟨h3, _, h4⟩ := List.pairwise_append.mp h1
  rw [List.length_append]
  show _ ∈ extRows ps (listsOf ps xs.length)
  refine List.mem_flatMap.mpr ⟨xs, ih h3 fun p hp => h2 p (List.mem_append_left _ hp), List.mem_map.mpr ⟨x, List.mem_filter.mpr ⟨h2 x (by simp), ?_⟩, rfl⟩⟩
  unfold okNext
  rcases List.eq_nil_or_concat xs with e | ⟨ys, z, e⟩
  · rw [e]
    rfl
  · rw [List.concat_eq_append] at e
    subst e
    have := h4 z (by simp) x (by simp)
    simpa using this
/-! ### how many -/
theorem sum_asc : ∀ cs : List Nat, Asc cs → (cs.map fun c => 2 ^ (cs.filter fun p => decide (c < p)).length).sum + 1 ≤ 2 ^ cs.length
  | [], _ => by simp
  | c :: cs, h => by
    obtain ⟨h1, h2⟩ := List.pairwise_cons.mp h
    have ih := sum_asc cs h2
    have e1 : ((c :: cs).filter fun p => decide (c < p)) = cs := by
      rw [List.filter_cons, if_neg (by simp)]
      exact List.filter_eq_self.mpr fun a ha => decide_eq_true (h1 a ha)
    have e2 : (cs.map fun d => 2 ^ ((c :: cs).filter fun p => decide (d < p)).length) = cs.map fun d => 2 ^ (cs.filter fun p => decide (d < p)).length := by
      refine List.map_congr_left fun d hd => ?_
      have := h1 d hd
      rw [List.filter_cons, if_neg (by simp; omega)]
    rw [List.map_cons, List.sum_cons, e1, e2, List.length_cons, Nat.pow_succ]
    omega
def rowW (ps : List Nat) (row : List Nat) : Nat := 2 ^ (ps.filter (okNext row)).length
theorem ext_weight {ps : List Nat} (h : Asc ps) : ∀ rows : List (List Nat), ((extRows ps rows).map (rowW ps)).sum ≤ (rows.map (rowW ps)).sum
  | [] => by simp [extRows]
  | row :: rows => by
    have ih := ext_weight h rows
    have e1 : extRows ps (row :: rows) = ((ps.filter (okNext row)).map fun p => row ++ [p]) ++ extRows ps rows := by
      unfold extRows
      rw [List.flatMap_cons]
    have hcs : Asc (ps.filter (okNext row)) := h.filter _
    have hs := sum_asc _ hcs
    have e2 : ((ps.filter (okNext row)).map fun p => row ++ [p]).map (rowW ps) = (ps.filter (okNext row)).map fun c => 2 ^ ((ps.filter (okNext row)).filter fun p => decide (c < p)).length := by
      rw [List.map_map]
      refine List.map_congr_left fun c hc => ?_
      show 2 ^ (ps.filter (okNext (row ++ [c]))).length = _
      congr 2
      rw [List.filter_filter]
      refine List.filter_congr fun p hp => ?_
      rw [okNext_snoc]
      have hc2 := (List.mem_filter.mp hc).2
      by_cases hcp : c < p
      · have : okNext row p = true := by
          unfold okNext at hc2 ⊢
          rw [Bool.or_eq_true] at hc2 ⊢
          rcases hc2 with z | z
          · exact .inl z
          · have := of_decide_eq_true z
            exact .inr (decide_eq_true (by omega))
        simp [hcp, this]
      · simp [hcp]
    rw [e1, List.map_append, List.sum_append, List.map_cons, List.sum_cons, e2]
    show _ ≤ 2 ^ _ + _
    omega
theorem len_weight {ps : List Nat} : ∀ rows : List (List Nat), rows.length ≤ (rows.map (rowW ps)).sum
  | [] => by simp
  | row :: rows => by
    have := len_weight (ps := ps) rows
    have h1 : 1 ≤ rowW ps row := Nat.one_le_two_pow
    rw [List.length_cons, List.map_cons, List.sum_cons]
    omega
theorem listsOf_weight {ps : List Nat} (h : Asc ps) : ∀ n, ((listsOf ps n).map (rowW ps)).sum ≤ 2 ^ ps.length
  | 0 => by
    show ([[]].map (rowW ps)).sum ≤ _
    have e1 : ps.filter (okNext []) = ps := List.filter_eq_self.mpr fun _ _ => rfl
    simp [rowW, e1]
  | n + 1 => Nat.le_trans (ext_weight h _) (listsOf_weight h n)
theorem listsOf_len {ps : List Nat} (h : Asc ps) (hz : ps.length ≤ 10) (n : Nat) : (listsOf ps n).length ≤ 1024 :=
  Nat.le_trans (len_weight _) (Nat.le_trans (listsOf_weight h n) (Nat.le_trans (Nat.pow_le_pow_right (by decide) hz) (by decide)))
/-! ### least lists -/
def hasLess (found : List (List Nat)) (row : List Nat) : Bool := found.any fun less => less.all fun p => decide (p ∈ row)
def leastStep (E : List Nat → Bool) (found : List (List Nat)) (row : List Nat) : List (List Nat) := if (!hasLess found row && E row) = true then found ++ [row] else found
def leastTo (ps : List Nat) (E : List Nat → Bool) (n : Nat) : List (List Nat) := (List.range n).foldl (fun f m => (listsOf ps m).foldl (leastStep E) f) []
def leastLists (ps : List Nat) (E : List Nat → Bool) : List (List Nat) := leastTo ps E (ps.length + 1)
theorem leastTo_succ (ps : List Nat) (E : List Nat → Bool) (n : Nat) : leastTo ps E (n + 1) = (listsOf ps n).foldl (leastStep E) (leastTo ps E n) := by
  unfold leastTo
  rw [List.range_succ, List.foldl_append]
  rfl
theorem fold_step_mem {E : List Nat → Bool} : ∀ (rows found : List (List Nat)) {r : List Nat}, r ∈ rows.foldl (leastStep E) found → r ∈ found ∨ (r ∈ rows ∧ E r = true)
  | [], found, r, h => .inl h
  | row :: rows, found, r, h => by
    rcases fold_step_mem rows (leastStep E found row) h with z | ⟨z1, z2⟩
    · unfold leastStep at z
      split at z
      · rename_i q
        rcases List.mem_append.mp z with z | z
        · exact .inl z
        · have z : r = row := by simpa using z
          rw [Bool.and_eq_true] at q
          exact .inr ⟨by rw [z]; exact List.mem_cons_self, by rw [z]; exact q.2⟩
      · exact .inl z
    · exact .inr ⟨List.mem_cons_of_mem _ z1, z2⟩
theorem fold_step_len {E : List Nat → Bool} : ∀ (rows found : List (List Nat)), (rows.foldl (leastStep E) found).length ≤ found.length + rows.length
  | [], found => Nat.le_refl _
  | row :: rows, found => by
    have h1 := fold_step_len (E := E) rows (leastStep E found row)
    have h2 : (leastStep E found row).length ≤ found.length + 1 := by
      unfold leastStep
      split
      · simp
      · omega
    rw [List.foldl_cons, List.length_cons]
    omega
theorem fold_step_keep {E : List Nat → Bool} : ∀ (rows found : List (List Nat)) {r : List Nat}, r ∈ found → r ∈ rows.foldl (leastStep E) found
  | [], found, r, h => h
  | row :: rows, found, r, h => fold_step_keep rows _ (by
      unfold leastStep
      split
      · exact List.mem_append_left _ h
      · exact h)
theorem leastTo_len {ps : List Nat} (h : Asc ps) (hz : ps.length ≤ 10) (E : List Nat → Bool) : ∀ n, (leastTo ps E n).length ≤ n * 1024
  | 0 => by simp [leastTo]
  | n + 1 => by
    have h1 := leastTo_len h hz E n
    have h2 := fold_step_len (E := E) (listsOf ps n) (leastTo ps E n)
    have h3 := listsOf_len h hz n
    rw [leastTo_succ]
    omega
theorem leastTo_mem {ps : List Nat} {E : List Nat → Bool} : ∀ {n : Nat} {r : List Nat}, r ∈ leastTo ps E n → E r = true ∧ Asc r ∧ ∀ p ∈ r, p ∈ ps
  | 0, r, h => by simp [leastTo] at h
  | n + 1, r, h => by
    rw [leastTo_succ] at h
    rcases fold_step_mem _ _ h with z | ⟨z1, z2⟩
    · exact leastTo_mem z
    · exact ⟨z2, listsOf_asc z1⟩
theorem least_mem {ps : List Nat} {E : List Nat → Bool} {r : List Nat} (h : r ∈ leastLists ps E) : E r = true ∧ Asc r ∧ ∀ p ∈ r, p ∈ ps := leastTo_mem h
/-- an enough row: there is one found -/
theorem fold_step_hit {E : List Nat → Bool} : ∀ (rows found : List (List Nat)) {r : List Nat}, r ∈ rows → E r = true → rows.foldl (leastStep E) found ≠ []
  | row :: rows, found, r, h, hE => by
    rcases List.mem_cons.mp h with z | z
    · subst z
      have h1 : leastStep E found r ≠ [] := by
        unfold leastStep
        split
        · simp
        · rename_i q
          intro e
          rw [e] at q
          exact q (by simp [hasLess, hE])
      obtain ⟨x, hx⟩ := List.exists_mem_of_ne_nil _ h1
      exact List.ne_nil_of_mem (fold_step_keep rows _ hx)
    · exact fold_step_hit rows _ z hE
theorem least_some {ps : List Nat} {E : List Nat → Bool} (h : Asc ps) (hE : E ps = true) : leastLists ps E ≠ [] := by
  unfold leastLists
  rw [leastTo_succ]
  exact fold_step_hit _ _ (listsOf_all h fun _ hp => hp) hE
theorem leastTo_one {ps : List Nat} {E : List Nat → Bool} : leastTo ps E 1 = if E [] = true then [[]] else [] := by
  show leastStep E [] [] = _
  unfold leastStep
  cases h : E [] <;> simp [hasLess]
theorem fold_full {E : List Nat → Bool} : ∀ rows : List (List Nat), rows.foldl (leastStep E) [[]] = [[]]
  | [] => rfl
  | row :: rows => by
    have h1 : leastStep E [[]] row = [[]] := by
      unfold leastStep
      rw [if_neg (by simp [hasLess])]
    rw [List.foldl_cons, h1]
    exact fold_full rows
theorem least_nil {ps : List Nat} {E : List Nat → Bool} : leastLists ps E = [[]] ↔ E [] = true := by
  constructor
  · intro h
    exact (least_mem (ps := ps) (E := E) (r := []) (by rw [h]; simp)).1
  · intro h
    have h1 : ∀ n, leastTo ps E (n + 1) = [[]] := by
      intro n
      induction n with
      | zero => rw [leastTo_one, if_pos h]
      | succ n ih => rw [leastTo_succ, ih, fold_full]
    exact h1 _
theorem least_none {ps : List Nat} {E : List Nat → Bool} (h : ∀ r, E r = false) : leastLists ps E = [] := by
  cases e : leastLists ps E with
  | nil => rfl
  | cons r rs =>
    have h1 := (least_mem (ps := ps) (E := E) (r := r) (by rw [e]; simp)).1
    rw [h r] at h1
    cases h1
end Rb
set_option Elab.async false
set_option linter.all false
set_option maxRecDepth 100000
/-! Stretches, later places: plain. -/
namespace Rb
open PySem PySem.Spec PyProof.Rows L2
/-! ### counting -/
def cnt (P : Nat → Bool) (i : Nat) : Nat := ((List.range i).filter P).length
theorem cnt_succ (P : Nat → Bool) (i : Nat) : cnt P (i + 1) = cnt P i + if P i = true then 1 else 0 := by
  unfold cnt
  rw [List.range_succ, List.filter_append, List.length_append]
  cases h : P i <;> simp [h]
theorem cnt_mono (P : Nat → Bool) {i : Nat} : ∀ d, cnt P i ≤ cnt P (i + d)
  | 0 => Nat.le_refl _
  | d + 1 => by
    have := cnt_mono P (i := i) d
    rw [← Nat.add_assoc, cnt_succ]
    omega
theorem cnt_le (P : Nat → Bool) {i j : Nat} (h : i ≤ j) : cnt P i ≤ cnt P j := by
  obtain ⟨d, rfl⟩ := Nat.exists_eq_add_of_le h
  exact cnt_mono P d
theorem cnt_eq (P : Nat → Bool) {i : Nat} : ∀ {j : Nat}, i ≤ j → (cnt P i = cnt P j ↔ ∀ q, i ≤ q → q < j → P q = false) := fun {j} h => by
  obtain ⟨d, rfl⟩ := Nat.exists_eq_add_of_le h
  clear h
  induction d with
  | zero => exact ⟨fun _ q h1 h2 => absurd h2 (by omega), fun _ => rfl⟩
  | succ d ih =>
    have hm := cnt_mono P (i := i) d
    rw [← Nat.add_assoc, cnt_succ]
    constructor
    · intro h q h1 h2
      cases hp : P (i + d) with
      | true =>
        rw [hp, if_pos rfl] at h
        omega
      | false =>
        rw [hp, if_neg (by decide)] at h
        by_cases e : q = i + d
        · rw [e]
          exact hp
        · exact ih.mp (by omega) q h1 (by omega)
    · intro h
      rw [h (i + d) (by omega) (by omega), if_neg (by decide)]
      exact ih.mpr fun q h1 h2 => h q h1 (by omega)
theorem lot_cnt (l : LogD) (R : List Nat) (j : Str) (i : Nat) : l.lotC R j i = cnt (fun q => decide (l.evJ q = j) && (l.isRes q || decide (q ∈ R))) i := rfl
theorem part_cnt (l : LogD) (M : Option (List Nat)) (j : Str) (i : Nat) : l.partC M j i = cnt (fun q => decide (l.evJ q = j) && LogD.movesAt M q) i := rfl
/-- no reset between -/
theorem lot_same {l : LogD} {R : List Nat} {j : Str} {a b : Nat} (h : a ≤ b) : l.lotC R j (a + 1) = l.lotC R j (b + 1) ↔ ∀ q, a < q → q ≤ b → l.evJ q = j → l.isRes q = false ∧ q ∉ R := by
  rw [lot_cnt, lot_cnt, cnt_eq _ (by omega)]
  constructor
  · intro h2 q h3 h4 h5
    have := h2 q (by omega) (by omega)
    simpa [h5] using this
  · intro h2 q h3 h4
    by_cases h5 : l.evJ q = j
    · have := h2 q (by omega) (by omega) h5
      simp [this]
    · simp [h5]
theorem part_same {l : LogD} {M : Option (List Nat)} {j : Str} {a b : Nat} (h : a ≤ b) : l.partC M j (a + 1) = l.partC M j (b + 1) ↔ ∀ q, a < q → q ≤ b → l.evJ q = j → LogD.movesAt M q = false := by
  rw [part_cnt, part_cnt, cnt_eq _ (by omega)]
  constructor
  · intro h2 q h3 h4 h5
    have := h2 q (by omega) (by omega)
    simpa [h5] using this
  · intro h2 q h3 h4
    by_cases h5 : l.evJ q = j
    · simp [h2 q (by omega) (by omega) h5]
    · simp [h5]
theorem lot_le {l : LogD} {R : List Nat} {j : Str} {a b : Nat} (h : a ≤ b) : l.lotC R j (a + 1) ≤ l.lotC R j (b + 1) := by
  rw [lot_cnt, lot_cnt]
  exact cnt_le _ (by omega)
/-! ### bounds -/
theorem foldl_max_le {a : Nat} : ∀ (ns : List Nat) (n : Nat), ns.foldl max n ≤ a ↔ n ≤ a ∧ ∀ m ∈ ns, m ≤ a
  | [], n => by simp
  | m :: ns, n => by
    rw [List.foldl_cons, foldl_max_le ns, List.forall_mem_cons, Nat.max_le, and_assoc]
theorem foldl_min_lt {a : Nat} : ∀ (ns : List Nat) (n : Nat), a < ns.foldl min n ↔ a < n ∧ ∀ m ∈ ns, a < m
  | [], n => by simp
  | m :: ns, n => by
    rw [List.foldl_cons, foldl_min_lt ns, List.forall_mem_cons, Nat.lt_min, and_assoc]
theorem maxN_le {a : Nat} {ns : List Nat} : maxN 0 ns ≤ a ↔ ∀ m ∈ ns, m ≤ a := by
  cases ns with
  | nil => simp [maxN]
  | cons m ns =>
    show (ns.foldl max m) ≤ a ↔ _
    rw [foldl_max_le, List.forall_mem_cons]
theorem lt_minN {a d : Nat} {ns : List Nat} (h : a < d) : a < minN d ns ↔ ∀ m ∈ ns, a < m := by
  cases ns with
  | nil => simp [minN, h]
  | cons m ns =>
    show a < (ns.foldl min m) ↔ _
    rw [foldl_min_lt, List.forall_mem_cons]
theorem mem_resets {l : LogD} {j : Str} {q : Nat} : q ∈ l.resets j ↔ l.isRes q = true ∧ l.evJ q = j := by
  unfold LogD.resets
  rw [List.mem_filter, List.mem_range, decide_eq_true_eq]
  constructor
  · rintro ⟨h1, h2⟩
    unfold LogD.isRes LogD.evJ
    rw [h2]
    exact ⟨rfl, rfl⟩
  · rintro ⟨h1, h2⟩
    unfold LogD.isRes at h1
    split at h1
    · rename_i j2 e
      refine ⟨LogD.ev_lt e, ?_⟩
      unfold LogD.evJ at h2
      rw [e] at h2
      rw [e, ← h2]
    · cases h1
theorem ans_res {l : LogD} {p : Nat} (h : l.isAns p = true) : l.isRes p = false := by
  obtain ⟨j, i, g, e⟩ := LogD.isAns_lt h
  unfold LogD.isRes
  rw [e]
theorem stretch_mem {l : LogD} {j : Str} {p a : Nat} (hp : l.isAns p = true) : a ∈ l.stretchAt j p ↔ l.isAns a = true ∧ l.evJ a = j ∧ l.lotC [] j (a + 1) = l.lotC [] j (p + 1) := by
  unfold LogD.stretchAt
  rw [List.mem_filter, LogD.mem_answersOf, Bool.and_eq_true, decide_eq_true_eq, decide_eq_true_eq, and_assoc]
  refine and_congr_right fun ha => and_congr_right fun hj => ?_
  obtain ⟨_, _, _, ea⟩ := LogD.isAns_lt ha
  have hal := LogD.ev_lt ea
  unfold LogD.spanAt
  rw [maxN_le, lt_minN hal]
  have hnp := ans_res hp
  have hna := ans_res ha
  constructor
  · rintro ⟨h1, h2⟩
    have h1 : ∀ q, l.isRes q = true → l.evJ q = j → q < p → q < a := fun q q1 q2 q3 => h1 (q + 1) (List.mem_map.mpr ⟨q, List.mem_filter.mpr ⟨mem_resets.mpr ⟨q1, q2⟩, decide_eq_true q3⟩, rfl⟩)
    have h2 : ∀ q, l.isRes q = true → l.evJ q = j → p ≤ q → a < q := fun q q1 q2 q3 => h2 q (List.mem_filter.mpr ⟨mem_resets.mpr ⟨q1, q2⟩, decide_eq_true q3⟩)
    rcases Nat.le_total a p with h | h
    · refine (lot_same h).mpr fun q q1 q2 q3 => ⟨?_, by simp⟩
      cases hq : l.isRes q with
      | false => rfl
      | true =>
        have hqp : q ≠ p := fun z => by rw [z, hnp] at hq; cases hq
        have := h1 q hq q3 (by omega)
        omega
    · refine ((lot_same h).mpr fun q q1 q2 q3 => ⟨?_, by simp⟩).symm
      cases hq : l.isRes q with
      | false => rfl
      | true =>
        have := h2 q hq q3 (by omega)
        omega
  · intro h
    refine ⟨fun m hm => ?_, fun q hq => ?_⟩
    · obtain ⟨q, hq, rfl⟩ := List.mem_map.mp hm
      obtain ⟨q1, q2⟩ := List.mem_filter.mp hq
      obtain ⟨q3, q4⟩ := mem_resets.mp q1
      have q2 := of_decide_eq_true q2
      have hqa : q ≠ a := fun z => by rw [z, hna] at q3; cases q3
      by_cases c : q < a
      · exact c
      · have := ((lot_same (by omega)).mp h q (by omega) (by omega) q4).1
        rw [this] at q3
        cases q3
    · obtain ⟨q1, q2⟩ := List.mem_filter.mp hq
      obtain ⟨q3, q4⟩ := mem_resets.mp q1
      have q2 := of_decide_eq_true q2
      have hqa : q ≠ a := fun z => by rw [z, hna] at q3; cases q3
      have hqp : q ≠ p := fun z => by rw [z, hnp] at q3; cases q3
      by_cases c : a < q
      · exact c
      · have := ((lot_same (by omega)).mp h.symm q (by omega) (by omega) q4).1
        rw [this] at q3
        cases q3
theorem range_asc (n : Nat) : Asc (List.range n) := List.pairwise_lt_range
theorem answersOf_asc (l : LogD) (j : Str) : Asc (l.answersOf j) := ((range_asc _).filter _).filter _
theorem stretchAt_asc (l : LogD) (j : Str) (p : Nat) : Asc (l.stretchAt j p) := (answersOf_asc l j).filter _
theorem answers_asc (l : LogD) : Asc l.answers := (range_asc _).filter _
theorem asc_nd {xs : List Nat} (h : Asc xs) : xs.Nodup := h.imp fun h => Nat.ne_of_lt h
abbrev lotA (l : LogD) (j : Str) (p : Nat) : Nat := l.lotC [] j (p + 1)
/-- the stretches, one behind another -/
structure StInv (l : LogD) (j : Str) (xs : List Nat) (acc : List (List Nat)) : Prop where
  of : ∀ st ∈ acc, ∃ p ∈ xs, st = l.stretchAt j p
  cov : ∀ p ∈ xs, ∃ st ∈ acc, p ∈ st
  dis : acc.Pairwise fun s t => ∀ x ∈ s, x ∉ t
  last : acc = [] ∧ xs = [] ∨ ∃ p0 ∈ xs, acc.getLastD [] = l.stretchAt j p0 ∧ acc ≠ [] ∧ ∀ p ∈ xs, lotA l j p ≤ lotA l j p0
theorem st_step {l : LogD} {j : Str} {xs : List Nat} {acc : List (List Nat)} (h : StInv l j xs acc) {p : Nat} (hx : ∀ q ∈ xs, l.isAns q = true ∧ l.evJ q = j ∧ q < p) (hp : l.isAns p = true) (hj : l.evJ p = j) : StInv l j (xs ++ [p]) (l.stStep acc p) := by
  have hself : p ∈ l.stretchAt j p := (stretch_mem hp).mpr ⟨hp, hj, rfl⟩
  unfold LogD.stStep LogD.stretchOf
  rw [hj]
  split
  · rename_i hc
    refine ⟨fun st hst => ?_, fun q hq => ?_, ?_, .inr ⟨p, by simp, by simp, by simp, fun q hq => ?_⟩⟩
    · rcases List.mem_append.mp hst with z | z
      · obtain ⟨q, hq, e⟩ := h.of st z
        exact ⟨q, List.mem_append_left _ hq, e⟩
      · exact ⟨p, by simp, by simpa using z⟩
    · rcases List.mem_append.mp hq with z | z
      · obtain ⟨st, hst, e⟩ := h.cov q z
        exact ⟨st, List.mem_append_left _ hst, e⟩
      · have z : q = p := by simpa using z
        rw [z]
        exact ⟨_, List.mem_append_right _ (by simp), hself⟩
    · refine List.pairwise_append.mpr ⟨h.dis, List.pairwise_singleton _ _, fun s hs t ht x hxs hxt => ?_⟩
      have ht : t = l.stretchAt j p := by simpa using ht
      subst ht
      obtain ⟨q, hq, rfl⟩ := h.of s hs
      obtain ⟨q1, q2, q3⟩ := hx q hq
      have e1 := ((stretch_mem q1).mp hxs).2.2
      have e2 := ((stretch_mem hp).mp hxt).2.2
      rcases h.last with ⟨z, _⟩ | ⟨p0, hp0, z1, z2, z3⟩
      · rw [z] at hs
        cases hs
      · obtain ⟨w1, w2, w3⟩ := hx p0 hp0
        rcases hc with c | c
        · exact z2 (List.eq_nil_of_length_eq_zero c)
        · rw [z1] at c
          have c2 : lotA l j p ≠ lotA l j p0 := fun z => c ((stretch_mem w1).mpr ⟨hp, hj, z⟩)
          have c3 : lotA l j p0 ≤ lotA l j p := lot_le (by omega)
          have c4 := z3 q hq
          unfold lotA at c2 c3 c4
          omega
    · rcases List.mem_append.mp hq with z | z
      · exact lot_le (by have := (hx q z).2.2; omega)
      · have z : q = p := by simpa using z
        rw [z]
        exact Nat.le_refl _
  · rename_i hc
    have hc1 : ¬ acc.length = 0 := fun z => hc (.inl z)
    have hc2 : p ∈ acc.getLastD [] := Classical.byContradiction fun z => hc (.inr z)
    rcases h.last with ⟨z, _⟩ | ⟨p0, hp0, z1, z2, z3⟩
    · rw [z] at hc1
      exact absurd rfl hc1
    obtain ⟨w1, w2, w3⟩ := hx p0 hp0
    rw [z1] at hc2
    have e2 := ((stretch_mem w1).mp hc2).2.2
    refine ⟨fun st hst => ?_, fun q hq => ?_, h.dis, .inr ⟨p0, List.mem_append_left _ hp0, z1, z2, fun q hq => ?_⟩⟩
    · obtain ⟨q, hq, e⟩ := h.of st hst
      exact ⟨q, List.mem_append_left _ hq, e⟩
    · rcases List.mem_append.mp hq with z | z
      · exact h.cov q z
      · have z : q = p := by simpa using z
        rw [z]
        refine ⟨acc.getLastD [], ?_, by rw [z1]; exact hc2⟩
        rcases List.eq_nil_or_concat acc with e | ⟨ys, y, e⟩
        · exact absurd e z2
        · rw [e, List.concat_eq_append]
          simp
    · rcases List.mem_append.mp hq with z | z
      · exact z3 q z
      · have z : q = p := by simpa using z
        rw [z]
        exact Nat.le_of_eq e2
theorem st_fold {l : LogD} {j : Str} : ∀ (ys xs : List Nat) (acc : List (List Nat)), StInv l j xs acc → Asc (xs ++ ys) → (∀ q ∈ xs ++ ys, l.isAns q = true ∧ l.evJ q = j) → StInv l j (xs ++ ys) (ys.foldl l.stStep acc)
  | [], xs, acc, h, _, _ => by simpa using h
  | y :: ys, xs, acc, h, ha, hm => by
    have hy := hm y (by simp)
    have h1 := st_step h (p := y) (fun q hq => ⟨(hm q (List.mem_append_left _ hq)).1, (hm q (List.mem_append_left _ hq)).2, (List.pairwise_append.mp ha).2.2 q hq y List.mem_cons_self⟩) hy.1 hy.2
    have e : xs ++ y :: ys = (xs ++ [y]) ++ ys := by simp
    rw [e] at ha hm ⊢
    exact st_fold ys (xs ++ [y]) _ h1 ha hm
theorem st_inv (l : LogD) (j : Str) : StInv l j (l.answersOf j) (l.stretches j) :=
  st_fold (l.answersOf j) [] [] ⟨fun _ h => (by cases h), fun _ h => (by cases h), .nil, .inl ⟨rfl, rfl⟩⟩ (answersOf_asc l j) fun q hq => LogD.mem_answersOf.mp hq
/-- a stretch's places -/
theorem st_at {l : LogD} {j : Str} {st : List Nat} (h : st ∈ l.stretches j) : Asc st ∧ (∀ p ∈ st, l.isAns p = true ∧ l.evJ p = j) ∧ ∀ p ∈ st, ∀ a, a ∈ st ↔ l.isAns a = true ∧ l.evJ a = j ∧ lotA l j a = lotA l j p := by
  obtain ⟨p0, hp0, rfl⟩ := (st_inv l j).of st h
  have h0 := LogD.mem_answersOf.mp hp0
  refine ⟨stretchAt_asc l j p0, fun p hp => ?_, fun p hp a => ?_⟩
  · obtain ⟨h1, h2, _⟩ := (stretch_mem h0.1).mp hp
    exact ⟨h1, h2⟩
  · obtain ⟨h1, h2, h3⟩ := (stretch_mem h0.1).mp hp
    rw [stretch_mem h0.1]
    show _ ↔ _ ∧ _ ∧ l.lotC [] j (a + 1) = l.lotC [] j (p + 1)
    rw [h3]
theorem flat_nd {α : Type} : ∀ {rs : List (List α)}, (∀ r ∈ rs, r.Nodup) → rs.Pairwise (fun s t => ∀ x ∈ s, x ∉ t) → (rs.flatMap id).Nodup
  | [], _, _ => .nil
  | r :: rs, h1, h2 => by
    obtain ⟨h3, h4⟩ := List.pairwise_cons.mp h2
    rw [List.flatMap_cons]
    refine List.nodup_append.mpr ⟨h1 r List.mem_cons_self, flat_nd (fun s hs => h1 s (List.mem_cons_of_mem _ hs)) h4, fun a ha b hb e => ?_⟩
    obtain ⟨t, ht, hbt⟩ := List.mem_flatMap.mp hb
    exact h3 t ht a ha (by rw [e]; exact hbt)
theorem st_flat_nd (l : LogD) (j : Str) : ((l.stretches j).flatMap id).Nodup := flat_nd (fun r hr => asc_nd (st_at hr).1) (st_inv l j).dis
theorem st_flat_len (l : LogD) (j : Str) : ((l.stretches j).flatMap id).length ≤ l.events.length := by
  refine Nat.le_trans (nodup_len (ys := l.answers) (st_flat_nd l j) fun x hx => ?_) l.answers_len
  obtain ⟨st, hst, hx⟩ := List.mem_flatMap.mp hx
  exact LogD.mem_answers.mpr ((st_at hst).2.1 x hx).1
/-- a later place: an answer with an answer of the same stretch ahead of it -/
theorem mem_later {l : LogD} {j : Str} {p : Nat} : p ∈ l.laterPlaces j ↔ l.isAns p = true ∧ l.evJ p = j ∧ ∃ a < p, l.isAns a = true ∧ l.evJ a = j ∧ lotA l j a = lotA l j p := by
  unfold LogD.laterPlaces
  rw [List.mem_flatMap]
  constructor
  · rintro ⟨st, hst, hp⟩
    obtain ⟨h1, h2, h3⟩ := st_at hst
    cases st with
    | nil => cases hp
    | cons x xs =>
      have hp : p ∈ xs := hp
      have hpm : p ∈ x :: xs := List.mem_cons_of_mem _ hp
      obtain ⟨h4, h5⟩ := h2 p hpm
      obtain ⟨h6, h7⟩ := h2 x List.mem_cons_self
      exact ⟨h4, h5, x, (List.pairwise_cons.mp h1).1 p hp, h6, h7, ((h3 p hpm x).mp List.mem_cons_self).2.2⟩
  · rintro ⟨h1, h2, a, h3, h4, h5, h6⟩
    obtain ⟨st, hst, hp⟩ := (st_inv l j).cov p (LogD.mem_answersOf.mpr ⟨h1, h2⟩)
    obtain ⟨g1, g2, g3⟩ := st_at hst
    have ha := (g3 p hp a).mpr ⟨h4, h5, h6⟩
    refine ⟨st, hst, ?_⟩
    cases st with
    | nil => cases hp
    | cons x xs =>
      show p ∈ xs
      rcases List.mem_cons.mp hp with z | z
      · subst z
        rcases List.mem_cons.mp ha with z | z
        · omega
        · have := (List.pairwise_cons.mp g1).1 a z
          omega
      · exact z
theorem later_nd (l : LogD) (j : Str) : (l.laterPlaces j).Nodup := by
  have h := st_flat_nd l j
  unfold LogD.laterPlaces
  revert h
  generalize l.stretches j = rs
  intro h
  refine List.Nodup.sublist ?_ h
  induction rs with
  | nil => exact List.Sublist.refl _
  | cons r rs ih =>
    rw [List.flatMap_cons, List.flatMap_cons]
    refine List.Sublist.append (List.drop_sublist 1 r) (ih ?_)
    rw [List.flatMap_cons] at h
    exact (List.nodup_append.mp h).2.1
theorem flat_nd2 {l : LogD} : ∀ {js : List Str}, js.Nodup → (js.flatMap l.laterPlaces).Nodup
  | [], _ => .nil
  | j :: js, h => by
    obtain ⟨h1, h2⟩ := List.nodup_cons.mp h
    rw [List.flatMap_cons]
    refine List.nodup_append.mpr ⟨later_nd l j, flat_nd2 h2, fun a ha b hb e => ?_⟩
    obtain ⟨j2, hj2, hb⟩ := List.mem_flatMap.mp hb
    have e1 := (mem_later.mp ha).2.1
    have e2 := (mem_later.mp hb).2.1
    rw [← e, e1] at e2
    rw [e2] at h1
    exact h1 hj2
theorem srt_asc {ns : List Nat} (h : ns.Nodup) : Asc (srt ns) := by
  have h1 := srt_le ns
  have h2 : (srt ns).Nodup := (srt_perm ns).nodup_iff.mpr h
  exact (h1.and h2).imp fun ⟨a, b⟩ => by omega
theorem mem_srt {ns : List Nat} {p : Nat} : p ∈ srt ns ↔ p ∈ ns := (srt_perm ns).mem_iff
theorem movePlaces_eq (l : LogD) : l.movePlaces = srt (((l.judges.filter fun d => !decide (d.2 = ("stays" : Str))).map Prod.fst).flatMap l.laterPlaces) := by
  unfold LogD.movePlaces
  rw [List.flatMap_map]
theorem movePlaces_asc {l : LogD} (h : l.Ok) : Asc l.movePlaces := by
  rw [movePlaces_eq]
  exact srt_asc (flat_nd2 (List.Nodup.sublist (List.Sublist.map _ List.filter_sublist) h.names.nd))
theorem resetPlaces_asc {l : LogD} (h : l.Ok) : Asc l.resetPlaces := srt_asc (flat_nd2 h.names.nd)
theorem mem_reset {l : LogD} (h : l.Ok) {p : Nat} : p ∈ l.resetPlaces ↔ l.isAns p = true ∧ ∃ a < p, l.isAns a = true ∧ l.evJ a = l.evJ p ∧ lotA l (l.evJ p) a = lotA l (l.evJ p) p := by
  unfold LogD.resetPlaces
  rw [mem_srt, List.mem_flatMap]
  constructor
  · rintro ⟨j, hj, hp⟩
    obtain ⟨h1, h2, h3⟩ := mem_later.mp hp
    subst h2
    exact ⟨h1, h3⟩
  · rintro ⟨h1, h2⟩
    exact ⟨l.evJ p, h.judge h1, mem_later.mpr ⟨h1, rfl, h2⟩⟩
theorem driftOf_eq {l : LogD} (h : l.Ok) {d : Str × Str} (hd : d ∈ l.judges) : l.driftOf d.1 = d.2 := by
  unfold LogD.driftOf
  rw [lookup_nd' h.names.nd hd]
  rfl
theorem judge_of {l : LogD} {j : Str} (h : j ∈ l.names) : (j, l.driftOf j) ∈ l.judges := by
  obtain ⟨d, hd, rfl⟩ := List.mem_map.mp h
  unfold LogD.driftOf
  cases e : l.judges.lookup d.1 with
  | none => exact absurd (List.mem_map.mpr ⟨d, hd, rfl⟩) (lookup_none e)
  | some v => exact lookup_mem e
theorem mem_move {l : LogD} (h : l.Ok) {p : Nat} : p ∈ l.movePlaces ↔ l.isAns p = true ∧ l.driftOf (l.evJ p) ≠ ("stays" : Str) ∧ ∃ a < p, l.isAns a = true ∧ l.evJ a = l.evJ p ∧ lotA l (l.evJ p) a = lotA l (l.evJ p) p := by
  unfold LogD.movePlaces
  rw [mem_srt, List.mem_flatMap]
  constructor
  · rintro ⟨d, hd, hp⟩
    obtain ⟨h1, h2, h3⟩ := mem_later.mp hp
    obtain ⟨hd1, hd2⟩ := List.mem_filter.mp hd
    have e := driftOf_eq h hd1
    rw [← h2] at e h3
    exact ⟨h1, by rw [e]; simpa using hd2, h3⟩
  · rintro ⟨h1, h2, h3⟩
    have hj := judge_of (h.judge h1)
    exact ⟨_, List.mem_filter.mpr ⟨hj, by simpa using h2⟩, mem_later.mpr ⟨h1, rfl, h3⟩⟩
theorem asc_len {l : LogD} {xs : List Nat} (h : Asc xs) (hm : ∀ p ∈ xs, l.isAns p = true) : xs.length ≤ l.events.length :=
  Nat.le_trans (nodup_len (ys := l.answers) (asc_nd h) fun x hx => LogD.mem_answers.mpr (hm x hx)) l.answers_len
end Rb
set_option Elab.async false
set_option linter.all false
set_option maxRecDepth 100000
set_option maxHeartbeats 3200000
/-! Walks: lists_of, crossings. -/
namespace Rb
open PySem PySem.Spec PyProof.Rows L2
/-- a crossing -/
def CrossOk (l : LogD) (j : Str) (c : Nat × Nat) : Prop := c.1 < c.2 ∧ l.isAns c.1 = true ∧ l.isAns c.2 = true ∧ l.evJ c.1 = j ∧ l.evJ c.2 = j ∧ lotA l j c.1 = lotA l j c.2 ∧ l.itemAt c.1 = l.itemAt c.2 ∧ l.gradeAt c.1 ≠ l.gradeAt c.2
section
variable {P : Program} {w : World} {K : PySem.W.Frag} {mg : Str → Option Value} {base : Heap} {CL CC : Addr}
abbrev s_lists_of : Stmt := topS 36
theorem sc_lists_of : FnScope ["places", "many", "rows", "_", "row", "place"] ["places", "many"] (defScope s_lists_of) := ⟨rfl, rfl, rfl, by decide +kernel, rfl, by decide +kernel, by decide +kernel⟩
abbrev n_lists_of : List Str := ["places", "many", "rows", "_", "row", "place"]
abbrev F_lists_of (P : Program) (w : World) (K : PySem.W.Frag) (mg : Str → Option Value) (base : Heap) : Prop := Fn P w K mg base 1 "lists_of" ["places", "many"] (spN (fun a : List Nat × Nat => [pNs a.1, pN a.2]) (fun a => Asc a.1 ∧ a.1.length ≤ 10 ∧ a.2 ≤ 50) fun a => pL ((listsOf a.1 a.2).map pNs))
theorem w_lists_of (Z : Bz K mg CL CC) (D : Df K mg "lists_of" s_lists_of [] []) : F_lists_of P w K mg base :=
  fn_mk (k := 0) D sc_lists_of (fun _ => rfl) (bnd2 fun _ _ _ _ _ _ _ _ => rfl) fun f cdv A outer s H1 vs Q X a H hr e hp h q => by
    have sc := sc_lists_of
    obtain ⟨ps, n⟩ := a
    obtain ⟨vp, vn, rfl, rp, rn⟩ := all2 h
    obtain ⟨ha, hz, hn⟩ := hp
    refine ⟨_, (pss_cons (ps_set (i := 2) sc.nd rfl (Or.inl rfl) (pe_lst (pa_cons (pe_lst pa_nil) pa_nil)))
    (pss_cons (ps_for PassesOwn.never rfl (pi_range1 (by rfl) Z.range (pa_cons (pv 1) pa_nil)) (pg_name (i := 3) sc.nd rfl (by first | exact Or.inl rfl | exact Or.inr rfl)) (pss_one (ps_setLc2 (i := 2) (own := [("row", 4), ("place", 5)]) (vs1 := [5]) (g := (gName 4)) (g1 := (gName 5)) rfl sc.nd rfl rfl (sw_true rfl rfl rfl (by decide +kernel)) (piList K (pv 2)) (blkOk_by (N := n_lists_of) (sc := defScope s_lists_of) (by decide +kernel)) (by decide) (fun _ _ _ _ _ => (pg_name (i := 4) sc.nd rfl (by first | exact Or.inl rfl | exact Or.inr rfl))) (fun _ _ _ _ _ => pts_nil) (fun _ _ _ _ _ => (piList K (pv 0))) (fun _ _ _ _ _ => (pg_name (i := 5) sc.nd rfl (by first | exact Or.inl rfl | exact Or.inr rfl))) (fun _ _ _ _ _ => pts_one (PW.pt (pw_or (pt_not (ptTruth K (pv 4) (by intro _; rfl))) (pw_or1 (pt_cmpR op_gt (pv 5) (pe_ix (ixL K) (pv 4) (pe_un un_neg pe_int) (fun _ _ => rfl)) (nomark _)))))) (fun _ _ _ _ _ => (pe_op op_cat (pv 4) (pe_lst (pa_cons (pv 5) pa_nil)))))))
    (pss_one (ps_ret (pv 2))))), ?_⟩
    refine q_asg e (ev_lst (ea_one (ev_lst ea_nil))) fun vr G A s1 rr => ?_
    refine q_for (H := G) s1.b (ei_range (n := n) (ea_one (ev_var ((pN n).mono s1.a rn))) (by show n ≤ 1000000; have hn : n ≤ 50 := hn; omega)) (fun i σ F F1 => Sep H H1 F F1 ∧ ∃ u x, σ = [some vp, some vn, some u, x, none, none] ∧ (pL ((listsOf ps i).map pNs)).p F u) (fun H' H2 s => ⟨s1.trans s, vr, _, rfl, (pL _).mono s.a rr⟩) ?_ ?_
    · rintro i p v σ' F F1 F' F2 hpi ⟨sF, u, x, rfl, ru⟩ eF s2 rv
      refine bnd_name F2 s2.b _ ?_
      have hil : (listsOf ps i).length ≤ 1024 := listsOf_len ha hz i
      have hiN : i < n := by
        have := (List.getElem?_eq_some_iff.mp hpi).1
        simpa using this
      have rp2 := (pNs ps).mono (sF.a.trans s2.a) rp
      refine s_asg s2.b (ev_lc2 (as := listsOf ps i) (bs := fun _ => ps) (f := pNs) (f1 := fun _ => pN) (h := fun row p => pNs (row ++ [p])) (t := fun _ => true) (t1 := okNext) (ei_list (ev_var ((pL _).mono s2.a ru))) ?_ fun row vr G2 hrow eG r => ⟨_, bnd_name, rfl, et_yes, fun _ => ⟨ei_list (ev_var ((pNs ps).mono eG rp2)), fun p vp2 G3 hp eG2 rp3 => ⟨_, bnd_name, rfl, ?_, fun _ => ?_⟩⟩⟩) fun vr2 F3 F4 s3 r3 => ?_
      · have h2 := flat_le (f := fun _ : List Nat => ps) (n := 10) (as := listsOf ps i) fun _ _ => hz
        omega
      · have r3 := (pNs row).mono eG2 r
        refine et_or (a := row.isEmpty) (b := decide (row.getLastD 0 < p)) ((et_not (et_truL (ev_var r3))).eq ?_) fun z => ?_
        · cases row <;> rfl
        · rcases List.eq_nil_or_concat row with e | ⟨ys, y, e⟩
          · rw [e] at z
            cases z
          · rw [List.concat_eq_append] at e
            subst e
            have r4 : (pL (ys.map pN ++ [pN y])).p G3 vr := by
              rw [← List.map_singleton, ← List.map_append]
              exact r3
            refine (et_test (ev_I0 (i := (p : Int)) (j := (y : Int)) (ev_var rp3) (ev_ixLast (ev_var r4) ev_neg1))).eq ?_
            simp
      · have r3 := (pNs row).mono eG2 r
        have hrl := listsOf_len1 hrow
        refine Ev.imp (ev_cat (ev_var r3) (ev_lst (ea_one (ev_var rp3))) ?_) fun H' v _ r => ?_
        · rw [List.length_map, hrl]
          show i + 1 ≤ 100000
          have hn : n ≤ 50 := hn
          omega
        · show (pL ((row ++ [p]).map pN)).p H' v
          rw [List.map_append]
          exact r
      · refine ⟨F3, s2.a.trans s3.a, s3.b, (sF.trans s2).trans s3, vr2, _, rfl, ?_⟩
        have e1 : (listsOf ps (i + 1)).map pNs = ((listsOf ps i).filter fun _ => true).flatMap fun a => ((ps.filter (okNext a)).map fun p => pNs (a ++ [p])) := by
          rw [List.filter_eq_self.mpr (fun _ _ => rfl)]
          show (extRows ps (listsOf ps i)).map pNs = _
          unfold extRows
          rw [List.map_flatMap]
          congr 1
          funext a
          rw [List.map_map]
          rfl
        rw [e1]
        exact r3
    · rintro σ' F F1 eF eF1 ⟨sF, u, x, rfl, ru⟩
      rw [List.length_map, List.length_range] at ru
      exact s_ret sF.b (ev_var ru) (q.go sF)
abbrev s_crossings : Stmt := topS 42
theorem sc_crossings : FnScope ["log", "judge", "found", "stretch", "last", "place", "item"] ["log", "judge"] (defScope s_crossings) := ⟨rfl, rfl, rfl, by decide +kernel, rfl, by decide +kernel, by decide +kernel⟩
abbrev n_crossings : List Str := ["log", "judge", "found", "stretch", "last", "place", "item"]
abbrev F_crossings (P : Program) (w : World) (K : PySem.W.Frag) (mg : Str → Option Value) (base : Heap) (CL : Addr) : Prop := Fn P w K mg base 7 "crossings" ["log", "judge"] (spN (fun a : LogD × Str => [pLog CL a.1, pS a.2]) (fun a => a.1.Ok ∧ a.2 ∈ a.1.names) fun a => pE (fun cs => (∀ c ∈ cs, CrossOk a.1 a.2 c) ∧ cs.length ≤ 120) pLks)
theorem w_crossings (Z : Bz K mg CL CC) (D : Df K mg "crossings" s_crossings [] []) (m_Log_stretches : M_stretches P w K mg base CL) (m_Log_item_at : M_item_at P w K mg base CL) (m_Log_grade_at : M_grade_at P w K mg base CL) : F_crossings P w K mg base CL :=
  fn_mk (k := 6) D sc_crossings (fun _ => rfl) (bnd2 fun _ _ _ _ _ _ _ _ => rfl) fun f cdv A outer s H1 vs Q X a H hr e hp h q => by
    have sc := sc_crossings
    have hu := hu_of hr
    obtain ⟨l, j⟩ := a
    obtain ⟨vl, vj, rfl, rl, rj⟩ := all2 h
    obtain ⟨hl, hj⟩ := hp
    have hl : l.Ok := hl
    have hfew := hl.few
    have hflat := st_flat_len l j
    refine ⟨_, (pss_cons (ps_set (i := 2) sc.nd rfl (Or.inl rfl) (pe_lst pa_nil))
    (pss_cons (ps_for PassesOwn.never rfl (piList K (pe_me m_Log_stretches Z.c_Log hr (by decide) (pv 0) (pa_cons (pv 1) pa_nil))) (pg_name (i := 3) sc.nd rfl (by first | exact Or.inl rfl | exact Or.inr rfl)) (pss_cons (ps_set (i := 4) sc.nd rfl (Or.inl rfl) pe_dnewK)
    (pss_one (ps_for PassesOwn.never rfl (piList K (pv 3)) (pg_name (i := 5) sc.nd rfl (by first | exact Or.inl rfl | exact Or.inr rfl)) (pss_cons (ps_set (i := 6) sc.nd rfl (Or.inl rfl) (pe_me m_Log_item_at Z.c_Log hr (by decide) (pv 0) (pa_cons (pv 5) pa_nil)))
    (pss_cons (ps_if (PW.pt (pw_and (pt_cmp (pc_din hu (pv 6) (pv 4)) (by rfl)) (pw_and1 (pt_cmpR op_ne (pe_me m_Log_grade_at Z.c_Log hr (by decide) (pv 0) (pa_cons (pe_dget hu (pv 4) (pv 6) (fun _ _ => rfl)) pa_nil)) (pe_me m_Log_grade_at Z.c_Log hr (by decide) (pv 0) (pa_cons (pv 5) pa_nil)) (nomark _))))) (pss_one (ps_expr (pe_bm PySem.F.plainAttrs_list PySem.F.slot_list_append PySem.F.type_list_append mt_append (pv 2) (pa_cons (pe_tup (pa_cons (pe_dget hu (pv 4) (pv 6) (fun _ _ => rfl)) (pa_cons (pv 5) pa_nil))) pa_nil)))) pss_nil)
    (pss_one (ps_dput hu (pv 4) (pv 6) (pv 5) rfl))))))))
    (pss_one (ps_ret (pv 2))))), ?_⟩
    refine q_nil fun fl hfl => ?_
    have s0 := Sep.hid (o := .lst []) e hfl
    refine q_for s0.b (ei_list (ps := (l.stretches j).map pNs) (ev_meth (as := [pS j]) (l, j) (ev_var rl) (log_ins rfl) (ea_one (ev_var rj)) rfl ⟨hl, hj⟩))
      (fun i σ G G1 => Sep H H1 G G1 ∧ (∃ x y z u, σ = [some vl, some vj, some (.ref fl), x, y, z, u]) ∧ G fl = none ∧ ∃ acc cs, G1 fl = some (.lst acc) ∧ All2 G acc (List.map pLk cs) ∧ (∀ c ∈ cs, CrossOk l j c) ∧ cs.length ≤ (((l.stretches j).take i).flatMap id).length)
      (fun H' H2 s => ?_) ?_ ?_
    · have kk := s.keep (e.back hfl) upd_same
      exact ⟨s0.trans s, ⟨_, _, _, _, rfl⟩, kk.1, [], [], kk.2, True.intro, (fun c hc => by cases hc), Nat.zero_le _⟩
    · rintro i p ul σ' G G1 G' G2 hpi ⟨sG, ⟨x, y, z, u', rfl⟩, nG, acc, cs, gG, rA, hcs, hlen⟩ eG s2 rp
      obtain ⟨st, hst, rfl⟩ := map_get hpi
      have hstm := List.mem_of_getElem? hst
      obtain ⟨hasc, hans, hmem⟩ := st_at hstm
      have k2 := s2.keep nG gG
      have htake : (((l.stretches j).take (i + 1)).flatMap id).length = (((l.stretches j).take i).flatMap id).length + st.length := by
        have hil := (List.getElem?_eq_some_iff.mp hst).1
        rw [List.take_succ_eq_append_getElem hil, List.flatMap_append, List.length_append]
        have e1 : (l.stretches j)[i] = st := (List.getElem?_eq_some_iff.mp hst).2
        rw [e1]
        simp
      have htot : (((l.stretches j).take (i + 1)).flatMap id).length ≤ 120 := by
        refine Nat.le_trans (List.Sublist.length_le ?_) (Nat.le_trans hflat hfew)
        have e1 : (l.stretches j).flatMap id = ((l.stretches j).take (i + 1)).flatMap id ++ ((l.stretches j).drop (i + 1)).flatMap id := by
          rw [← List.flatMap_append, List.take_append_drop]
        rw [e1]
        exact List.sublist_append_left _ _
      refine bnd_name G2 s2.b _ ?_
      refine fun dl hdl => ?_
      have ndG : G' dl = none := s2.b.back hdl
      have ndH : H1 dl = none := (sG.trans s2).c.back hdl
      have nfd : fl ≠ dl := ne_of_none k2.2 hdl
      have s3 : Sep G1 G1 G1 (upd G2 dl (.dK [])) := ⟨Ex.refl _, s2.c.trans (Ex.new hdl), s2.c.trans (Ex.new hdl), fun _ _ h => h, fun _ _ h => h⟩
      refine s_for (H := G') (s2.b.trans (Ex.new hdl)) (ei_list (ps := st.map pN) (ev_var rp))
        (fun m σ F F1 => Sep H H1 F F1 ∧ Ex G' F ∧ (∃ z u, σ = [some vl, some vj, some (.ref fl), some ul, some (.ref dl), z, u]) ∧ F fl = none ∧ F dl = none ∧ (∃ kvs, F1 dl = some (.dK kvs) ∧ kvs.length ≤ m ∧ ∀ k v, valV kvs k = some v → ∃ r ∈ st.take m, k = .inr (l.itemAt r) ∧ v = .int (r : Int)) ∧
          ∃ acc cs, F1 fl = some (.lst acc) ∧ All2 F acc (List.map pLk cs) ∧ (∀ c ∈ cs, CrossOk l j c) ∧ cs.length ≤ (((l.stretches j).take i).flatMap id).length + m)
        (fun H' H2 s => ?_) ?_ ?_
      · have kf := s.keep k2.1 (Ex.new (o := .dK []) hdl _ _ k2.2)
        have kd := s.keep ndG (upd_same (H := G2) (o := .dK []))
        exact ⟨((sG.trans s2).ext (Ex.new hdl)).trans s, s.a, ⟨_, _, rfl⟩, kf.1, kd.1, ⟨[], kd.2, Nat.zero_le _, fun k v h => by cases h⟩, acc, cs, kf.2, rA.mono (s2.a.trans s.a), hcs, hlen⟩
      · rintro m p u σ' F F1 F' F2 hpm ⟨sF, eGF, ⟨z, u', rfl⟩, nF, nD, ⟨kvs, gD, hkl, hkv⟩, acc, cs, gF, rF, hcs, hlen⟩ eF s4 rp4
        obtain ⟨n, hn, rfl⟩ := map_get hpm
        have hml := (List.getElem?_eq_some_iff.mp hn).1
        have hnm := List.mem_of_getElem? hn
        obtain ⟨hna, hnj⟩ := hans n hnm
        have kf := s4.keep nF gF
        have kd := s4.keep nD gD
        have rl4 := (pLog CL l).mono (sF.a.trans s4.a) rl
        refine bnd_name F2 s4.b _ ?_
        refine q_asgV (v := .str (l.itemAt n)) s4.b (ev_meth (as := [pN n]) (l, n) (ev_var rl4) (log_ins rfl) (ea_one (ev_var rp4)) rfl hna) fun F3 e3 e4 => ?_
        have kf3 := e4 _ _ kf.2
        have kd3 := e4 _ _ kd.2
        have s43 := (sF.trans s4).ext e4
        have hzk : kvs.length < 100000 := by omega
        have htm : st.take (m + 1) = st.take m ++ [n] := by
          rw [List.take_succ_eq_append_getElem hml, (List.getElem?_eq_some_iff.mp hn).2]
        have eT : Ex (upd F' dl (.dK kvs)) F3 := (s4.b.trans e4).put kd3
        obtain ⟨gb, hgb⟩ : ∃ gb : Bool, ∀ v, valV kvs (.inr (l.itemAt n)) = some v → ∃ r ∈ st.take m, v = .int (r : Int) ∧ l.itemAt n = l.itemAt r ∧ gb = !decide (l.gradeAt r = l.gradeAt n) := by
          cases hv : valV kvs (.inr (l.itemAt n)) with
          | none => exact ⟨false, fun v z => nomatch z⟩
          | some v =>
            obtain ⟨r, hr, hk, hv2⟩ := hkv _ _ hv
            refine ⟨_, fun v' e => ⟨r, hr, ?_, by injection hk, rfl⟩⟩
            have e : v = v' := by simpa using e
            rw [← e]
            exact hv2
        refine q_ifJ (b := (valV kvs (.inr (l.itemAt n))).isSome && gb) (fun F6 => ∃ F5 acc' cs', Sep H H1 F5 F6 ∧ Ex F' F5 ∧ F5 fl = none ∧ F5 dl = none ∧ F6 fl = some (.lst acc') ∧ F6 dl = some (.dK kvs) ∧ All2 F5 acc' (List.map pLk cs') ∧ (∀ c ∈ cs', CrossOk l j c) ∧ cs'.length ≤ (((l.stretches j).take i).flatMap id).length + (m + 1)) eT
          (et_and (et_B (ev_dinR (k := .inr (l.itemAt n)) (ev_var rfl) (ev_var rfl) (.inl upd_same) rfl)) fun z => ?_) (fun z F4 e5 D' k => ?_) (fun z F4 e5 => ?_) ?_
        · obtain ⟨v, hv⟩ := Option.isSome_iff_exists.mp z
          obtain ⟨r, hr, rfl, hri, rfl⟩ := hgb v hv
          have hra := (hans r (List.mem_of_mem_take hr)).1
          have eF := Ex.new (o := .dK kvs) kd.1
          refine (et_test (ev_ne (x := .int (l.gradeAt r : Int)) (y := .int (l.gradeAt n : Int)) (ev_meth (as := [pN r]) (l, r) (ev_var ((pLog CL l).mono eF rl4)) (log_ins rfl) (ea_one (ev_dgetR (k := .inr (l.itemAt n)) (ev_var rfl) (ev_var rfl) (.inl upd_same) hv rfl)) rfl hra) (ev_meth (as := [pN n]) (l, n) (ev_var ((pLog CL l).mono eF rl4)) (log_ins rfl) (ea_one (ev_var ((pN n).mono eF rp4))) rfl hna) rfl)).eq ?_
          simp
          omega
        · rw [Bool.and_eq_true] at z
          obtain ⟨v, hv⟩ := Option.isSome_iff_exists.mp z.1
          obtain ⟨r, hr, rfl, hri, hg⟩ := hgb v hv
          have hg2 : l.gradeAt r ≠ l.gradeAt n := by
            rw [z.2] at hg
            simpa using hg.symm
          have hrm : r ∈ st := List.mem_of_mem_take hr
          obtain ⟨hra, hrj⟩ := hans r hrm
          have hrn : r < n := by
            have h1 : Asc (st.take m ++ [n]) := by
              rw [← htm]
              exact List.Pairwise.sublist (List.take_sublist _ _) hasc
            exact (List.pairwise_append.mp h1).2.2 r hr n (by simp)
          have kf4 := e5 _ _ kf3
          have kd4 := e5 _ _ kd3
          have s44 := s43.ext e5
          have rp5 : u = .int (n : Int) := rp4
          refine ⟨.ref fl, rfl, .inl ⟨rfl, acc, SqL.of kf4⟩, .ref dl, rfl, .str (l.itemAt n), rfl, dl, V.int (r : Int), rfl, .inl ⟨kvs, .inr (l.itemAt n), .inl kd4, rfl, hv.symm⟩, u, rfl, by show 2 ≤ sizeLine; decide, fun tp htp => ⟨fl, acc, .ref tp, rfl, rfl, (Ex.new htp) _ _ kf4, ?_, k _ ?_⟩⟩
          · have h1 := rF.length
            rw [List.length_map] at h1
            have h2 : acc.length < 100000 := by omega
            exact Nat.lt_of_lt_of_le h2 (by decide)
          · have s5 := Sep.new (o := .tup [.int (r : Int), u]) s44.b htp
            have kf5 := s5.keep kf.1 kf4
            have kd5 := s5.keep kd.1 kd4
            have hft : fl ≠ tp := ne_of_none kf4 htp
            refine ⟨_, acc ++ [.ref tp], cs ++ [(r, n)], (s44.trans s5).mut hfl kf5.1, s5.a, kf5.1, kd5.1, upd_same, ?_, ?_, ?_, ?_⟩
            · rw [upd_ne (ne_of kd5.2 kf5.2 (fun z => nomatch z))]
              exact kd5.2
            · rw [List.map_append]
              refine (rF.mono (s4.a.trans s5.a)).snoc ⟨tp, [.int (r : Int), u], rfl, upd_same, rfl, rp5, True.intro⟩
            · intro c hc
              rcases List.mem_append.mp hc with z | z
              · exact hcs c z
              · have z : c = (r, n) := by simpa using z
                rw [z]
                exact ⟨hrn, hra, hna, hrj, hnj, ((hmem n hnm r).mp hrm).2.2, hri.symm, hg2⟩
            · rw [List.length_append]
              show cs.length + 1 ≤ _
              omega
        · exact ⟨F', acc, cs, s43.ext e5, Ex.refl _, kf.1, kd.1, e5 _ _ kf3, e5 _ _ kd3, rF.mono s4.a, hcs, by omega⟩
        · rintro F6 ⟨F5, acc', cs', s5, e6, n5, d5, g5, gd5, r5, hcs5, hl5⟩
          refine s_dputR (d := dl) (k := .inr (l.itemAt n)) (v := .int (n : Int)) s5.b (ev_var ((pN n).mono e6 rp4)) (ev_var rfl) (ev_var rfl) gd5 hzk fun F7 e7 => ?_
          refine ⟨F5, s4.a.trans e6, (s5.b.trans e7).mut d5, (s5.ext e7).mut ndH d5, eGF.trans (s4.a.trans e6), ⟨_, _, rfl⟩, n5, d5, ⟨_, upd_same, ?_, ?_⟩, acc', cs', ?_, r5, hcs5, hl5⟩
          · have := length_putK kvs (.inr (l.itemAt n)) (.int (n : Int))
            omega
          · intro k v hkv2
            by_cases hk : k = .inr (l.itemAt n)
            · subst hk
              rw [valV_put, if_pos rfl] at hkv2
              exact ⟨n, by rw [htm]; simp, rfl, (Option.some.inj hkv2).symm⟩
            · rw [valV_put, if_neg hk] at hkv2
              obtain ⟨r, hr, h1, h2⟩ := hkv k v hkv2
              exact ⟨r, by rw [htm]; exact List.mem_append_left _ hr, h1, h2⟩
          · have g7 := e7 _ _ g5
            rw [upd_ne (ne_of g7 (e7 _ _ gd5) (fun z => nomatch z))]
            exact g7
      · rintro σ' F F1 eF eF1 ⟨sF, eGF, ⟨z, u', rfl⟩, nF, nD, _, acc, cs, gF, rF, hcs, hlen⟩
        refine ⟨F, s2.a.trans eGF, eF1, sF, ⟨_, _, _, _, rfl⟩, nF, acc, cs, gF, rF, hcs, ?_⟩
        rw [List.length_map] at hlen
        omega
    · rintro σ' G G1 eG eG1 ⟨sG, ⟨x, y, z, u, rfl⟩, nG, acc, cs, gG, rA, hcs, hlen⟩
      rw [List.length_map, List.take_length] at hlen
      have eS : Ex (upd G fl (.lst acc)) G1 := eG1.put gG
      have sN : Sep H H1 (upd G fl (.lst acc)) G1 := sG.own hfl nG gG
      exact s_ret eS (ev_var (R := pE (fun cs => (∀ c ∈ cs, CrossOk l j c) ∧ cs.length ≤ 120) pLks) ⟨cs, ⟨hcs, by show cs.length ≤ 120; omega⟩, fl, acc, rfl, upd_same, rA.mono (Ex.new nG)⟩) (q.go sN)
end
end Rb
set_option Elab.async false
set_option linter.all false
set_option maxRecDepth 100000
set_option maxHeartbeats 3200000
/-! Walks: crossings_apart, strikes_in, pairs_in. -/
namespace Rb
open PySem PySem.Spec PyProof.Rows L2
abbrev Apart (cs : List (Nat × Nat)) : Prop := cs.Pairwise fun c d => c.2 ≤ d.1
/-- pairs: a free place, then one that ends it -/
def PairOk (l : LogD) (ps : List Nat) (first : Nat) (c : Nat × Nat) : Prop := c.1 ∈ ps ∧ c.2 ∈ ps ∧ c.1 < c.2 ∧ l.gradeAt c.1 ≠ first ∧ l.gradeAt c.2 = first
abbrev ends (cs : List (Nat × Nat)) : List Nat := cs.flatMap fun c => [c.1, c.2]
section
variable {P : Program} {w : World} {K : PySem.W.Frag} {mg : Str → Option Value} {base : Heap} {CL CC : Addr}
abbrev s_crossings_apart : Stmt := topS 43
theorem sc_crossings_apart : FnScope ["log", "judge", "found", "crossing"] ["log", "judge"] (defScope s_crossings_apart) := ⟨rfl, rfl, rfl, by decide +kernel, rfl, by decide +kernel, by decide +kernel⟩
abbrev n_crossings_apart : List Str := ["log", "judge", "found", "crossing"]
abbrev F_crossings_apart (P : Program) (w : World) (K : PySem.W.Frag) (mg : Str → Option Value) (base : Heap) (CL : Addr) : Prop := Fn P w K mg base 8 "crossings_apart" ["log", "judge"] (spN (fun a : LogD × Str => [pLog CL a.1, pS a.2]) (fun a => a.1.Ok ∧ a.2 ∈ a.1.names) fun a => pE (fun cs => (∀ c ∈ cs, CrossOk a.1 a.2 c) ∧ Apart cs) pLks)
theorem w_crossings_apart (Z : Bz K mg CL CC) (D : Df K mg "crossings_apart" s_crossings_apart [] []) (f_crossings : F_crossings P w K mg base CL) : F_crossings_apart P w K mg base CL :=
  fn_mk (k := 7) D sc_crossings_apart (fun _ => rfl) (bnd2 fun _ _ _ _ _ _ _ _ => rfl) fun f cdv A outer s H1 vs Q X a H hr e hp h q => by
    have sc := sc_crossings_apart
    have hu := hu_of hr
    obtain ⟨l, j⟩ := a
    obtain ⟨vl, vj, rfl, rl, rj⟩ := all2 h
    obtain ⟨hl, hj⟩ := hp
    refine ⟨_, (pss_cons (ps_set (i := 2) sc.nd rfl (Or.inl rfl) (pe_lst pa_nil))
    (pss_cons (ps_for PassesOwn.never rfl (piList K (pe_fn f_crossings hr (by decide) (by rfl) (pa_cons (pv 0) (pa_cons (pv 1) pa_nil)))) (pg_name (i := 3) sc.nd rfl (by first | exact Or.inl rfl | exact Or.inr rfl)) (pss_one (ps_if (PW.pt (pw_or (pt_not (ptTruth K (pv 2) (by intro _; rfl))) (pw_or1 (pt_cmpR op_ge (pe_ix (ixT K) (pv 3) pe_int (fun _ _ => rfl)) (pe_ix (ixT K) (pe_ix (ixL K) (pv 2) (pe_un un_neg pe_int) (fun _ _ => rfl)) pe_int (fun _ _ => rfl)) (nomark _))))) (pss_one (ps_expr (pe_bm PySem.F.plainAttrs_list PySem.F.slot_list_append PySem.F.type_list_append mt_append (pv 2) (pa_cons (pv 3) pa_nil)))) pss_nil)))
    (pss_one (ps_ret (pv 2))))), ?_⟩
    refine q_nil fun fl hfl => ?_
    have s0 := Sep.hid (o := .lst []) e hfl
    refine q_forE (K := K) s0.b (ev_call (l, j) (ea_cons (ev_var rl) (ea_one (ev_var rj))) ⟨hl, hj⟩) fun vc G0 A0 sa ra => ?_
    obtain ⟨ds, ⟨hds, hdl⟩, rd⟩ := ra
    have k0 := sa.keep (e.back hfl) (upd_same (H := H1) (o := .lst []))
    have t0 := s0.trans sa
    refine q_for (H := G0) sa.b (ei_list (ps := ds.map pLk) (ev_cR rd))
      (fun i σ G G1 => Sep H H1 G G1 ∧ (∃ x, σ = [some vl, some vj, some (.ref fl), x]) ∧ G fl = none ∧ ∃ acc cs, G1 fl = some (.lst acc) ∧ All2 G acc (List.map pLk cs) ∧ (∀ c ∈ cs, CrossOk l j c) ∧ Apart cs ∧ cs.length ≤ i)
      (fun H' H2 s => ?_) ?_ ?_
    · have kk := s.keep k0.1 k0.2
      exact ⟨t0.trans s, ⟨_, rfl⟩, kk.1, [], [], kk.2, True.intro, (fun c hc => by cases hc), .nil, Nat.zero_le _⟩
    · rintro i p u σ' G G1 G' G2 hpi ⟨sG, ⟨x, rfl⟩, nG, acc, cs, gG, rA, hcs, hap, hlen⟩ eG s2 rp
      obtain ⟨d, hd, rfl⟩ := map_get hpi
      have hil := (List.getElem?_eq_some_iff.mp hd).1
      have hdc := hds d (List.mem_of_getElem? hd)
      have k2 := s2.keep nG gG
      have rA2 := rA.mono s2.a
      have eS : Ex (upd G' fl (.lst acc)) G2 := s2.b.put k2.2
      have rS : (pLks cs).p (upd G' fl (.lst acc)) (.ref fl) := ⟨fl, acc, rfl, upd_same, rA2.mono (Ex.new k2.1)⟩
      have rp2 : (pLk d).p (upd G' fl (.lst acc)) u := (pLk d).mono (Ex.new k2.1) rp
      refine bnd_name G2 s2.b _ ?_
      refine s_if (b := cs.isEmpty || decide ((cs.getLastD (0, 0)).2 ≤ d.1)) eS (et_or ((et_not (et_truL (ev_var rS))).eq ?_) fun z => ?_) (fun z G3 e3 => ?_) fun z G3 e3 => ?_
      · cases cs <;> rfl
      · rcases List.eq_nil_or_concat cs with e | ⟨ys, y, e⟩
        · rw [e] at z
          cases z
        · rw [List.concat_eq_append] at e
          subst e
          have r4 : (pL (ys.map pLk ++ [pLk y])).p (upd G' fl (.lst acc)) (.ref fl) := by
            rw [← List.map_singleton, ← List.map_append]
            exact rS
          refine (et_test (ev_I0 (i := (d.1 : Int)) (j := (y.2 : Int)) (ev_ixT' (n := 0) (ps := [pN d.1, pN d.2]) (ev_var rp2) rfl rfl) (ev_ixT' (n := 1) (ps := [pN y.1, pN y.2]) (ev_ixLast (ev_var r4) ev_neg1) rfl rfl))).eq ?_
          simp
      · have hap2 : Apart (cs ++ [d]) := by
          refine List.pairwise_append.mpr ⟨hap, List.pairwise_singleton _ _, fun c hc b hb => ?_⟩
          have hb : b = d := by simpa using hb
          subst hb
          rcases List.eq_nil_or_concat cs with e | ⟨ys, y, e⟩
          · rw [e] at hc
            cases hc
          · rw [List.concat_eq_append] at e
            subst e
            have z2 : y.2 ≤ b.1 := by simpa using z
            rcases List.mem_append.mp hc with w | w
            · have h1 := (List.pairwise_append.mp hap).2.2 c w y (by simp)
              have h2 := (hcs y (by simp)).1
              omega
            · have : c = y := by simpa using w
              rw [this]
              exact z2
        refine s_app (K := K) (i := 2) (l := fl) (s2.b.trans e3) k2.1 (e3 _ _ k2.2) rfl (ev_var rp) ?_ fun w2 G4 G5 s4 r4 => ?_
        · have h1 := rA2.length
          rw [List.length_map] at h1
          omega
        · have k4 := s4.keep k2.1 (e3 _ _ k2.2)
          refine ⟨G4, s2.a.trans s4.a, s4.b.mut k4.1, ((sG.trans s2).ext e3 |>.trans s4).mut hfl k4.1, ⟨_, rfl⟩, k4.1, acc ++ [w2], cs ++ [d], upd_same, ?_, ?_, hap2, ?_⟩
          · rw [List.map_append]
            exact (rA2.mono s4.a).snoc r4
          · intro c hc
            rcases List.mem_append.mp hc with z | z
            · exact hcs c z
            · have z : c = d := by simpa using z
              rw [z]
              exact hdc
          · rw [List.length_append]
            show cs.length + 1 ≤ _
            omega
      · exact ⟨G', s2.a, s2.b.trans e3, (sG.trans s2).ext e3, ⟨_, rfl⟩, k2.1, acc, cs, e3 _ _ k2.2, rA2, hcs, hap, by omega⟩
    · rintro σ' G G1 eG eG1 ⟨sG, ⟨x, rfl⟩, nG, acc, cs, gG, rA, hcs, hap, hlen⟩
      have eS : Ex (upd G fl (.lst acc)) G1 := eG1.put gG
      have sN : Sep H H1 (upd G fl (.lst acc)) G1 := sG.own hfl nG gG
      exact s_ret eS (ev_var (R := pE (fun cs => (∀ c ∈ cs, CrossOk l j c) ∧ Apart cs) pLks) ⟨cs, ⟨hcs, hap⟩, fl, acc, rfl, upd_same, rA.mono (Ex.new nG)⟩) (q.go sN)
abbrev s_strikes_in : Stmt := topS 54
theorem sc_strikes_in : FnScope ["log", "places", "first", "rows", "many", "ahead", "place"] ["log", "places", "first"] (defScope s_strikes_in) := ⟨rfl, rfl, rfl, by decide +kernel, rfl, by decide +kernel, by decide +kernel⟩
abbrev n_strikes_in : List Str := ["log", "places", "first", "rows", "many", "ahead", "place"]
abbrev F_strikes_in (P : Program) (w : World) (K : PySem.W.Frag) (mg : Str → Option Value) (base : Heap) (CL : Addr) : Prop := Fn P w K mg base 4 "strikes_in" ["log", "places", "first"] (spN (fun a : LogD × List Nat × Nat => [pLog CL a.1, pNs a.2.1, pN a.2.2]) (fun a => a.2.1.length ≤ 120 ∧ ∀ p ∈ a.2.1, a.1.isAns p = true) fun a => pE (fun ns : List Nat => ns.length ≤ 240) pNs)
def rowAt (l : LogD) (ps : List Nat) (first m : Nat) : List Nat := ((ps.take m).filter fun p => !decide (l.gradeAt p = first)) ++ (ps.drop m).filter fun p => decide (l.gradeAt p = first)
theorem w_strikes_in (Z : Bz K mg CL CC) (D : Df K mg "strikes_in" s_strikes_in [] []) (m_Log_grade_at : M_grade_at P w K mg base CL) : F_strikes_in P w K mg base CL :=
  fn_mk (k := 3) D sc_strikes_in (fun _ => rfl) (bnd3 fun _ _ _ _ _ _ _ _ _ => rfl) fun f cdv A outer s H1 vs Q X a H hr e hp h q => by
    have sc := sc_strikes_in
    have hu := hu_of hr
    obtain ⟨l, ps, first⟩ := a
    obtain ⟨vl, vp, vf, rfl, rl, rp, rf⟩ := all3 h
    obtain ⟨hz, hps⟩ := hp
    have hz : ps.length ≤ 120 := hz
    have hps : ∀ p ∈ ps, l.isAns p = true := hps
    refine ⟨_, (pss_cons (ps_set (i := 3) sc.nd rfl (Or.inl rfl) (pe_lst pa_nil))
    (pss_cons (ps_for PassesOwn.never rfl (pi_range1 (by rfl) Z.range (pa_cons (pe_op op_add (pe_callB (cLen K) (by rfl) Z.len PySem.boot_len (pa_cons (pv 1) pa_nil)) pe_int) pa_nil)) (pg_name (i := 4) sc.nd rfl (by first | exact Or.inl rfl | exact Or.inr rfl)) (pss_cons (ps_setLc (i := 5) (own := [("place", 6)]) (g := (gName 6)) rfl sc.nd rfl rfl (sw_true rfl rfl rfl (by decide +kernel)) (piList K (pe_slice (slList K) (pv 1) po_none (po_some (pv 4)))) (blkOk_by (N := n_strikes_in) (sc := defScope s_strikes_in) (by decide +kernel)) (fun _ _ _ _ _ => (pg_name (i := 6) sc.nd rfl (by first | exact Or.inl rfl | exact Or.inr rfl))) (fun _ _ _ _ _ => pts_one (pt_cmpR op_ne (pe_me m_Log_grade_at Z.c_Log hr (by decide) (pv 0) (pa_cons (pv 6) pa_nil)) (pv 2) (nomark _))) (fun _ _ _ _ _ => (pv 6)))
    (pss_one (ps_expr (pe_bm PySem.F.plainAttrs_list PySem.F.slot_list_append PySem.F.type_list_append mt_append (pv 3) (pa_cons (pe_op op_cat (pv 5) (pe_lc (own := [("place", 6)]) (g := (gName 6)) rfl sc.nd (piList K (pe_slice (slList K) (pv 1) (po_some (pv 4)) po_none)) (blkOk_by (N := n_strikes_in) (sc := defScope s_strikes_in) (by decide +kernel)) (fun _ _ _ _ _ => (pg_name (i := 6) sc.nd rfl (by first | exact Or.inl rfl | exact Or.inr rfl))) (fun _ _ _ _ _ => pts_one (pt_cmpR op_eq (pe_me m_Log_grade_at Z.c_Log hr (by decide) (pv 0) (pa_cons (pv 6) pa_nil)) (pv 2) (nomark _))) (fun _ _ _ _ _ => (pv 6)))) pa_nil))))))
    (pss_one (ps_ret (pe_minLen hr.hd (by rfl) Z.min (by rfl) Z.len (pv 3)))))), ?_⟩
    refine q_nil fun fl hfl => ?_
    have s0 := Sep.hid (o := .lst []) e hfl
    refine q_for s0.b (ei_range (n := ps.length + 1) (ea_one ((ev_I0 (i := (ps.length : Int)) (j := 1) ((ev_len (ev_var rp)).eq (by simp)) ev_c).eq (by simp))) (by omega))
      (fun i σ G G1 => Sep H H1 G G1 ∧ (∃ x y, σ = [some vl, some vp, some vf, some (.ref fl), x, y, none]) ∧ G fl = none ∧ ∃ acc, G1 fl = some (.lst acc) ∧ All2 G acc (((List.range i).map (rowAt l ps first)).map pNs))
      (fun H' H2 s => ?_) ?_ ?_
    · have kk := s.keep (e.back hfl) upd_same
      exact ⟨s0.trans s, ⟨_, _, rfl⟩, kk.1, [], kk.2, True.intro⟩
    · rintro i p u σ' G G1 G' G2 hpi ⟨sG, ⟨x, y, rfl⟩, nG, acc, gG, rA⟩ eG s2 rp2
      obtain ⟨m, hm, rfl⟩ := map_get hpi
      have hil : i < ps.length + 1 := by
        have := (List.getElem?_eq_some_iff.mp hm).1
        simpa using this
      have hmi : m = i := by
        have := (List.getElem?_eq_some_iff.mp hm).2
        simpa using this.symm
      subst hmi
      have k2 := s2.keep nG gG
      have rl2 := (pLog CL l).mono (sG.a.trans s2.a) rl
      have rps2 := (pNs ps).mono (sG.a.trans s2.a) rp
      have rf2 := (pN first).mono (sG.a.trans s2.a) rf
      refine bnd_name G2 s2.b _ ?_
      have htk : (ps.take m).map pN = (ps.map pN).take m := List.map_take
      have hdr : (ps.drop m).map pN = (ps.map pN).drop m := List.map_drop
      refine q_asg s2.b (ev_lc (as := ps.take m) (f := pN) (h := pN) (t := fun p => !decide (l.gradeAt p = first)) (by
          rw [htk]
          exact ei_list (ev_upto (n := m) (ev_var rps2) (ev_var rp2))) (by
          rw [List.length_take]
          omega) fun p v G3 hp eG3 rv => ⟨_, bnd_name, rfl, (et_test (ev_ne (x := .int (l.gradeAt p : Int)) (y := .int (first : Int)) (ev_meth (as := [pN p]) (l, p) (ev_var ((pLog CL l).mono eG3 rl2)) (log_ins rfl) (ea_one (ev_var rv)) rfl (hps p (List.mem_of_mem_take hp))) (ev_var ((pN first).mono eG3 rf2)) rfl)).eq (by simp; omega), fun _ => ev_var rv⟩) fun va G4 A4 s4 ra => ?_
      have k4 := s4.keep k2.1 k2.2
      refine s_app (K := K) (R := pNs (rowAt l ps first m)) (i := 3) (l := fl) s4.b k4.1 k4.2 rfl (Ev.imp (ev_cat (ev_var ra) (ev_lc (as := ps.drop m) (f := pN) (h := pN) (t := fun p => decide (l.gradeAt p = first)) (by
          rw [hdr]
          exact ei_list (ev_from (n := m) (ev_var ((pNs ps).mono s4.a rps2)) (ev_var ((pN m).mono s4.a rp2)))) (by
          rw [List.length_drop]
          omega) fun p v G3 hp eG3 rv => ⟨_, bnd_name, rfl, (et_test (ev_eq (x := .int (l.gradeAt p : Int)) (y := .int (first : Int)) (ev_meth (as := [pN p]) (l, p) (ev_var ((pLog CL l).mono eG3 ((pLog CL l).mono s4.a rl2))) (log_ins rfl) (ea_one (ev_var rv)) rfl (hps p (List.mem_of_mem_drop hp))) (ev_var ((pN first).mono eG3 ((pN first).mono s4.a rf2))) rfl)).eq (by simp; omega), fun _ => ev_var rv⟩) ?_) fun H' v _ r => ?_) ?_ fun w2 G5 G6 s5 r5 => ?_
      · have h1 := List.length_filter_le (fun p => !decide (l.gradeAt p = first)) (ps.take m)
        have h2 := List.length_filter_le (fun p => decide (l.gradeAt p = first)) (ps.drop m)
        rw [List.length_take] at h1
        rw [List.length_drop] at h2
        rw [List.length_map, List.length_map]
        omega
      · show (pL ((rowAt l ps first m).map pN)).p H' v
        unfold rowAt
        rw [List.map_append]
        exact r
      · have h1 := rA.length
        rw [List.length_map, List.length_map, List.length_range] at h1
        omega
      · have k5 := s5.keep k4.1 k4.2
        refine ⟨G5, s2.a.trans (s4.a.trans s5.a), s5.b.mut k5.1, (((sG.trans s2).trans s4).trans s5).mut hfl k5.1, ⟨_, _, rfl⟩, k5.1, acc ++ [w2], upd_same, ?_⟩
        rw [List.range_succ, List.map_append, List.map_append]
        exact (rA.mono (s2.a.trans (s4.a.trans s5.a))).snoc r5
    · rintro σ' G G1 eG eG1 ⟨sG, ⟨x, y, rfl⟩, nG, acc, gG, rA⟩
      rw [List.length_map, List.length_range] at rA
      have eS : Ex (upd G fl (.lst acc)) G1 := eG1.put gG
      have sN : Sep H H1 (upd G fl (.lst acc)) G1 := sG.own hfl nG gG
      rw [List.map_map] at rA
      refine s_ret eS (ev_minLen (R := pE (fun ns : List Nat => ns.length ≤ 240) pNs) (as := List.range (ps.length + 1)) (f := fun m => (rowAt l ps first m).map pN) (ev_var ⟨fl, acc, rfl, upd_same, rA.mono (Ex.new nG)⟩) ?_ fun m hm H' v r => ⟨rowAt l ps first m, ?_, r⟩) (q.go sN)
      · rw [List.range_succ]
        simp
      · show (rowAt l ps first m).length ≤ 240
        unfold rowAt
        have h1 := List.length_filter_le (fun p => !decide (l.gradeAt p = first)) (ps.take m)
        have h2 := List.length_filter_le (fun p => decide (l.gradeAt p = first)) (ps.drop m)
        rw [List.length_take] at h1
        rw [List.length_drop] at h2
        rw [List.length_append]
        omega
end
end Rb
set_option Elab.async false
set_option linter.all false
set_option maxRecDepth 100000
set_option maxHeartbeats 3200000
/-! Walks: pairs_in, fewest_strikes. -/
namespace Rb
open PySem PySem.Spec PyProof.Rows L2
section
variable {σ : L2.St} {H H1 : Hp} {te : TE} {α : Type} {Pp : α → Prop} {f : α → List Pr} {D : Ends} {tz : TS} {i : Nat} {l : Addr} {xs : List V}
theorem s_extE (e : Ex H H1) (h1 : H1 l = some (.lst xs)) (hs : σ[i]? = some (some (.ref l))) (h : Ev te σ H (pE Pp fun x => pL (f x))) (hz : ∀ x, Pp x → xs.length + (f x).length < 100000)
    (k : ∀ x zs H' H2, Pp x → Sep H H1 H' H2 → All2 H' zs (f x) → D.nx (σ.set i (some (.ref l))) (upd H2 l (.lst (xs ++ zs)))) : tAug i te rExt2 D σ H1 :=
  ⟨.ref l, hs, h H1 e _ fun v H' H2 s ⟨x, hP, b, zs, ev, hb, hx⟩ => ⟨l, b, xs, zs, rfl, ev, s.c _ _ h1, s.b _ _ hb, Nat.le_of_lt (Nat.lt_of_lt_of_le (by rw [hx.length]; exact hz x hP) (by decide)), k x zs H' H2 hP s hx⟩⟩
theorem q_extE (e : Ex H H1) (h1 : H1 l = some (.lst xs)) (hs : σ[i]? = some (some (.ref l))) (h : Ev te σ H (pE Pp fun x => pL (f x))) (hz : ∀ x, Pp x → xs.length + (f x).length < 100000)
    (k : ∀ x zs H' H2, Pp x → Sep H H1 H' H2 → All2 H' zs (f x) → tz D (σ.set i (some (.ref l))) (upd H2 l (.lst (xs ++ zs)))) : tSeq (tAug i te rExt2) tz D σ H1 := s_extE (D := { D with nx := tz D }) e h1 hs h hz k
end
theorem ends_snoc (cs : List (Nat × Nat)) (a b : Nat) : ends (cs ++ [(a, b)]) = ends cs ++ [a, b] := by
  unfold ends
  rw [List.flatMap_append]
  rfl
section
variable {P : Program} {w : World} {K : PySem.W.Frag} {mg : Str → Option Value} {base : Heap} {CL CC : Addr}
abbrev s_pairs_in : Stmt := topS 55
theorem sc_pairs_in : FnScope ["log", "places", "first", "pairs", "free", "place"] ["log", "places", "first"] (defScope s_pairs_in) := ⟨rfl, rfl, rfl, by decide +kernel, rfl, by decide +kernel, by decide +kernel⟩
abbrev n_pairs_in : List Str := ["log", "places", "first", "pairs", "free", "place"]
abbrev F_pairs_in (P : Program) (w : World) (K : PySem.W.Frag) (mg : Str → Option Value) (base : Heap) (CL : Addr) : Prop := Fn P w K mg base 4 "pairs_in" ["log", "places", "first"] (spN (fun a : LogD × List Nat × Nat => [pLog CL a.1, pNs a.2.1, pN a.2.2]) (fun a => a.2.1.length ≤ 120 ∧ Asc a.2.1 ∧ ∀ p ∈ a.2.1, a.1.isAns p = true) fun a => pE (fun cs => (∀ c ∈ cs, PairOk a.1 a.2.1 a.2.2 c) ∧ (ends cs).Nodup ∧ cs.length ≤ 120) pLks)
structure PrI (l : LogD) (ps : List Nat) (first i : Nat) (cs : List (Nat × Nat)) (fr : List Nat) : Prop where
  ok : ∀ c ∈ cs, PairOk l ps first c
  nd : (ends cs ++ fr).Nodup
  sub : ∀ x ∈ ends cs ++ fr, x ∈ ps.take i
  gr : ∀ x ∈ fr, l.gradeAt x ≠ first
  len : cs.length + fr.length ≤ i
theorem PrI.free {l : LogD} {ps : List Nat} {first i n : Nat} {cs : List (Nat × Nat)} {fr : List Nat} (h : PrI l ps first i cs fr) (ha : Asc ps) (hn : ps[i]? = some n) (hg : l.gradeAt n ≠ first) : PrI l ps first (i + 1) cs (fr ++ [n]) := by
  have hil := (List.getElem?_eq_some_iff.mp hn).1
  have htk : ps.take (i + 1) = ps.take i ++ [n] := by rw [List.take_succ_eq_append_getElem hil, (List.getElem?_eq_some_iff.mp hn).2]
  have hnew : n ∉ ps.take i := fun hm => by
    have h1 : Asc (ps.take i ++ [n]) := by
      rw [← htk]
      exact ha.sublist (List.take_sublist _ _)
    have := (List.pairwise_append.mp h1).2.2 n hm n (by simp)
    omega
  refine ⟨h.ok, ?_, fun x hx => ?_, fun x hx => ?_, ?_⟩
  · rw [← List.append_assoc]
    refine List.nodup_append.mpr ⟨h.nd, List.pairwise_singleton _ _, fun a ha b hb e => ?_⟩
    have hb : b = n := by simpa using hb
    rw [hb] at e
    rw [e] at ha
    exact hnew (h.sub n ha)
  · rw [← List.append_assoc] at hx
    rw [htk]
    rcases List.mem_append.mp hx with z | z
    · exact List.mem_append_left _ (h.sub x z)
    · exact List.mem_append_right _ z
  · rcases List.mem_append.mp hx with z | z
    · exact h.gr x z
    · have : x = n := by simpa using z
      rw [this]
      exact hg
  · have := h.len
    rw [List.length_append]
    show _ + (_ + 1) ≤ _
    omega
theorem PrI.none {l : LogD} {ps : List Nat} {first i : Nat} {cs : List (Nat × Nat)} {fr : List Nat} (h : PrI l ps first i cs fr) : PrI l ps first (i + 1) cs fr :=
  ⟨h.ok, h.nd, fun x hx => by
    have h1 := h.sub x hx
    exact (List.take_subset_take_left ps (Nat.le_succ i)) h1, h.gr, by have := h.len; omega⟩
theorem PrI.pair {l : LogD} {ps : List Nat} {first i n f : Nat} {cs : List (Nat × Nat)} {fr : List Nat} (h : PrI l ps first i cs (f :: fr)) (ha : Asc ps) (hn : ps[i]? = some n) (hg : l.gradeAt n = first) : PrI l ps first (i + 1) (cs ++ [(f, n)]) fr := by
  have hil := (List.getElem?_eq_some_iff.mp hn).1
  have htk : ps.take (i + 1) = ps.take i ++ [n] := by rw [List.take_succ_eq_append_getElem hil, (List.getElem?_eq_some_iff.mp hn).2]
  have hlt : ∀ x ∈ ps.take i, x < n := fun x hm => by
    have h1 : Asc (ps.take i ++ [n]) := by
      rw [← htk]
      exact ha.sublist (List.take_sublist _ _)
    exact (List.pairwise_append.mp h1).2.2 x hm n (by simp)
  have hf := h.sub f (by simp)
  have hperm : (ends (cs ++ [(f, n)]) ++ fr).Perm (n :: (ends cs ++ f :: fr)) := by
    rw [ends_snoc]
    have e1 : ends cs ++ [f, n] ++ fr = (ends cs ++ [f]) ++ n :: fr := by simp
    have e2 : ends cs ++ f :: fr = (ends cs ++ [f]) ++ fr := by simp
    rw [e1, e2]
    exact List.perm_middle
  refine ⟨fun c hc => ?_, ?_, fun x hx => ?_, fun x hx => h.gr x (List.mem_cons_of_mem _ hx), ?_⟩
  · rcases List.mem_append.mp hc with z | z
    · exact h.ok c z
    · have : c = (f, n) := by simpa using z
      rw [this]
      exact ⟨List.mem_of_mem_take hf, List.mem_of_getElem? hn, hlt f hf, h.gr f List.mem_cons_self, hg⟩
  · refine hperm.nodup_iff.mpr (List.nodup_cons.mpr ⟨fun hm => ?_, h.nd⟩)
    have := hlt n (h.sub n hm)
    omega
  · rw [htk]
    rcases List.mem_cons.mp (hperm.mem_iff.mp hx) with z | z
    · rw [z]
      simp
    · exact List.mem_append_left _ (h.sub x z)
  · have := h.len
    rw [List.length_cons] at this
    rw [List.length_append]
    show _ + 1 + _ ≤ _
    omega
theorem w_pairs_in (Z : Bz K mg CL CC) (D : Df K mg "pairs_in" s_pairs_in [] []) (m_Log_grade_at : M_grade_at P w K mg base CL) : F_pairs_in P w K mg base CL :=
  fn_mk (k := 3) D sc_pairs_in (fun _ => rfl) (bnd3 fun _ _ _ _ _ _ _ _ _ => rfl) fun f cdv A outer s H1 vs Q X a H hr e hp h q => by
    have sc := sc_pairs_in
    have hu := hu_of hr
    obtain ⟨l, ps, first⟩ := a
    obtain ⟨vl, vp, vf, rfl, rl, rp, rf⟩ := all3 h
    obtain ⟨hz, hasc, hps⟩ := hp
    have hz : ps.length ≤ 120 := hz
    have hasc : Asc ps := hasc
    have hps : ∀ p ∈ ps, l.isAns p = true := hps
    refine ⟨_, (pss_cons (ps_set (i := 3) sc.nd rfl (Or.inl rfl) (pe_lst pa_nil))
    (pss_cons (ps_set (i := 4) sc.nd rfl (Or.inl rfl) (pe_lst pa_nil))
    (pss_cons (ps_for PassesOwn.never rfl (piList K (pv 1)) (pg_name (i := 5) sc.nd rfl (by first | exact Or.inl rfl | exact Or.inr rfl)) (pss_one (ps_if (pt_cmpR op_ne (pe_me m_Log_grade_at Z.c_Log hr (by decide) (pv 0) (pa_cons (pv 5) pa_nil)) (pv 2) (nomark _)) (pss_one (ps_expr (pe_bm PySem.F.plainAttrs_list PySem.F.slot_list_append PySem.F.type_list_append mt_append (pv 4) (pa_cons (pv 5) pa_nil)))) (pss_one (ps_if (ptTruth K (pv 4) (by intro _; rfl)) (pss_cons (ps_expr (pe_bm PySem.F.plainAttrs_list PySem.F.slot_list_append PySem.F.type_list_append mt_append (pv 3) (pa_cons (pe_tup (pa_cons (pe_ix (ixL K) (pv 4) pe_int (fun _ _ => rfl)) (pa_cons (pv 5) pa_nil))) pa_nil)))
    (pss_one (ps_set (i := 4) sc.nd rfl (Or.inl rfl) (pe_slice (slList K) (pv 4) (po_some pe_int) po_none)))) pss_nil)))))
    (pss_one (ps_ret (pv 3)))))), ?_⟩
    refine q_nil fun fl hfl => ?_
    refine q_nil fun w0 hw0 => ?_
    have hfw : fl ≠ w0 := ne_of_none upd_same hw0
    have hw0H : H1 w0 = none := (Ex.new hfl).back hw0
    have s0 : Sep H H1 H (upd (upd H1 fl (.lst [])) w0 (.lst [])) := (Sep.hid e hfl).ext (Ex.new hw0)
    refine q_for s0.b (ei_list (ps := ps.map pN) (ev_var rp))
      (fun i σ F F1 => Sep H H1 F F1 ∧ ∃ wr x acc cs fr, σ = [some vl, some vp, some vf, some (.ref fl), some (.ref wr), x] ∧ fl ≠ wr ∧ F fl = none ∧ F wr = none ∧ H1 wr = none ∧ F1 fl = some (.lst acc) ∧ All2 F acc (List.map pLk cs) ∧ F1 wr = some (.lst (List.map (fun n : Nat => V.int (n : Int)) fr)) ∧ PrI l ps first i cs fr)
      (fun H' H2 s => ?_) ?_ ?_
    · have kf := s.keep (e.back hfl) (show (upd (upd H1 fl (.lst [])) w0 (.lst [])) fl = some (.lst []) by rw [upd_ne hfw]; exact upd_same)
      have kw := s.keep (e.back hw0H) (upd_same (H := upd H1 fl (.lst [])) (o := .lst []))
      exact ⟨s0.trans s, w0, _, [], [], [], rfl, hfw, kf.1, kw.1, hw0H, kf.2, True.intro, kw.2, ⟨(fun c hc => by cases hc), .nil, (fun x hx => by cases hx), (fun x hx => by cases hx), Nat.le_refl _⟩⟩
    · rintro i p u σ' F F1 F' F2 hpi ⟨sF, wr, x, acc, cs, fr, rfl, nfw, nF, nW, nWH, gF, rF, gW, hI⟩ eF s2 rp2
      obtain ⟨n, hn, rfl⟩ := map_get hpi
      have hil := (List.getElem?_eq_some_iff.mp hn).1
      have hna := hps n (List.mem_of_getElem? hn)
      have kf := s2.keep nF gF
      have kw := s2.keep nW gW
      have hlen := hI.len
      have rl2 := (pLog CL l).mono (sF.a.trans s2.a) rl
      have rf2 := (pN first).mono (sF.a.trans s2.a) rf
      have rn : u = .int (n : Int) := rp2
      have haccl : acc.length = cs.length := by
        have := rF.length
        rwa [List.length_map] at this
      refine bnd_name F2 s2.b _ ?_
      refine s_if (b := !decide (l.gradeAt n = first)) s2.b ((et_test (ev_ne (x := .int (l.gradeAt n : Int)) (y := .int (first : Int)) (ev_meth (as := [pN n]) (l, n) (ev_var rl2) (log_ins rfl) (ea_one (ev_var rp2)) rfl hna) (ev_var rf2) rfl)).eq (by simp; omega)) (fun z F3 e3 => ?_) fun z F3 e3 => ?_
      · have z2 : l.gradeAt n ≠ first := by simpa using z
        refine s_app (K := K) (i := 4) (l := wr) (s2.b.trans e3) kw.1 (e3 _ _ kw.2) rfl (ev_var rp2) (by
          rw [List.length_map]
          omega) fun w2 G4 G5 s4 r4 => ?_
        have r4 : w2 = .int (n : Int) := r4
        subst r4
        have kf4 := s4.keep kf.1 (e3 _ _ kf.2)
        have kw4 := s4.keep kw.1 (e3 _ _ kw.2)
        refine ⟨G4, s2.a.trans s4.a, s4.b.mut kw4.1, (((sF.trans s2).ext e3).trans s4).mut nWH kw4.1, wr, _, acc, cs, fr ++ [n], rfl, nfw, kf4.1, kw4.1, nWH, ?_, rF.mono (s2.a.trans s4.a), ?_, hI.free hasc hn z2⟩
        · rw [upd_ne nfw]
          exact kf4.2
        · rw [upd_same, List.map_append]
          rfl
      · have z2 : l.gradeAt n = first := by simpa using z
        have e23 := s2.b.trans e3
        have kf3 := e3 _ _ kf.2
        have kw3 := e3 _ _ kw.2
        have eS : Ex (upd F' wr (.lst (List.map (fun n : Nat => V.int (n : Int)) fr))) F3 := e23.put kw3
        refine s_if (b := !fr.isEmpty) eS ((et_truL (ev_var (R := pNs fr) ⟨wr, _, rfl, upd_same, all2_of_pV (f := fun n : Nat => V.int (n : Int))⟩)).eq (by cases fr <;> rfl)) (fun z3 F4 e4 => ?_) fun z3 F4 e4 => ?_
        · cases fr with
          | nil => cases z3
          | cons f0 fr =>
            have kf4 := e4 _ _ kf3
            have kw4 := e4 _ _ kw3
            have sF4 := ((sF.trans s2).ext e3).ext e4
            have hb : acc.length < 100000 := by
              rw [List.length_cons] at hlen
              omega
            refine ⟨.ref fl, rfl, .inl ⟨rfl, acc, SqL.of kf4⟩, .ref wr, rfl, wr, _, 0, .int (f0 : Int), rfl, rfl, SqL.of kw4, atI_nat (j := 0) rfl, u, rfl, by show 2 ≤ sizeLine; decide, fun tp htp => ⟨fl, acc, .ref tp, rfl, rfl, (Ex.new htp) _ _ kf4, Nat.lt_of_lt_of_le hb (by decide), ?_⟩⟩
            have s5 := Sep.new (o := .tup [.int (f0 : Int), u]) sF4.b htp
            have kf5 := s5.keep kf.1 kf4
            have kw5 := s5.keep kw.1 kw4
            have hftp : fl ≠ tp := ne_of_none kf4 htp
            have hwtp : wr ≠ tp := ne_of_none kw4 htp
            have kw6 : (upd (upd F4 tp (.tup [.int (f0 : Int), u])) fl (.lst (acc ++ [.ref tp]))) wr = some (.lst (List.map (fun n : Nat => V.int (n : Int)) (f0 :: fr))) := by
              rw [upd_ne (Ne.symm nfw)]
              exact kw5.2
            refine ⟨.ref wr, rfl, 1, rfl, wr, _, rfl, SqL.of kw6, fun wn hwn => ?_⟩
            rw [show cutV (List.map (fun n : Nat => V.int (n : Int)) (f0 :: fr)) (some 1) none = List.map (fun n : Nat => V.int (n : Int)) fr from cut_from1 _ _]
            have t5 := (sF4.trans s5).mut (o := .lst (acc ++ [.ref tp])) hfl kf5.1
            have nwn := t5.b.back hwn
            have nwnH := t5.c.back hwn
            have hfwn : fl ≠ wn := ne_of_none upd_same hwn
            refine ⟨_, s2.a.trans s5.a, t5.b.trans (Ex.new hwn), t5.ext (Ex.new hwn), wn, _, acc ++ [.ref tp], cs ++ [(f0, n)], fr, rfl, hfwn, kf5.1, nwn, nwnH, ?_, ?_, upd_same, hI.pair hasc hn z2⟩
            · rw [upd_ne hfwn]
              exact upd_same
            · rw [List.map_append]
              exact (rF.mono (s2.a.trans s5.a)).snoc ⟨tp, [.int (f0 : Int), u], rfl, upd_same, rfl, rn, True.intro⟩
        · exact ⟨F', s2.a, (e23.trans e4), ((sF.trans s2).ext e3).ext e4, wr, _, acc, cs, fr, rfl, nfw, kf.1, kw.1, nWH, e4 _ _ kf3, rF.mono s2.a, e4 _ _ kw3, hI.none⟩
    · rintro σ' G G1 eG eG1 ⟨sG, wr, x, acc, cs, fr, rfl, nfw, nF, nW, nWH, gF, rF, gW, hI⟩
      have eS : Ex (upd G fl (.lst acc)) G1 := eG1.put gF
      have sN : Sep H H1 (upd G fl (.lst acc)) G1 := sG.own hfl nF gF
      have hl := hI.len
      rw [List.length_map] at hl
      exact s_ret eS (ev_var (R := pE (fun cs => (∀ c ∈ cs, PairOk l ps first c) ∧ (ends cs).Nodup ∧ cs.length ≤ 120) pLks) ⟨cs, ⟨hI.ok, (List.nodup_append.mp hI.nd).1, by show cs.length ≤ 120; omega⟩, fl, acc, rfl, upd_same, rF.mono (Ex.new nF)⟩) (q.go sN)
end
end Rb
set_option Elab.async false
set_option linter.all false
set_option maxRecDepth 100000
set_option maxHeartbeats 3200000
/-! Walks: fewest_strikes. -/
namespace Rb
open PySem PySem.Spec PyProof.Rows L2
def firstOf (l : LogD) (j : Str) : Nat := if l.driftOf j = ("rises" : Str) then 1 else 0
/-- a pair of the log: two answers of one stretch and one item that contradict -/
def PrOk (l : LogD) (j : Str) (c : Nat × Nat) : Prop := c.1 < c.2 ∧ l.isAns c.1 = true ∧ l.isAns c.2 = true ∧ l.evJ c.1 = j ∧ l.evJ c.2 = j ∧ lotA l j c.1 = lotA l j c.2 ∧ l.itemAt c.1 = l.itemAt c.2 ∧ l.gradeAt c.1 ≠ firstOf l j ∧ l.gradeAt c.2 = firstOf l j
theorem mem_ends {cs : List (Nat × Nat)} {x : Nat} : x ∈ ends cs ↔ ∃ c ∈ cs, x = c.1 ∨ x = c.2 := by
  unfold ends
  rw [List.mem_flatMap]
  simp
section
variable {P : Program} {w : World} {K : PySem.W.Frag} {mg : Str → Option Value} {base : Heap} {CL CC : Addr}
abbrev s_fewest_strikes : Stmt := topS 56
theorem sc_fewest_strikes : FnScope ["log", "judge", "first", "strikes", "pairs", "stretch", "item", "places", "place"] ["log", "judge"] (defScope s_fewest_strikes) := ⟨rfl, rfl, rfl, by decide +kernel, rfl, by decide +kernel, by decide +kernel⟩
abbrev n_fewest_strikes : List Str := ["log", "judge", "first", "strikes", "pairs", "stretch", "item", "places", "place"]
abbrev F_fewest_strikes (P : Program) (w : World) (K : PySem.W.Frag) (mg : Str → Option Value) (base : Heap) (CL : Addr) : Prop := Fn P w K mg base 7 "fewest_strikes" ["log", "judge"] (spN (fun a : LogD × Str => [pLog CL a.1, pS a.2]) (fun a => a.1.Ok ∧ a.2 ∈ a.1.names ∧ a.1.events.length ≤ 10 ∧ a.1.driftOf a.2 ≠ ("stays" : Str) ∧ a.1.grades = 1)
  fun a => pE (fun x : List Nat × List (Nat × Nat) => (∀ c ∈ x.2, PrOk a.1 a.2 c) ∧ (ends x.2).Nodup) fun x => pT [pNs x.1, pLks x.2])
/-- what stands in the loops -/
def FwI (l : LogD) (j : Str) (i : Nat) (st : List Nat) (m : Nat) (ns : List Nat) (cs : List (Nat × Nat)) : Prop :=
  ns.length ≤ i * 4800 + m * 240 ∧ cs.length ≤ i * 2400 + m * 120 ∧ (∀ c ∈ cs, PrOk l j c) ∧ (ends cs).Nodup ∧ ∀ x ∈ ends cs, x ∈ ((l.stretches j).take i).flatMap id ∨ (x ∈ st ∧ l.itemAt x ∈ l.items.take m)
theorem w_fewest_strikes (Z : Bz K mg CL CC) (D : Df K mg "fewest_strikes" s_fewest_strikes [] []) (f_check_drifting : F_check_drifting P w K mg base CL) (m_Log_drift_of : M_drift_of P w K mg base CL) (m_Log_stretches : M_stretches P w K mg base CL) (p_Log_item_names : P_item_names P w K mg base CL) (m_Log_item_at : M_item_at P w K mg base CL)
    (f_strikes_in : F_strikes_in P w K mg base CL) (f_pairs_in : F_pairs_in P w K mg base CL) : F_fewest_strikes P w K mg base CL :=
  fn_mk (k := 6) D sc_fewest_strikes (fun _ => rfl) (bnd2 fun _ _ _ _ _ _ _ _ => rfl) fun f cdv A outer s H1 vs Q X a H hr e hp h q => by
    have sc := sc_fewest_strikes
    have hu := hu_of hr
    obtain ⟨l, j⟩ := a
    obtain ⟨vl, vj, rfl, rl, rj⟩ := all2 h
    obtain ⟨hl, hj, hev, hdr, hgr⟩ := hp
    have hl : l.Ok := hl
    have hev : l.events.length ≤ 10 := hev
    have hit := hl.items.hi
    have hstl : (l.stretches j).length ≤ 10 := by
      have h1 := l.stFold_len (l.answersOf j) []
      have h2 := l.answersOf_len j
      have h3 : (l.stretches j).length = ((l.answersOf j).foldl l.stStep []).length := rfl
      simp at h1
      omega
    refine ⟨_, (pss_cons (ps_expr (pe_fn f_check_drifting hr (by decide) (by rfl) (pa_cons (pv 0) (pa_cons (pv 1) pa_nil))))
    (pss_cons (ps_set (i := 2) sc.nd rfl (Or.inl rfl) (pe_callTy call_int1 (by rfl) Z.int (by decide +kernel) (pa_cons (pe_cmpR op_eq (pe_me m_Log_drift_of Z.c_Log hr (by decide) (pv 0) (pa_cons (pv 1) pa_nil)) (pe_gs rfl Z.RISES) (nomark _)) pa_nil)))
    (pss_cons (ps_set (i := 3) sc.nd rfl (Or.inl rfl) (pe_lst pa_nil))
    (pss_cons (ps_set (i := 4) sc.nd rfl (Or.inl rfl) (pe_lst pa_nil))
    (pss_cons (ps_for PassesOwn.never rfl (piList K (pe_me m_Log_stretches Z.c_Log hr (by decide) (pv 0) (pa_cons (pv 1) pa_nil))) (pg_name (i := 5) sc.nd rfl (by first | exact Or.inl rfl | exact Or.inr rfl)) (pss_one (ps_for PassesOwn.never rfl (piList K (pe_pp p_Log_item_names Z.c_Log hr (by decide) (pv 0) rfl)) (pg_name (i := 6) sc.nd rfl (by first | exact Or.inl rfl | exact Or.inr rfl)) (pss_cons (ps_setLc (i := 7) (own := [("place", 8)]) (g := (gName 8)) rfl sc.nd rfl rfl (sw_true rfl rfl rfl (by decide +kernel)) (piList K (pv 5)) (blkOk_by (N := n_fewest_strikes) (sc := defScope s_fewest_strikes) (by decide +kernel)) (fun _ _ _ _ _ => (pg_name (i := 8) sc.nd rfl (by first | exact Or.inl rfl | exact Or.inr rfl))) (fun _ _ _ _ _ => pts_one (pt_cmpR op_eq (pe_me m_Log_item_at Z.c_Log hr (by decide) (pv 0) (pa_cons (pv 8) pa_nil)) (pv 6) (nomark _))) (fun _ _ _ _ _ => (pv 8)))
    (pss_cons (ps_aug (i := 3) sc.nd rfl (Or.inl rfl) (pe_fn f_strikes_in hr (by decide) (by rfl) (pa_cons (pv 0) (pa_cons (pv 7) (pa_cons (pv 2) pa_nil)))) iop_ext)
    (pss_one (ps_aug (i := 4) sc.nd rfl (Or.inl rfl) (pe_fn f_pairs_in hr (by decide) (by rfl) (pa_cons (pv 0) (pa_cons (pv 7) (pa_cons (pv 2) pa_nil)))) iop_ext)))))))
    (pss_one (ps_ret (pe_tup (pa_cons (pv 3) (pa_cons (pv 4) pa_nil)))))))))), ?_⟩
    refine q_drop e (ev_call (l, j) (ea_cons (ev_var rl) (ea_one (ev_var rj))) ⟨hj, hdr, hgr⟩) fun G1 A1 s1 => ?_
    have rl1 := (pLog CL l).mono s1.a rl
    have rj1 := (pS j).mono s1.a rj
    refine q_asgV (v := .int (firstOf l j : Int)) s1.b ((ev_intB (b := decide (l.driftOf j = ("rises" : Str))) ((ev_eq (x := .str (l.driftOf j)) (y := .str "rises") (ev_meth (as := [pS j]) (l, j) (ev_var rl1) (log_ins rfl) (ea_one (ev_var rj1)) rfl hj) ev_c rfl).eq (by simp))).eq (by
      unfold firstOf
      by_cases hd : l.driftOf j = ("rises" : Str) <;> simp [hd])) fun A2 e2 e3 => ?_
    refine q_nil fun sl hsl => ?_
    refine q_nil fun pl hpl => ?_
    have nsp : sl ≠ pl := ne_of_none upd_same hpl
    have hslH : H1 sl = none := (s1.c.trans e3).back hsl
    have hplA : A2 pl = none := (Ex.new hsl).back hpl
    have hplH : H1 pl = none := (s1.c.trans e3).back hplA
    have s0 : Sep H H1 G1 (upd (upd A2 sl (.lst [])) pl (.lst [])) := ((s1.ext e3).ext (Ex.new hsl)).ext (Ex.new hpl)
    refine q_for (H := G1) s0.b (ei_list (ps := (l.stretches j).map pNs) (ev_meth (as := [pS j]) (l, j) (ev_var rl1) (log_ins rfl) (ea_one (ev_var rj1)) rfl ⟨hl, hj⟩))
      (fun i σ F F1 => Sep H H1 F F1 ∧ ∃ x y z u acc0 acc1 ns cs, σ = [some vl, some vj, some (.int (firstOf l j : Int)), some (.ref sl), some (.ref pl), x, y, z, u] ∧ F sl = none ∧ F pl = none ∧ F1 sl = some (.lst acc0) ∧ F1 pl = some (.lst acc1) ∧ All2 F acc0 (List.map pN ns) ∧ All2 F acc1 (List.map pLk cs) ∧ FwI l j i [] 0 ns cs)
      (fun H' H2 s => ?_) ?_ ?_
    · have ks := s.keep (e2.back hsl) (show (upd (upd A2 sl (.lst [])) pl (.lst [])) sl = some (.lst []) by rw [upd_ne nsp]; exact upd_same)
      have kp := s.keep (e2.back hplA) (upd_same (H := upd A2 sl (.lst [])) (o := .lst []))
      exact ⟨s0.trans s, _, _, _, _, [], [], [], [], rfl, ks.1, kp.1, ks.2, kp.2, True.intro, True.intro, Nat.zero_le _, Nat.zero_le _, (fun c hc => by cases hc), .nil, fun x hx => by cases hx⟩
    · rintro i p ul σ' F F1 F' F2 hpi ⟨sF, x, y, z, u', acc0, acc1, ns, cs, rfl, nS, nP, gS, gP, rS, rP, hI⟩ eF s2 rp
      obtain ⟨st, hst, rfl⟩ := map_get hpi
      have hil := (List.getElem?_eq_some_iff.mp hst).1
      have hstm := List.mem_of_getElem? hst
      obtain ⟨hasc, hans, hmem⟩ := st_at hstm
      have hstz : st.length ≤ 10 := Nat.le_trans (asc_len hasc fun p hp => (hans p hp).1) hev
      have ks := s2.keep nS gS
      have kp := s2.keep nP gP
      have htk : (l.stretches j).take (i + 1) = (l.stretches j).take i ++ [st] := by rw [List.take_succ_eq_append_getElem hil, (List.getElem?_eq_some_iff.mp hst).2]
      have hdis : ∀ x ∈ ((l.stretches j).take i).flatMap id, x ∉ st := fun x hx hxs => by
        have h1 : (((l.stretches j).take (i + 1)).flatMap id).Nodup := by
          refine List.Nodup.sublist ?_ (st_flat_nd l j)
          have e1 : (l.stretches j).flatMap id = ((l.stretches j).take (i + 1)).flatMap id ++ ((l.stretches j).drop (i + 1)).flatMap id := by
            rw [← List.flatMap_append, List.take_append_drop]
          rw [e1]
          exact List.sublist_append_left _ _
        rw [htk, List.flatMap_append] at h1
        exact (List.nodup_append.mp h1).2.2 x hx x (by simpa using hxs) rfl
      refine bnd_name F2 s2.b _ ?_
      have rl2 := (pLog CL l).mono (sF.a.trans s2.a) rl
      refine s_for (H := F') s2.b (ei_list (ps := l.items.map pS) (ev_prop l (ev_var rl2) log_prop rfl True.intro))
        (fun m σ L L1 => Sep H H1 L L1 ∧ Ex F' L ∧ ∃ y z u acc0 acc1 ns cs, σ = [some vl, some vj, some (.int (firstOf l j : Int)), some (.ref sl), some (.ref pl), some ul, y, z, u] ∧ L sl = none ∧ L pl = none ∧ L1 sl = some (.lst acc0) ∧ L1 pl = some (.lst acc1) ∧ All2 L acc0 (List.map pN ns) ∧ All2 L acc1 (List.map pLk cs) ∧ FwI l j i st m ns cs)
        (fun H' H2 s => ?_) ?_ ?_
      · have ks2 := s.keep ks.1 ks.2
        have kp2 := s.keep kp.1 kp.2
        obtain ⟨i1, i2, i3, i4, i5⟩ := hI
        exact ⟨(sF.trans s2).trans s, s.a, _, _, _, acc0, acc1, ns, cs, rfl, ks2.1, kp2.1, ks2.2, kp2.2, rS.mono (s2.a.trans s.a), rP.mono (s2.a.trans s.a), i1, i2, i3, i4, fun x hx => (i5 x hx).elim .inl fun q => absurd q.1 (by simp)⟩
      · rintro m p ui σ' L L1 L' L2 hpm ⟨sL, eFL, y, z, u', acc0, acc1, ns, cs, rfl, nS, nP, gS, gP, rS, rP, hI⟩ eL s3 ri
        obtain ⟨it, hitm, rfl⟩ := map_get hpm
        have hml := (List.getElem?_eq_some_iff.mp hitm).1
        have hitk : l.items.take (m + 1) = l.items.take m ++ [it] := by rw [List.take_succ_eq_append_getElem hml, (List.getElem?_eq_some_iff.mp hitm).2]
        have hinew : it ∉ l.items.take m := fun hm => by
          have h1 : (l.items.take (m + 1)).Nodup := List.Nodup.sublist (List.take_sublist _ _) hl.items.nd
          rw [hitk] at h1
          exact (List.nodup_append.mp h1).2.2 it hm it (by simp) rfl
        have ks3 := s3.keep nS gS
        have kp3 := s3.keep nP gP
        have rl3 := (pLog CL l).mono (sL.a.trans s3.a) rl
        have rst3 := (pNs st).mono (eFL.trans s3.a) rp
        obtain ⟨i1, i2, i3, i4, i5⟩ := hI
        refine bnd_name L2 s3.b _ ?_
        refine q_asg s3.b (ev_lc (as := st) (f := pN) (h := pN) (t := fun p => decide (l.itemAt p = it)) (ei_list (ev_var rst3)) (by omega) fun p v G3 hp eG3 rv => ⟨_, bnd_name, rfl, (et_test (ev_eq (x := .str (l.itemAt p)) (y := .str it) (ev_meth (as := [pN p]) (l, p) (ev_var ((pLog CL l).mono eG3 rl3)) (log_ins rfl) (ea_one (ev_var rv)) rfl (hans p hp).1) (ev_var ((pS it).mono eG3 ri)) rfl)).eq (by simp), fun _ => ev_var rv⟩) fun va G4 A4 s4 ra => ?_
        have ra : (pNs (st.filter fun p => decide (l.itemAt p = it))).p G4 va := ra
        have hpsl : (st.filter fun p => decide (l.itemAt p = it)).length ≤ 120 := Nat.le_trans (List.length_filter_le _ _) (by omega)
        have hpsa : ∀ p ∈ st.filter fun p => decide (l.itemAt p = it), l.isAns p = true := fun p hp => (hans p (List.mem_filter.mp hp).1).1
        have ks4 := s4.keep ks3.1 ks3.2
        have kp4 := s4.keep kp3.1 kp3.2
        have rl4 := (pLog CL l).mono s4.a rl3
        have h0l : acc0.length = ns.length := by
          have := rS.length
          rwa [List.length_map] at this
        have h1l : acc1.length = cs.length := by
          have := rP.length
          rwa [List.length_map] at this
        have him : i < 10 := by omega
        have hmm : m < 20 := by omega
        refine q_extE (l := sl) (xs := acc0) s4.b ks4.2 rfl (ev_call (l, st.filter (fun p => decide (l.itemAt p = it)), firstOf l j) (ea_cons (ev_var rl4) (ea_cons (ev_var ra) (ea_one (ev_var rfl)))) ⟨hpsl, hpsa⟩) (fun ns2 hns2 => ?_) fun ns2 zs G5 A5 hns2 s5 rz => ?_
        · have hns2 : ns2.length ≤ 240 := hns2
          rw [List.length_map]
          omega
        have hns2 : ns2.length ≤ 240 := hns2
        have ks5 := s5.keep ks4.1 ks4.2
        have kp5 := s5.keep kp4.1 kp4.2
        have t5 := ((sL.trans s3).trans s4).trans s5
        have t5m := t5.mut (o := .lst (acc0 ++ zs)) hslH ks5.1
        have kp5m : (upd A5 sl (.lst (acc0 ++ zs))) pl = some (.lst acc1) := by
          rw [upd_ne (Ne.symm nsp)]
          exact kp5.2
        refine s_extE (l := pl) (xs := acc1) (H := G5) t5m.b kp5m rfl (ev_call (l, st.filter (fun p => decide (l.itemAt p = it)), firstOf l j) (ea_cons (ev_var ((pLog CL l).mono s5.a rl4)) (ea_cons (ev_var ((pNs _).mono s5.a ra)) (ea_one (ev_var rfl)))) ⟨hpsl, hasc.filter _, hpsa⟩) (fun c2 hc2 => ?_) fun c2 zs2 G6 A6 hc2 s6 rz2 => ?_
        · have hc3 : c2.length ≤ 120 := hc2.2.2
          rw [List.length_map]
          omega
        obtain ⟨hc2, hnd2, hc3⟩ := hc2
        have hc2 : ∀ c ∈ c2, PairOk l (st.filter fun p => decide (l.itemAt p = it)) (firstOf l j) c := hc2
        have hnd2 : (ends c2).Nodup := hnd2
        have hc3 : c2.length ≤ 120 := hc3
        have ks6 := s6.keep ks5.1 (upd_same (H := A5) (o := .lst (acc0 ++ zs)))
        have kp6 := s6.keep kp5.1 kp5m
        have hin : ∀ x ∈ ends c2, x ∈ st ∧ l.itemAt x = it := fun x hx => by
          obtain ⟨c, hc, hx⟩ := mem_ends.mp hx
          obtain ⟨p1, p2, _⟩ := hc2 c hc
          rcases hx with z | z
          · rw [z]
            exact ⟨(List.mem_filter.mp p1).1, by simpa using (List.mem_filter.mp p1).2⟩
          · rw [z]
            exact ⟨(List.mem_filter.mp p2).1, by simpa using (List.mem_filter.mp p2).2⟩
        have e36 := s3.a.trans (s4.a.trans (s5.a.trans s6.a))
        refine ⟨G6, e36, s6.b.mut kp6.1, (t5m.trans s6).mut hplH kp6.1, eFL.trans e36, _, _, _, acc0 ++ zs, acc1 ++ zs2, ns ++ ns2, cs ++ c2, rfl, ks6.1, kp6.1, ?_, upd_same, ?_, ?_, ?_, ?_, ?_, ?_, ?_⟩
        · rw [upd_ne nsp]
          exact ks6.2
        · rw [List.map_append]
          exact (rS.mono e36).append (rz.mono s6.a)
        · rw [List.map_append]
          exact (rP.mono e36).append rz2
        · rw [List.length_append]
          omega
        · rw [List.length_append]
          omega
        · intro c hc
          rcases List.mem_append.mp hc with q1 | q1
          · exact i3 c q1
          · obtain ⟨p1, p2, p3, p4, p5⟩ := hc2 c q1
            obtain ⟨m1, n1⟩ := List.mem_filter.mp p1
            obtain ⟨m2, n2⟩ := List.mem_filter.mp p2
            have n1 := of_decide_eq_true n1
            have n2 := of_decide_eq_true n2
            exact ⟨p3, (hans _ m1).1, (hans _ m2).1, (hans _ m1).2, (hans _ m2).2, ((hmem _ m2 _).mp m1).2.2, n1.trans n2.symm, p4, p5⟩
        · have e1 : ends (cs ++ c2) = ends cs ++ ends c2 := by
            unfold ends
            rw [List.flatMap_append]
          rw [e1]
          refine List.nodup_append.mpr ⟨i4, hnd2, fun a ha b hb eab => ?_⟩
          obtain ⟨g1, g2⟩ := hin b hb
          rw [eab] at ha
          rcases i5 b ha with q1 | ⟨_, q1⟩
          · exact hdis b q1 g1
          · rw [g2] at q1
            exact hinew q1
        · intro x hx
          have e1 : ends (cs ++ c2) = ends cs ++ ends c2 := by
            unfold ends
            rw [List.flatMap_append]
          rw [e1] at hx
          rw [hitk]
          rcases List.mem_append.mp hx with q1 | q1
          · exact (i5 x q1).imp id fun q2 => ⟨q2.1, List.mem_append_left _ q2.2⟩
          · obtain ⟨g1, g2⟩ := hin x q1
            exact .inr ⟨g1, by rw [g2]; simp⟩
      · rintro σ' L L1 eL eL1 ⟨sL, eFL, y, z, u', acc0, acc1, ns, cs, rfl, nS, nP, gS, gP, rS, rP, i1, i2, i3, i4, i5⟩
        rw [List.length_map] at i1 i2
        refine ⟨L, s2.a.trans eFL, eL1, sL, _, _, _, _, acc0, acc1, ns, cs, rfl, nS, nP, gS, gP, rS, rP, by omega, by omega, i3, i4, fun x hx => .inl ?_⟩
        rw [htk, List.flatMap_append]
        rcases i5 x hx with q1 | ⟨q1, _⟩
        · exact List.mem_append_left _ q1
        · exact List.mem_append_right _ (by simpa using q1)
    · rintro σ' G G1' eG eG1 ⟨sG, x, y, z, u, acc0, acc1, ns, cs, rfl, nS, nP, gS, gP, rS, rP, i1, i2, i3, i4, i5⟩
      have sS : Sep H H1 (upd G sl (.lst acc0)) G1' := sG.own hslH nS gS
      have nP2 : (upd G sl (.lst acc0)) pl = none := by
        rw [upd_ne (Ne.symm nsp)]
        exact nP
      have sP := sS.own hplH nP2 gP
      have eSS : Ex G (upd G sl (.lst acc0)) := Ex.new nS
      have ePP := Ex.new (o := .lst acc1) nP2
      refine s_ret sP.b ?_ (q.go sP)
      exact Ev.imp (ev_tup (ea_cons (ev_var (R := pNs ns) ⟨sl, acc0, rfl, ePP _ _ upd_same, rS.mono (eSS.trans ePP)⟩) (ea_one (ev_var (R := pLks cs) ⟨pl, acc1, rfl, upd_same, rP.mono (eSS.trans ePP)⟩)))) fun H' v _ r => ⟨(ns, cs), ⟨i3, i4⟩, r⟩
end
end Rb
set_option Elab.async false
set_option linter.all false
set_option maxRecDepth 100000
/-! Links and rings of a log's cases: plain. -/
namespace Rb
open PySem PySem.Spec PyProof.Rows L2
/-- a link of the case made with strikes S, resets R, moves M -/
structure LinkP (l : LogD) (S R : List Nat) (M : Option (List Nat)) (a b : Nat) : Prop where
  ha : l.isAns a = true
  hb : l.isAns b = true
  sa : a ∉ S
  sb : b ∉ S
  j : l.evJ a = l.evJ b
  lot : l.lotC R (l.evJ a) (a + 1) = l.lotC R (l.evJ a) (b + 1)
  ord : isFirst (l.driftOf (l.evJ a)) a b = true ∨ l.partC M (l.evJ a) (a + 1) = l.partC M (l.evJ a) (b + 1)
  gr : l.gradeAt a < l.gradeAt b
theorem mk_ord {l : LogD} {S R : List Nat} {M : Option (List Nat)} {a b : Nat} (ha : a ∈ (mkCase l S R M).ps) : (mkCase l S R M).ord a b = isFirst (l.driftOf (l.evJ a)) a b := by
  unfold CaseD.ord
  rw [mk_tld ha]
  rfl
theorem mk_link {l : LogD} {S R : List Nat} {M : Option (List Nat)} {k : Nat × Nat} : k ∈ (mkCase l S R M).links ↔ LinkP l S R M k.1 k.2 := by
  obtain ⟨a, b⟩ := k
  constructor
  · intro h
    obtain ⟨r, hr, h⟩ := List.mem_flatMap.mp h
    obtain ⟨p, hp, h⟩ := List.mem_flatMap.mp h
    obtain ⟨a', ha, e⟩ := List.mem_map.mp h
    obtain ⟨h1, h2⟩ := List.mem_filter.mp ha
    obtain ⟨h3, h4⟩ := List.mem_filter.mp h1
    injection e with e1 e2
    subst e1 e2
    obtain ⟨i1, i2, i3, i4⟩ := in_lot.mp ⟨r, hr, h3, hp⟩
    have h2 := of_decide_eq_true h2
    rw [mk_tld i1, mk_tld i2] at h2
    rw [Bool.or_eq_true, mk_ord i1] at h4
    refine ⟨(mk_ps.mp i1).1, (mk_ps.mp i2).1, (mk_ps.mp i1).2, (mk_ps.mp i2).2, i3, by rw [i4, ← i3], h4.imp id fun q => ?_, h2⟩
    have q := of_decide_eq_true q
    rw [mk_tld i1, mk_tld i2] at q
    have q : l.partC M (l.evJ a') (a' + 1) = l.partC M (l.evJ p) (p + 1) := q
    rw [q, ← i3]
  · rintro ⟨ha, hb, sa, sb, hj, hlot, hord, hg⟩
    have hb2 : b ∈ (mkCase l S R M).ps := mk_ps.mpr ⟨hb, sb⟩
    have ha2 : a ∈ (mkCase l S R M).ps := mk_ps.mpr ⟨ha, sa⟩
    have hj : l.evJ a = l.evJ b := hj
    have hlot : l.lotC R (l.evJ a) (a + 1) = l.lotC R (l.evJ a) (b + 1) := hlot
    obtain ⟨r, hr, h3, hp⟩ := in_lot.mpr ⟨ha2, hb2, hj, by rw [hlot, ← hj]⟩
    refine List.mem_flatMap.mpr ⟨r, hr, List.mem_flatMap.mpr ⟨b, hp, List.mem_map.mpr ⟨a, List.mem_filter.mpr ⟨List.mem_filter.mpr ⟨h3, ?_⟩, ?_⟩, rfl⟩⟩⟩
    · rw [Bool.or_eq_true, mk_ord ha2]
      refine hord.imp id fun q => ?_
      refine decide_eq_true ?_
      rw [mk_tld ha2, mk_tld hb2]
      show l.partC M (l.evJ a) (a + 1) = l.partC M (l.evJ b) (b + 1)
      rw [← hj]
      exact q
    · refine decide_eq_true ?_
      rw [mk_tld ha2, mk_tld hb2]
      exact hg
theorem way_links {c : CaseD} : ∀ {r : List (Nat × Nat)} {x y : Str}, Way c x y r → ∀ k ∈ r, k ∈ c.links
  | [], _, _, _, k, hk => by cases hk
  | lk :: r, x, y, h, k, hk => by
    rcases List.mem_cons.mp hk with z | z
    · rw [z]
      exact h.1
    · exact way_links h.2.2 k z
theorem way_move {l : LogD} {S R S' R' : List Nat} {M M' : Option (List Nat)} : ∀ {r : List (Nat × Nat)} {x y : Str}, Way (mkCase l S R M) x y r → (∀ k ∈ r, LinkP l S' R' M' k.1 k.2) → Way (mkCase l S' R' M') x y r
  | [], _, _, h, _ => h
  | lk :: r, x, y, h, hk => by
    obtain ⟨h1, h2, h3⟩ := h
    have p1 := mk_link.mp h1
    have p2 := hk lk List.mem_cons_self
    have ps : ∀ {S R : List Nat} {M : Option (List Nat)}, LinkP l S R M lk.1 lk.2 → ((mkCase l S R M).tld lk.1).i = l.itemAt lk.1 ∧ ((mkCase l S R M).tld lk.2).i = l.itemAt lk.2 := fun p => by
      rw [mk_tld (mk_ps.mpr ⟨p.ha, p.sa⟩), mk_tld (mk_ps.mpr ⟨p.hb, p.sb⟩)]
      exact ⟨rfl, rfl⟩
    rw [(ps p1).1] at h2
    rw [(ps p1).2] at h3
    refine ⟨mk_link.mpr p2, by rw [(ps p2).1]; exact h2, ?_⟩
    rw [(ps p2).2]
    exact way_move h3 fun k hk2 => hk k (List.mem_cons_of_mem _ hk2)
theorem ring_move {l : LogD} {S R S' R' : List Nat} {M M' : Option (List Nat)} {r : List (Nat × Nat)} (h : IsRing (mkCase l S R M) r) (hk : ∀ k ∈ r, LinkP l S' R' M' k.1 k.2) : IsRing (mkCase l S' R' M') r := by
  obtain ⟨h1, x, h2⟩ := h
  exact ⟨h1, x, way_move h2 hk⟩
theorem ring_links {l : LogD} {S R : List Nat} {M : Option (List Nat)} {r : List (Nat × Nat)} (h : IsRing (mkCase l S R M) r) : ∀ k ∈ r, LinkP l S R M k.1 k.2 := fun k hk => by
  obtain ⟨_, x, h2⟩ := h
  exact mk_link.mp (way_links h2 k hk)
/-- one link of an item with itself is a ring -/
theorem ring_self {l : LogD} {S R : List Nat} {M : Option (List Nat)} {a b : Nat} (h : LinkP l S R M a b) (hi : l.itemAt a = l.itemAt b) : IsRing (mkCase l S R M) [(a, b)] := by
  refine ⟨by simp, l.itemAt a, mk_link.mpr h, ?_, ?_⟩
  · rw [mk_tld (mk_ps.mpr ⟨h.ha, h.sa⟩)]
    rfl
  · show ((mkCase l S R M).tld b).i = l.itemAt a
    rw [mk_tld (mk_ps.mpr ⟨h.hb, h.sb⟩), hi]
    rfl
theorem mem_between {l : LogD} {ps : List Nat} {k : Nat × Nat} {q : Nat} : q ∈ l.between ps k ↔ q ∈ ps ∧ min k.1 k.2 < q ∧ q ≤ max k.1 k.2 ∧ l.evJ q = l.evJ (min k.1 k.2) := by
  unfold LogD.between
  rw [List.mem_filter, Bool.and_eq_true, Bool.and_eq_true, decide_eq_true_eq, decide_eq_true_eq, decide_eq_true_eq, and_assoc]
theorem lot_mm {l : LogD} {R : List Nat} {j : Str} {a b : Nat} : l.lotC R j (a + 1) = l.lotC R j (b + 1) ↔ ∀ q, min a b < q → q ≤ max a b → l.evJ q = j → l.isRes q = false ∧ q ∉ R := by
  rcases Nat.le_total a b with h | h
  · rw [Nat.min_eq_left h, Nat.max_eq_right h]
    exact lot_same h
  · rw [Nat.min_eq_right h, Nat.max_eq_left h, eq_comm]
    exact lot_same h
theorem part_mm {l : LogD} {M : Option (List Nat)} {j : Str} {a b : Nat} : l.partC M j (a + 1) = l.partC M j (b + 1) ↔ ∀ q, min a b < q → q ≤ max a b → l.evJ q = j → LogD.movesAt M q = false := by
  rcases Nat.le_total a b with h | h
  · rw [Nat.min_eq_left h, Nat.max_eq_right h]
    exact part_same h
  · rw [Nat.min_eq_right h, Nat.max_eq_left h, eq_comm]
    exact part_same h
namespace LinkP
variable {l : LogD} {S R : List Nat} {M : Option (List Nat)} {a b : Nat}
theorem ne (h : LinkP l S R M a b) : a ≠ b := fun z => by
  have := h.gr
  rw [z] at this
  omega
theorem jmin (h : LinkP l S R M a b) : l.evJ (min a b) = l.evJ a := by
  rcases Nat.le_total a b with z | z
  · rw [Nat.min_eq_left z]
  · rw [Nat.min_eq_right z]
    exact h.j.symm
theorem jmax (h : LinkP l S R M a b) : l.evJ (max a b) = l.evJ a := by
  rcases Nat.le_total a b with z | z
  · rw [Nat.max_eq_right z]
    exact h.j.symm
  · rw [Nat.max_eq_left z]
theorem amax (h : LinkP l S R M a b) : l.isAns (max a b) = true := by
  rcases Nat.le_total a b with z | z
  · rw [Nat.max_eq_right z]
    exact h.hb
  · rw [Nat.max_eq_left z]
    exact h.ha
theorem amin (h : LinkP l S R M a b) : l.isAns (min a b) = true := by
  rcases Nat.le_total a b with z | z
  · rw [Nat.min_eq_left z]
    exact h.ha
  · rw [Nat.min_eq_right z]
    exact h.hb
theorem mm (h : LinkP l S R M a b) : min a b < max a b := by
  have := h.ne
  omega
/-- where the places lie in order, moves don't matter -/
theorem inO (h : LinkP l S R M a b) (ho : isFirst (l.driftOf (l.evJ a)) a b = true) (M' : Option (List Nat)) : LinkP l S R M' a b := ⟨h.ha, h.hb, h.sa, h.sb, h.j, h.lot, .inl ho, h.gr⟩
/-- each move parts: in order -/
theorem noM (h : LinkP l S R none a b) : isFirst (l.driftOf (l.evJ a)) a b = true := by
  rcases h.ord with z | z
  · exact z
  · have := part_mm.mp z (max a b) h.mm (Nat.le_refl _) h.jmax
    cases this
end LinkP
/-- links without moves are links with any -/
theorem ring_none {l : LogD} {S R : List Nat} {r : List (Nat × Nat)} (h : IsRing (mkCase l S R none) r) (M : Option (List Nat)) : IsRing (mkCase l S R M) r :=
  ring_move h fun k hk => (ring_links h k hk).inO (ring_links h k hk).noM M
/-! ### what a ring holds -/
structure Holds (l : LogD) (ok : List Nat → Prop) (Ps held : List Nat) : Prop where
  ans : ∀ q ∈ held, l.isAns q = true
  new : ∀ q ∈ held, q ∉ Ps
  some : ∃ q, q ∈ held
  hit : ∀ M, ok M → ∃ q ∈ M, q ∈ held
def okM (l : LogD) (M : List Nat) : Prop := (∀ q ∈ M, l.isAns q = true) ∧ expl (mkCase l [] [] (some M)) = true
def okR (l : LogD) (M : List Nat) : Prop := (∀ q ∈ M, q ∈ l.resetPlaces) ∧ expl (mkCase l [] M none) = true
def okS (l : LogD) (M : List Nat) : Prop := expl (mkCase l M [] none) = true
theorem not_ring {c : CaseD} (h : expl c = true) {r : List (Nat × Nat)} : ¬ IsRing c r := fun z => expl_yes.mp h ⟨r, z⟩
theorem inOrder_link {l : LogD} {S R : List Nat} {M : Option (List Nat)} {a b : Nat} (h : LinkP l S R M a b) : (mkCase l S R M).inOrder a b = isFirst (l.driftOf (l.evJ a)) a b := by
  unfold CaseD.inOrder
  rw [mk_ord (mk_ps.mpr ⟨h.ha, h.sa⟩), mk_tld (mk_ps.mpr ⟨h.ha, h.sa⟩), mk_tld (mk_ps.mpr ⟨h.hb, h.sb⟩)]
  have : l.evJ a = l.evJ b ∧ l.lotC R (l.evJ a) (a + 1) = l.lotC R (l.evJ b) (b + 1) := ⟨h.j, by rw [h.lot, ← h.j]⟩
  show (decide (l.evJ a = l.evJ b ∧ l.lotC R (l.evJ a) (a + 1) = l.lotC R (l.evJ b) (b + 1)) && _) = _
  rw [decide_eq_true this, Bool.true_and]
theorem mem_held {l : LogD} {c : CaseD} {r : List (Nat × Nat)} {q : Nat} : q ∈ l.heldAt c r ↔ ∃ k ∈ r, c.inOrder k.1 k.2 = false ∧ q ∈ l.between l.answers k := by
  unfold LogD.heldAt
  rw [List.mem_flatMap]
  constructor
  · rintro ⟨k, hk, h⟩
    obtain ⟨h1, h2⟩ := List.mem_filter.mp hk
    exact ⟨k, h1, by simpa using h2, h⟩
  · rintro ⟨k, hk, h1, h⟩
    exact ⟨k, List.mem_filter.mpr ⟨hk, by simpa using h1⟩, h⟩
theorem holds_moves {l : LogD} {Ps : List Nat} {r : List (Nat × Nat)} (h0 : expl (mkCase l [] [] none) = true) (h : IsRing (mkCase l [] [] (some Ps)) r) : Holds l (okM l) Ps (l.heldAt (mkCase l [] [] (some Ps)) r) := by
  have hl := ring_links h
  refine ⟨fun q hq => ?_, fun q hq hm => ?_, ?_, fun M ⟨hM, hE⟩ => ?_⟩
  · obtain ⟨k, hk, _, hq⟩ := mem_held.mp hq
    exact LogD.mem_answers.mp (mem_between.mp hq).1
  · obtain ⟨k, hk, ho, hq⟩ := mem_held.mp hq
    have p := hl k hk
    rw [inOrder_link p] at ho
    obtain ⟨_, h1, h2, h3⟩ := mem_between.mp hq
    rcases p.ord with z | z
    · rw [z] at ho
      cases ho
    · have := part_mm.mp z q h1 h2 (h3.trans p.jmin)
      rw [show LogD.movesAt (some Ps) q = decide (q ∈ Ps) from rfl, decide_eq_true hm] at this
      cases this
  · refine Classical.byContradiction fun hno => ?_
    refine not_ring h0 (ring_move h fun k hk => ?_)
    have p := hl k hk
    cases ho : isFirst (l.driftOf (l.evJ k.1)) k.1 k.2 with
    | true => exact p.inO ho none
    | false =>
      refine absurd ⟨max k.1 k.2, mem_held.mpr ⟨k, hk, by rw [inOrder_link p]; exact ho, mem_between.mpr ⟨LogD.mem_answers.mpr p.amax, p.mm, Nat.le_refl _, p.jmax.trans p.jmin.symm⟩⟩⟩ hno
  · refine Classical.byContradiction fun hno => ?_
    refine not_ring hE (ring_move h fun k hk => ?_)
    have p := hl k hk
    cases ho : isFirst (l.driftOf (l.evJ k.1)) k.1 k.2 with
    | true => exact p.inO ho _
    | false =>
      refine ⟨p.ha, p.hb, p.sa, p.sb, p.j, p.lot, .inr (part_mm.mpr fun q h1 h2 h3 => ?_), p.gr⟩
      refine decide_eq_false fun hq => hno ⟨q, hq, mem_held.mpr ⟨k, hk, by rw [inOrder_link p]; exact ho, mem_between.mpr ⟨LogD.mem_answers.mpr (hM q hq), h1, h2, h3.trans p.jmin.symm⟩⟩⟩
theorem holds_resets {l : LogD} (hok : l.Ok) {Ps : List Nat} {r : List (Nat × Nat)} (h : IsRing (mkCase l [] Ps none) r) : Holds l (okR l) Ps (r.flatMap fun k => l.between l.resetPlaces k) := by
  have hl := ring_links h
  refine ⟨fun q hq => ?_, fun q hq hm => ?_, ?_, fun M ⟨hM, hE⟩ => ?_⟩
  · obtain ⟨k, hk, hq⟩ := List.mem_flatMap.mp hq
    exact ((mem_reset hok).mp (mem_between.mp hq).1).1
  · obtain ⟨k, hk, hq⟩ := List.mem_flatMap.mp hq
    have p := hl k hk
    obtain ⟨_, h1, h2, h3⟩ := mem_between.mp hq
    exact (lot_mm.mp p.lot q h1 h2 (h3.trans p.jmin)).2 hm
  · obtain ⟨k, r', e⟩ := List.exists_cons_of_ne_nil h.1
    have hk : k ∈ r := by
      rw [e]
      exact List.mem_cons_self
    have p := hl k hk
    refine ⟨max k.1 k.2, List.mem_flatMap.mpr ⟨k, hk, mem_between.mpr ⟨(mem_reset hok).mpr ⟨p.amax, min k.1 k.2, p.mm, p.amin, p.jmin.trans p.jmax.symm, ?_⟩, p.mm, Nat.le_refl _, p.jmax.trans p.jmin.symm⟩⟩⟩
    rw [p.jmax]
    show l.lotC [] (l.evJ k.1) (min k.1 k.2 + 1) = l.lotC [] (l.evJ k.1) (max k.1 k.2 + 1)
    refine (lot_same (Nat.le_of_lt p.mm)).mpr fun q h1 h2 h3 => ⟨(lot_mm.mp p.lot q h1 h2 h3).1, by simp⟩
  · refine Classical.byContradiction fun hno => ?_
    refine not_ring hE (ring_move h fun k hk => ?_)
    have p := hl k hk
    refine ⟨p.ha, p.hb, p.sa, p.sb, p.j, lot_mm.mpr fun q h1 h2 h3 => ⟨(lot_mm.mp p.lot q h1 h2 h3).1, fun hq => hno ⟨q, hq, List.mem_flatMap.mpr ⟨k, hk, mem_between.mpr ⟨hM q hq, h1, h2, h3.trans p.jmin.symm⟩⟩⟩⟩, p.ord, p.gr⟩
theorem holds_strikes {l : LogD} {Ps : List Nat} {r : List (Nat × Nat)} (h : IsRing (mkCase l Ps [] none) r) : Holds l (okS l) Ps (r.flatMap fun k => [k.1, k.2]) := by
  have hl := ring_links h
  have hm : ∀ {q}, q ∈ (r.flatMap fun k => [k.1, k.2]) ↔ ∃ k ∈ r, q = k.1 ∨ q = k.2 := fun {q} => by
    rw [List.mem_flatMap]
    simp
  refine ⟨fun q hq => ?_, fun q hq => ?_, ?_, fun M hE => ?_⟩
  · obtain ⟨k, hk, z | z⟩ := hm.mp hq
    · rw [z]; exact (hl k hk).ha
    · rw [z]; exact (hl k hk).hb
  · obtain ⟨k, hk, z | z⟩ := hm.mp hq
    · rw [z]; exact (hl k hk).sa
    · rw [z]; exact (hl k hk).sb
  · obtain ⟨k, r', e⟩ := List.exists_cons_of_ne_nil h.1
    exact ⟨k.1, hm.mpr ⟨k, by rw [e]; exact List.mem_cons_self, .inl rfl⟩⟩
  · refine Classical.byContradiction fun hno => ?_
    refine not_ring hE (ring_move h fun k hk => ?_)
    have p := hl k hk
    exact ⟨p.ha, p.hb, fun z => hno ⟨_, z, hm.mpr ⟨k, hk, .inl rfl⟩⟩, fun z => hno ⟨_, z, hm.mpr ⟨k, hk, .inr rfl⟩⟩, p.j, p.lot, p.ord, p.gr⟩
/-! ### rings taken in turn -/
theorem filt_two {p q : Nat → Bool} (h : ∀ x, ¬ (p x = true ∧ q x = true)) : ∀ M : List Nat, (M.filter p).length + (M.filter q).length ≤ (M.filter fun x => p x || q x).length
  | [] => by simp
  | x :: M => by
    have ih := filt_two h M
    have hx := h x
    rw [List.filter_cons, List.filter_cons, List.filter_cons]
    cases hp : p x <;> cases hq : q x
    · simpa using ih
    · simp
      omega
    · simp
      omega
    · exact absurd ⟨hp, hq⟩ hx
theorem filt_le {p q : Nat → Bool} (h : ∀ x, p x = true → q x = true) : ∀ M : List Nat, (M.filter p).length ≤ (M.filter q).length
  | [] => by simp
  | x :: M => by
    have ih := filt_le h M
    have hx := h x
    rw [List.filter_cons, List.filter_cons]
    cases hp : p x with
    | true =>
      rw [hx hp]
      simpa using ih
    | false =>
      cases hq : q x
      · simpa using ih
      · simp
        omega
/-- what holds of the places taken and the number of rings -/
structure RgI (l : LogD) (ok : List Nat → Prop) (Ps : List Nat) (n : Nat) : Prop where
  ans : ∀ q ∈ Ps, l.isAns q = true
  hit : ∀ M, ok M → n ≤ (M.filter fun q => decide (q ∈ Ps)).length
  nil : n = 0 → Ps = []
def left (l : LogD) (Ps : List Nat) : Nat := (l.answers.filter fun q => !decide (q ∈ Ps)).length
theorem RgI.zero (l : LogD) (ok : List Nat → Prop) : RgI l ok [] 0 := ⟨fun _ h => (by cases h), fun _ _ => Nat.zero_le _, fun _ => rfl⟩
theorem RgI.step {l : LogD} {ok : List Nat → Prop} {Ps held : List Nat} {n : Nat} (h : RgI l ok Ps n) (hh : Holds l ok Ps held) : RgI l ok (Ps ++ held) (n + 1) := by
  refine ⟨fun q hq => (List.mem_append.mp hq).elim (h.ans q) (hh.ans q), fun M hM => ?_, fun z => by omega⟩
  have h1 := h.hit M hM
  obtain ⟨q, hq, hqh⟩ := hh.hit M hM
  have h2 : 0 < (M.filter fun q => decide (q ∈ held)).length := List.length_pos_of_mem (List.mem_filter.mpr ⟨hq, decide_eq_true hqh⟩)
  have h3 := filt_two (p := fun q => decide (q ∈ Ps)) (q := fun q => decide (q ∈ held)) (fun x ⟨z1, z2⟩ => hh.new x (of_decide_eq_true z2) (of_decide_eq_true z1)) M
  have h4 : (fun q => decide (q ∈ Ps ++ held)) = fun q => decide (q ∈ Ps) || decide (q ∈ held) := by
    funext q
    simp
  rw [h4]
  omega
theorem left_lt {l : LogD} {ok : List Nat → Prop} {Ps held : List Nat} (hh : Holds l ok Ps held) : left l (Ps ++ held) < left l Ps := by
  obtain ⟨q, hq⟩ := hh.some
  unfold left
  have h3 := filt_two (p := fun q => !decide (q ∈ Ps ++ held)) (q := fun x => decide (x = q)) (fun x ⟨z1, z2⟩ => by
    have z2 : x = q := by simpa using z2
    rw [z2] at z1
    simp [hq] at z1) l.answers
  have h2 : 0 < (l.answers.filter fun x => decide (x = q)).length := List.length_pos_of_mem (List.mem_filter.mpr ⟨LogD.mem_answers.mpr (hh.ans q hq), by simp⟩)
  have h4 : (l.answers.filter fun x => (!decide (x ∈ Ps ++ held)) || decide (x = q)).length ≤ (l.answers.filter fun x => !decide (x ∈ Ps)).length := by
    refine filt_le (fun x hx => ?_) _
    rw [Bool.or_eq_true] at hx
    rcases hx with z | z
    · have z : x ∉ Ps ++ held := by simpa using z
      have : x ∉ Ps := fun w => z (List.mem_append_left _ w)
      simpa using this
    · have z : x = q := by simpa using z
      have := hh.new q hq
      rw [z]
      simpa using this
  omega
theorem left_le (l : LogD) (Ps : List Nat) : left l Ps ≤ l.events.length := Nat.le_trans (List.length_filter_le _ _) l.answers_len
end Rb
set_option Elab.async false
set_option linter.all false
set_option maxRecDepth 100000
set_option maxHeartbeats 3200000
/-! Walks: rings taken in turn. -/
namespace Rb
open PySem PySem.Spec PyProof.Rows L2
/-- what the rings say -/
def RgEnd (ok : List Nat → Prop) (e0 : Bool) (rs : List (List (Nat × Nat))) : Prop := (rs = [] ↔ e0 = true) ∧ ∀ M, ok M → rs.length ≤ M.length
theorem rg_end {l : LogD} {ok : List Nat → Prop} {c : List Nat → CaseD} {Ps : List Nat} {rs : List (List (Nat × Nat))} (h : RgI l ok Ps rs.length) (hok : expl (c []) = true → ok []) (hn : ¬ ∃ r, IsRing (c Ps) r) : RgEnd ok (expl (c [])) rs := by
  refine ⟨⟨fun z => ?_, fun z => ?_⟩, fun M hM => Nat.le_trans (h.hit M hM) (List.length_filter_le _ _)⟩
  · have h1 := h.nil (by rw [z]; rfl)
    rw [h1] at hn
    exact expl_yes.mpr hn
  · have h1 := h.hit [] (hok z)
    exact List.eq_nil_of_length_eq_zero (by simpa using h1)
section
variable {P : Program} {w : World} {K : PySem.W.Frag} {mg : Str → Option Value} {base : Heap} {CL CC : Addr}
abbrev s_rings_apart : Stmt := topS 57
theorem sc_rings_apart : FnScope ["log", "rings", "struck", "ring", "link", "place"] ["log"] (defScope s_rings_apart) := ⟨rfl, rfl, rfl, by decide +kernel, rfl, by decide +kernel, by decide +kernel⟩
abbrev n_rings_apart : List Str := ["log", "rings", "struck", "ring", "link", "place"]
abbrev F_rings_apart (P : Program) (w : World) (K : PySem.W.Frag) (mg : Str → Option Value) (base : Heap) (CL : Addr) : Prop := Fn P w K mg base 7 "rings_apart" ["log"] (spN (fun l : LogD => [pLog CL l]) (fun l => l.Ok ∧ l.events.length ≤ 10) fun l => pE (RgEnd (okS l) (expl (mkCase l [] [] none))) fun rs => pL (rs.map pLks))
theorem w_rings_apart (Z : Bz K mg CL CC) (D : Df K mg "rings_apart" s_rings_apart [] []) (CK : CaseMk P w K mg base CL CC) (m_Case_ring : M_ring P w K mg base CC) : F_rings_apart P w K mg base CL :=
  fn_mk (k := 6) D sc_rings_apart (fun _ => rfl) (bnd1 fun _ _ _ _ _ _ _ => rfl) fun f cdv A outer s H1 vs Q X l H hr e hp h q => by
    have sc := sc_rings_apart
    have hu := hu_of hr
    obtain ⟨vl, rfl, rl⟩ := all1 h
    obtain ⟨hl, hev⟩ := hp
    have hl : l.Ok := hl
    have hev : l.events.length ≤ 10 := hev
    refine ⟨_, (pss_cons (ps_set (i := 1) sc.nd rfl (Or.inl rfl) (pe_lst pa_nil))
    (pss_cons (ps_set (i := 2) sc.nd rfl (Or.inl rfl) (pe_lst pa_nil))
    (pss_cons (ps_set (i := 3) sc.nd rfl (Or.inl rfl) (pe_me0 m_Case_ring Z.c_Case hr (by decide) (pe_case CK hr (by decide) (by rfl) Z.Case (pa_cons (pv 0) pa_nil))))
    (pss_cons (ps_while PassesOwn.never (pt_cmpR op_notN (pv 3) pe_non (nomark _)) (pss_cons (ps_expr (pe_bm PySem.F.plainAttrs_list PySem.F.slot_list_append PySem.F.type_list_append mt_append (pv 1) (pa_cons (pv 3) pa_nil)))
    (pss_cons (ps_set (i := 2) sc.nd rfl (Or.inl rfl) (pe_op op_cat (pv 2) (pe_lc2 (own := [("link", 4), ("place", 5)]) (vs1 := [5]) (g := (gName 4)) (g1 := (gName 5)) rfl sc.nd (piList K (pv 3)) (blkOk_by (N := n_rings_apart) (sc := defScope s_rings_apart) (by decide +kernel)) (by decide) (fun _ _ _ _ _ => (pg_name (i := 4) sc.nd rfl (by first | exact Or.inl rfl | exact Or.inr rfl))) (fun _ _ _ _ _ => pts_nil) (fun _ _ _ _ _ => (piTup K (pv 4))) (fun _ _ _ _ _ => (pg_name (i := 5) sc.nd rfl (by first | exact Or.inl rfl | exact Or.inr rfl))) (fun _ _ _ _ _ => pts_nil) (fun _ _ _ _ _ => (pv 5)))))
    (pss_one (ps_set (i := 3) sc.nd rfl (Or.inl rfl) (pe_me0 m_Case_ring Z.c_Case hr (by decide) (pe_caseS CK hr (by decide) (by rfl) Z.Case (pa_cons (pv 0) pa_nil) (pk_cons (pv 2) pk_nil))))))))
    (pss_one (ps_ret (pv 1))))))), ?_⟩
    refine q_nil fun fl hfl => ?_
    have s0 := Sep.hid (o := .lst []) e hfl
    refine q_asg s0.b (ev_lst ea_nil) fun vs G1 A1 s1 r1 => ?_
    have k1 := s1.keep (e.back hfl) upd_same
    have t1 := s0.trans s1
    refine q_asg s1.b (ev_meth (as := []) (mkCase l [] [] none) (ev_case (ev_var ((pLog CL l).mono s1.a rl)) hl) (case_ins rfl) ea_nil rfl (mk_ok hl _ _ _)) fun vr G2 A2 s2 r2 => ?_
    have k2 := s2.keep k1.1 k1.2
    refine q_while (fun m σ F1 => ∃ F Ps rs acc us ur x y, σ = [some vl, some (.ref fl), some us, some ur, x, y] ∧ Sep H H1 F F1 ∧ F fl = none ∧ F1 fl = some (.lst acc) ∧ All2 F acc (List.map pLks rs) ∧ (pNs Ps).p F us ∧ (pRing (mkCase l Ps [] none)).p F ur ∧ RgI l (okS l) Ps rs.length ∧ m = left l Ps ∧ Ps.length + 510 * m ≤ 5100 ∧ rs.length + m ≤ 10)
      (left l []) ⟨G2, [], [], [], vs, vr, _, _, rfl, t1.trans s2, k2.1, k2.2, True.intro, (pNs []).mono s2.a r1, r2, RgI.zero l _, rfl, by have := left_le l []; simp; omega, by have := left_le l []; simp; omega⟩ ?_
    rintro m σ' F1 ⟨F, Ps, rs, acc, us, ur, x, y, rfl, sF, nF, gF, rA, rus, rur, hI, hm, hb1, hb2⟩
    obtain ⟨o, ho, ro⟩ := rur
    refine ⟨F, o.isSome, sF.b, et_test (ev_notN (ev_var (R := pV ur) rfl) fun H' v e1 r => ?_), fun z G3 e3 => ?_, fun z G3 e3 => ?_⟩
    · have r : v = ur := r
      subst r
      cases o with
      | none =>
        have ro : v = .non := ro
        rw [ro]
        rfl
      | some r =>
        obtain ⟨a, xs, ev, _⟩ := ro
        rw [ev]
        rfl
    · cases o with
      | none => cases z
      | some r =>
        obtain ⟨hring, hlen⟩ : IsRing (mkCase l Ps [] none) r ∧ r.length ≤ 51 := ho
        have ro : (pLks r).p F ur := ro
        have hH := holds_strikes hring
        have hlt := left_lt hH
        have hacc : acc.length = rs.length := by
          have := rA.length
          rwa [List.length_map] at this
        have hml : m ≤ 10 := by omega
        refine q_app (K := K) (i := 1) (l := fl) (sF.b.trans e3) nF (e3 _ _ gF) rfl (ev_var ro) (by omega) fun w1 G4 A4 s4 r4 => ?_
        have k4 := s4.keep nF (e3 _ _ gF)
        have t4 := ((sF.ext e3).trans s4).mut (o := .lst (acc ++ [w1])) hfl k4.1
        have hheld : (r.flatMap fun k => [k.1, k.2]).length ≤ 102 := by
          have := flat_le (f := fun k : Nat × Nat => [k.1, k.2]) (n := 2) (as := r) fun _ _ => Nat.le_refl _
          omega
        refine q_asg t4.b (R := pNs (Ps ++ r.flatMap fun k => [k.1, k.2])) (Ev.imp (ev_cat (ps := Ps.map pN) (qs := (r.flatMap fun k => [k.1, k.2]).map pN) (ev_var ((pNs Ps).mono s4.a rus)) (Ev.imp (ev_lc2 (as := r) (bs := fun k => [k.1, k.2]) (f := pLk) (f1 := fun _ => pN) (h := fun _ => pN) (t := fun _ => true) (t1 := fun _ _ => true) (ei_list (ev_var ((pLks r).mono s4.a ro))) (by omega) fun k v G5 hk eG rk => ⟨_, bnd_name, rfl, et_yes, fun _ => ⟨ei_tup (ps := [pN k.1, pN k.2]) (ev_var rk), fun p u G6 hp eG2 ru => ⟨_, bnd_name, rfl, et_yes, fun _ => ev_var ru⟩⟩⟩) fun H' v _ rr => ?_) ?_) fun H' v _ rr => ?_) fun us2 G7 A7 s7 r7 => ?_
        · have e1 : ((r.filter fun _ => true).flatMap fun a => (([a.1, a.2].filter fun _ => true).map pN)) = (r.flatMap fun k => [k.1, k.2]).map pN := by
            rw [List.map_flatMap, List.filter_eq_self.mpr (fun _ _ => rfl)]
            rfl
          rw [e1] at rr
          exact rr
        · rw [List.length_map, List.length_map]
          omega
        · show (pL ((Ps ++ r.flatMap fun k => [k.1, k.2]).map pN)).p H' v
          rw [List.map_append]
          exact rr
        have k7 := s7.keep k4.1 (upd_same (H := A4) (o := .lst (acc ++ [w1])))
        have t7 := t4.trans s7
        have hI2 := hI.step hH
        have hal : ∀ p ∈ Ps ++ r.flatMap fun k => [k.1, k.2], l.isAns p = true := hI2.ans
        refine s_asg t7.b (ev_meth (as := []) (mkCase l (Ps ++ r.flatMap fun k => [k.1, k.2]) [] none) (ev_caseS (ev_var ((pLog CL l).mono t7.a rl)) (ev_var r7) hl hal) (case_ins rfl) ea_nil rfl (mk_ok hl _ _ _)) fun ur2 G8 A8 s8 r8 => ?_
        have k8 := s8.keep k7.1 k7.2
        refine ⟨left l (Ps ++ r.flatMap fun k => [k.1, k.2]), by omega, G8, _, rs ++ [r], acc ++ [w1], us2, ur2, x, y, rfl, t7.trans s8, k8.1, k8.2, ?_, (pNs _).mono s8.a r7, r8, ?_, rfl, ?_, ?_⟩
        · rw [List.map_append]
          exact ((rA.mono s4.a).snoc r4).mono (s7.a.trans s8.a)
        · rw [List.length_append]
          exact hI2
        · rw [List.length_append]
          omega
        · rw [List.length_append]
          show rs.length + 1 + _ ≤ _
          omega
    · cases o with
      | some r => cases z
      | none =>
        have eS : Ex (upd F fl (.lst acc)) G3 := (sF.b.trans e3).put (e3 _ _ gF)
        have sN : Sep H H1 (upd F fl (.lst acc)) G3 := (sF.ext e3).own hfl nF (e3 _ _ gF)
        exact s_ret eS (ev_var (R := pE (RgEnd (okS l) (expl (mkCase l [] [] none))) fun rs => pL (rs.map pLks)) ⟨rs, rg_end (c := fun Ps => mkCase l Ps [] none) hI (fun z => z) ho, fl, acc, rfl, upd_same, rA.mono (Ex.new nF)⟩) (q.go sN)
end
end Rb
set_option Elab.async false
set_option linter.all false
set_option maxRecDepth 100000
set_option maxHeartbeats 3200000
/-! Walks: rings for resets, for moves. -/
namespace Rb
open PySem PySem.Spec PyProof.Rows L2
theorem okM_nil {l : LogD} (h : expl (mkCase l [] [] (some [])) = true) : okM l [] := ⟨fun q hq => (by cases hq), h⟩
theorem okR_nil {l : LogD} (h : expl (mkCase l [] [] none) = true) : okR l [] := ⟨fun q hq => (by cases hq), h⟩
theorem between_len {l : LogD} {ps : List Nat} {k : Nat × Nat} {n : Nat} (h : ps.length ≤ n) : (l.between ps k).length ≤ n := Nat.le_trans (List.length_filter_le _ _) h
theorem pRing_test {c : CaseD} {o : Option (List (Nat × Nat))} {F : Hp} {v : V} (ro : (match o with | none => pNo | some r => pLks r : Pr).p F v) : (!decide (v = .non)) = o.isSome := by
  cases o with
  | none =>
    have ro : v = .non := ro
    rw [ro]
    rfl
  | some r =>
    obtain ⟨a, xs, ev, _⟩ := ro
    rw [ev]
    rfl
section
variable {P : Program} {w : World} {K : PySem.W.Frag} {mg : Str → Option Value} {base : Heap} {CL CC : Addr}
abbrev s_rings_for_resets : Stmt := topS 51
theorem sc_rings_for_resets : FnScope ["log", "rings", "places", "ring", "link", "place"] ["log"] (defScope s_rings_for_resets) := ⟨rfl, rfl, rfl, by decide +kernel, rfl, by decide +kernel, by decide +kernel⟩
abbrev n_rings_for_resets : List Str := ["log", "rings", "places", "ring", "link", "place"]
abbrev F_rings_for_resets (P : Program) (w : World) (K : PySem.W.Frag) (mg : Str → Option Value) (base : Heap) (CL : Addr) : Prop := Fn P w K mg base 9 "rings_for_resets" ["log"] (spN (fun l : LogD => [pLog CL l]) (fun l => l.Ok ∧ l.events.length ≤ 10) fun l => pE (RgEnd (okR l) (expl (mkCase l [] [] none))) fun rs => pL (rs.map pLks))
theorem w_rings_for_resets (Z : Bz K mg CL CC) (D : Df K mg "rings_for_resets" s_rings_for_resets [] []) (CK : CaseMk P w K mg base CL CC) (m_Case_ring : M_ring P w K mg base CC) (f_between : F_between P w K mg base CL) (f_reset_places : F_reset_places P w K mg base CL) : F_rings_for_resets P w K mg base CL :=
  fn_mk (k := 8) D sc_rings_for_resets (fun _ => rfl) (bnd1 fun _ _ _ _ _ _ _ => rfl) fun f cdv A outer s H1 vs Q X l H hr e hp h q => by
    have sc := sc_rings_for_resets
    have hu := hu_of hr
    obtain ⟨vl, rfl, rl⟩ := all1 h
    obtain ⟨hl, hev⟩ := hp
    have hl : l.Ok := hl
    have hev : l.events.length ≤ 10 := hev
    have hst : ∀ j ∈ l.names, ((l.stretches j).flatMap id).length ≤ 150 := fun j _ => Nat.le_trans (st_flat_len l j) (by omega)
    have hrpl : l.resetPlaces.length ≤ 10 := Nat.le_trans (asc_len (resetPlaces_asc hl) fun p hp => ((mem_reset hl).mp hp).1) hev
    refine ⟨_, (pss_cons (ps_set (i := 1) sc.nd rfl (Or.inl rfl) (pe_lst pa_nil))
    (pss_cons (ps_set (i := 2) sc.nd rfl (Or.inl rfl) (pe_lst pa_nil))
    (pss_cons (ps_set (i := 3) sc.nd rfl (Or.inl rfl) (pe_me0 m_Case_ring Z.c_Case hr (by decide) (pe_case CK hr (by decide) (by rfl) Z.Case (pa_cons (pv 0) pa_nil))))
    (pss_cons (ps_while PassesOwn.never (pt_cmpR op_notN (pv 3) pe_non (nomark _)) (pss_cons (ps_expr (pe_bm PySem.F.plainAttrs_list PySem.F.slot_list_append PySem.F.type_list_append mt_append (pv 1) (pa_cons (pv 3) pa_nil)))
    (pss_cons (ps_set (i := 2) sc.nd rfl (Or.inl rfl) (pe_op op_cat (pv 2) (pe_lc2 (own := [("link", 4), ("place", 5)]) (vs1 := [5]) (g := (gName 4)) (g1 := (gName 5)) rfl sc.nd (piList K (pv 3)) (blkOk_by (N := n_rings_for_resets) (sc := defScope s_rings_for_resets) (by decide +kernel)) (by decide) (fun _ _ _ _ _ => (pg_name (i := 4) sc.nd rfl (by first | exact Or.inl rfl | exact Or.inr rfl))) (fun _ _ _ _ _ => pts_nil) (fun _ _ _ _ _ => (piList K (pe_fn f_between hr (by decide) (by rfl) (pa_cons (pv 0) (pa_cons (pe_fn f_reset_places hr (by decide) (by rfl) (pa_cons (pv 0) pa_nil)) (pa_cons (pv 4) pa_nil)))))) (fun _ _ _ _ _ => (pg_name (i := 5) sc.nd rfl (by first | exact Or.inl rfl | exact Or.inr rfl))) (fun _ _ _ _ _ => pts_nil) (fun _ _ _ _ _ => (pv 5)))))
    (pss_one (ps_set (i := 3) sc.nd rfl (Or.inl rfl) (pe_me0 m_Case_ring Z.c_Case hr (by decide) (pe_caseR CK hr (by decide) (by rfl) Z.Case (pa_cons (pv 0) pa_nil) (pk_cons (pv 2) pk_nil))))))))
    (pss_one (ps_ret (pv 1))))))), ?_⟩
    refine q_nil fun fl hfl => ?_
    have s0 := Sep.hid (o := .lst []) e hfl
    refine q_asg s0.b (ev_lst ea_nil) fun vs G1 A1 s1 r1 => ?_
    have k1 := s1.keep (e.back hfl) upd_same
    have t1 := s0.trans s1
    refine q_asg s1.b (ev_meth (as := []) (mkCase l [] [] none) (ev_case (ev_var ((pLog CL l).mono s1.a rl)) hl) (case_ins rfl) ea_nil rfl (mk_ok hl _ _ _)) fun vr G2 A2 s2 r2 => ?_
    have k2 := s2.keep k1.1 k1.2
    refine q_while (fun m σ F1 => ∃ F Ps rs acc us ur x y, σ = [some vl, some (.ref fl), some us, some ur, x, y] ∧ Sep H H1 F F1 ∧ F fl = none ∧ F1 fl = some (.lst acc) ∧ All2 F acc (List.map pLks rs) ∧ (pNs Ps).p F us ∧ (pRing (mkCase l [] Ps none)).p F ur ∧ RgI l (okR l) Ps rs.length ∧ m = left l Ps ∧ Ps.length + 510 * m ≤ 5100 ∧ rs.length + m ≤ 10)
      (left l []) ⟨G2, [], [], [], vs, vr, _, _, rfl, t1.trans s2, k2.1, k2.2, True.intro, (pNs []).mono s2.a r1, r2, RgI.zero l _, rfl, by have := left_le l []; simp; omega, by have := left_le l []; simp; omega⟩ ?_
    rintro m σ' F1 ⟨F, Ps, rs, acc, us, ur, x, y, rfl, sF, nF, gF, rA, rus, rur, hI, hm, hb1, hb2⟩
    obtain ⟨o, ho, ro⟩ := rur
    refine ⟨F, o.isSome, sF.b, et_test (ev_notN (ev_var (R := pV ur) rfl) fun H' v e1 r => ?_), fun z G3 e3 => ?_, fun z G3 e3 => ?_⟩
    · have r : v = ur := r
      subst r
      cases o with
      | none =>
        have ro : v = .non := ro
        rw [ro]
        rfl
      | some r =>
        obtain ⟨a, xs, ev, _⟩ := ro
        rw [ev]
        rfl
    · cases o with
      | none => cases z
      | some r =>
        obtain ⟨hring, hlen⟩ : IsRing (mkCase l [] Ps none) r ∧ r.length ≤ 51 := ho
        have ro : (pLks r).p F ur := ro
        have hH := holds_resets hl hring
        have hlt := left_lt hH
        have hacc : acc.length = rs.length := by
          have := rA.length
          rwa [List.length_map] at this
        have hml : m ≤ 10 := by omega
        refine q_app (K := K) (i := 1) (l := fl) (sF.b.trans e3) nF (e3 _ _ gF) rfl (ev_var ro) (by omega) fun w1 G4 A4 s4 r4 => ?_
        have k4 := s4.keep nF (e3 _ _ gF)
        have t4 := ((sF.ext e3).trans s4).mut (o := .lst (acc ++ [w1])) hfl k4.1
        have hheld : (r.flatMap fun k => l.between l.resetPlaces k).length ≤ 510 := by
          have := flat_le (f := fun k : Nat × Nat => l.between l.resetPlaces k) (n := 10) (as := r) fun _ _ => between_len hrpl
          omega
        refine q_asg t4.b (R := pNs (Ps ++ r.flatMap fun k => l.between l.resetPlaces k)) (Ev.imp (ev_cat (ps := Ps.map pN) (qs := (r.flatMap fun k => l.between l.resetPlaces k).map pN) (ev_var ((pNs Ps).mono s4.a rus)) (Ev.imp (ev_lc2 (as := r) (bs := fun k => l.between l.resetPlaces k) (f := pLk) (f1 := fun _ => pN) (h := fun _ => pN) (t := fun _ => true) (t1 := fun _ _ => true) (ei_list (ev_var ((pLks r).mono s4.a ro))) (by omega) fun k v G5 hk eG rk => ⟨_, bnd_name, rfl, et_yes, fun _ => ⟨ei_list (ev_call (l, l.resetPlaces, k) (ea_cons (ev_var ((pLog CL l).mono (t4.a.trans eG) rl)) (ea_cons (ev_call l (ea_one (ev_var ((pLog CL l).mono (t4.a.trans eG) rl))) ⟨hl, hst⟩) (ea_one (ev_var rk)))) ⟨by show l.resetPlaces.length ≤ 1000; omega, fun p hp => ((mem_reset hl).mp hp).1, (ring_links hring k hk).ha, (ring_links hring k hk).hb⟩), fun p u G6 hp eG2 ru => ⟨_, bnd_name, rfl, et_yes, fun _ => ev_var ru⟩⟩⟩) fun H' v _ rr => ?_) ?_) fun H' v _ rr => ?_) fun us2 G7 A7 s7 r7 => ?_
        · have e1 : ((r.filter fun _ => true).flatMap fun a => (((l.between l.resetPlaces a).filter fun _ => true).map pN)) = (r.flatMap fun k => l.between l.resetPlaces k).map pN := by
            rw [List.map_flatMap, List.filter_eq_self.mpr (fun _ _ => rfl)]
            congr 1
            funext a
            rw [List.filter_eq_self.mpr (fun _ _ => rfl)]
          rw [e1] at rr
          exact rr
        · rw [List.length_map, List.length_map]
          omega
        · show (pL ((Ps ++ r.flatMap fun k => l.between l.resetPlaces k).map pN)).p H' v
          rw [List.map_append]
          exact rr
        have k7 := s7.keep k4.1 (upd_same (H := A4) (o := .lst (acc ++ [w1])))
        have t7 := t4.trans s7
        have hI2 := hI.step hH
        have hal : ∀ p ∈ Ps ++ r.flatMap fun k => l.between l.resetPlaces k, l.isAns p = true := hI2.ans
        refine s_asg t7.b (ev_meth (as := []) (mkCase l [] (Ps ++ r.flatMap fun k => l.between l.resetPlaces k) none) (ev_caseR (ev_var ((pLog CL l).mono t7.a rl)) (ev_var r7) hl hal) (case_ins rfl) ea_nil rfl (mk_ok hl _ _ _)) fun ur2 G8 A8 s8 r8 => ?_
        have k8 := s8.keep k7.1 k7.2
        refine ⟨left l (Ps ++ r.flatMap fun k => l.between l.resetPlaces k), by omega, G8, _, rs ++ [r], acc ++ [w1], us2, ur2, x, y, rfl, t7.trans s8, k8.1, k8.2, ?_, (pNs _).mono s8.a r7, r8, ?_, rfl, ?_, ?_⟩
        · rw [List.map_append]
          exact ((rA.mono s4.a).snoc r4).mono (s7.a.trans s8.a)
        · rw [List.length_append]
          exact hI2
        · rw [List.length_append]
          omega
        · rw [List.length_append]
          show rs.length + 1 + _ ≤ _
          omega
    · cases o with
      | some r => cases z
      | none =>
        have eS : Ex (upd F fl (.lst acc)) G3 := (sF.b.trans e3).put (e3 _ _ gF)
        have sN : Sep H H1 (upd F fl (.lst acc)) G3 := (sF.ext e3).own hfl nF (e3 _ _ gF)
        exact s_ret eS (ev_var (R := pE (RgEnd (okR l) (expl (mkCase l [] [] none))) fun rs => pL (rs.map pLks)) ⟨rs, rg_end (c := fun Ps => mkCase l [] Ps none) hI okR_nil ho, fl, acc, rfl, upd_same, rA.mono (Ex.new nF)⟩) (q.go sN)
end
end Rb
set_option Elab.async false
set_option linter.all false
set_option maxRecDepth 100000
set_option maxHeartbeats 3200000
/-! Walks: rings for moves. -/
namespace Rb
open PySem PySem.Spec PyProof.Rows L2
abbrev cM (l : LogD) (Ps : List Nat) : CaseD := mkCase l [] [] (some Ps)
section
variable {P : Program} {w : World} {K : PySem.W.Frag} {mg : Str → Option Value} {base : Heap} {CL CC : Addr}
abbrev s_rings_for_moves : Stmt := topS 46
theorem sc_rings_for_moves : FnScope ["log", "rings", "places", "case", "ring"] ["log"] (defScope s_rings_for_moves) := ⟨rfl, rfl, rfl, by decide +kernel, rfl, by decide +kernel, by decide +kernel⟩
abbrev n_rings_for_moves : List Str := ["log", "rings", "places", "case", "ring"]
abbrev F_rings_for_moves (P : Program) (w : World) (K : PySem.W.Frag) (mg : Str → Option Value) (base : Heap) (CL : Addr) : Prop := Fn P w K mg base 7 "rings_for_moves" ["log"] (spN (fun l : LogD => [pLog CL l]) (fun l => l.Ok ∧ l.events.length ≤ 10 ∧ expl (mkCase l [] [] none) = true) fun l => pE (RgEnd (okM l) (expl (cM l []))) fun rs => pL (rs.map pLks))
theorem w_rings_for_moves (Z : Bz K mg CL CC) (D : Df K mg "rings_for_moves" s_rings_for_moves [] []) (CK : CaseMk P w K mg base CL CC) (m_Case_ring : M_ring P w K mg base CC) (m_Case_is_explained : M_expl P w K mg base CC) (f_held_at : F_held_at P w K mg base CL CC) : F_rings_for_moves P w K mg base CL :=
  fn_mk (k := 6) D sc_rings_for_moves (fun _ => rfl) (bnd1 fun _ _ _ _ _ _ _ => rfl) fun f cdv A outer s H1 vs Q X l H hr e hp h q => by
    have sc := sc_rings_for_moves
    have hu := hu_of hr
    obtain ⟨vl, rfl, rl⟩ := all1 h
    obtain ⟨hl, hev, hex⟩ := hp
    have hl : l.Ok := hl
    have hev : l.events.length ≤ 10 := hev
    have hex : expl (mkCase l [] [] none) = true := hex
    refine ⟨_, (pss_cons (ps_if (pt_not (pt_val (pe_me0 m_Case_is_explained Z.c_Case hr (by decide) (pe_case CK hr (by decide) (by rfl) Z.Case (pa_cons (pv 0) pa_nil))))) pss_never pss_nil)
    (pss_cons (ps_set (i := 1) sc.nd rfl (Or.inl rfl) (pe_lst pa_nil))
    (pss_cons (ps_set (i := 2) sc.nd rfl (Or.inl rfl) (pe_lst pa_nil))
    (pss_cons (ps_set (i := 3) sc.nd rfl (Or.inl rfl) (pe_caseM CK hr (by decide) (by rfl) Z.Case (pa_cons (pv 0) pa_nil) (pk_cons (pv 2) pk_nil)))
    (pss_cons (ps_set (i := 4) sc.nd rfl (Or.inl rfl) (pe_me0 m_Case_ring Z.c_Case hr (by decide) (pv 3)))
    (pss_cons (ps_while PassesOwn.never (pt_cmpR op_notN (pv 4) pe_non (nomark _)) (pss_cons (ps_expr (pe_bm PySem.F.plainAttrs_list PySem.F.slot_list_append PySem.F.type_list_append mt_append (pv 1) (pa_cons (pv 4) pa_nil)))
    (pss_cons (ps_set (i := 2) sc.nd rfl (Or.inl rfl) (pe_op op_cat (pv 2) (pe_fn f_held_at hr (by decide) (by rfl) (pa_cons (pv 0) (pa_cons (pv 3) (pa_cons (pv 4) pa_nil))))))
    (pss_cons (ps_set (i := 3) sc.nd rfl (Or.inl rfl) (pe_caseM CK hr (by decide) (by rfl) Z.Case (pa_cons (pv 0) pa_nil) (pk_cons (pv 2) pk_nil)))
    (pss_one (ps_set (i := 4) sc.nd rfl (Or.inl rfl) (pe_me0 m_Case_ring Z.c_Case hr (by decide) (pv 3))))))))
    (pss_one (ps_ret (pv 1))))))))), ?_⟩
    refine q_ifN e ((et_not (et_B (ev_meth (as := []) (mkCase l [] [] none) (ev_case (ev_var rl) hl) (case_ins rfl) ea_nil rfl (mk_ok hl _ _ _)))).eq (by rw [hex]; rfl)) fun A0 e0 => ?_
    refine q_nil fun fl hfl => ?_
    have hflH : H1 fl = none := e0.back hfl
    have s0 : Sep H H1 H (upd A0 fl (.lst [])) := ((Sep.refl e).ext e0).ext (Ex.new hfl)
    refine q_asg s0.b (ev_lst ea_nil) fun vs G1 A1 s1 r1 => ?_
    have k1 := s1.keep (e.back hflH) upd_same
    have t1 := s0.trans s1
    refine q_asg s1.b (ev_caseM (M := []) (ev_var ((pLog CL l).mono s1.a rl)) (ev_var r1) hl (fun p hp => by cases hp)) fun vc G2 A2 s2 r2 => ?_
    have k2 := s2.keep k1.1 k1.2
    refine q_asg s2.b (ev_meth (as := []) (cM l []) (ev_var r2) (case_ins rfl) ea_nil rfl (mk_ok hl _ _ _)) fun vr G3 A3 s3 r3 => ?_
    have k3 := s3.keep k2.1 k2.2
    refine q_while (fun m σ F1 => ∃ F Ps rs acc us uc ur, σ = [some vl, some (.ref fl), some us, some uc, some ur] ∧ Sep H H1 F F1 ∧ F fl = none ∧ F1 fl = some (.lst acc) ∧ All2 F acc (List.map pLks rs) ∧ (pNs Ps).p F us ∧ (pCase CC (cM l Ps)).p F uc ∧ (pRing (cM l Ps)).p F ur ∧ RgI l (okM l) Ps rs.length ∧ m = left l Ps ∧ Ps.length + 510 * m ≤ 5100 ∧ rs.length + m ≤ 10)
      (left l []) ⟨G3, [], [], [], vs, vc, vr, rfl, (t1.trans s2).trans s3, k3.1, k3.2, True.intro, (pNs []).mono (s2.a.trans s3.a) r1, (pCase CC _).mono s3.a r2, r3, RgI.zero l _, rfl, by have := left_le l []; simp; omega, by have := left_le l []; simp; omega⟩ ?_
    rintro m σ' F1 ⟨F, Ps, rs, acc, us, uc, ur, rfl, sF, nF, gF, rA, rus, ruc, rur, hI, hm, hb1, hb2⟩
    obtain ⟨o, ho, ro⟩ := rur
    refine ⟨F, o.isSome, sF.b, et_test (ev_notN (ev_var (R := pV ur) rfl) fun H' v e1 r => ?_), fun z G3 e3 => ?_, fun z G3 e3 => ?_⟩
    · have r : v = ur := r
      subst r
      cases o with
      | none =>
        have ro : v = .non := ro
        rw [ro]
        rfl
      | some r =>
        obtain ⟨a, xs, ev, _⟩ := ro
        rw [ev]
        rfl
    · cases o with
      | none => cases z
      | some r =>
        obtain ⟨hring, hlen⟩ : IsRing (cM l Ps) r ∧ r.length ≤ 51 := ho
        have ro : (pLks r).p F ur := ro
        have hH := holds_moves hex hring
        have hlt := left_lt hH
        have hacc : acc.length = rs.length := by
          have := rA.length
          rwa [List.length_map] at this
        have hml : m ≤ 10 := by omega
        refine q_app (K := K) (i := 1) (l := fl) (sF.b.trans e3) nF (e3 _ _ gF) rfl (ev_var ro) (by omega) fun w1 G4 A4 s4 r4 => ?_
        have k4 := s4.keep nF (e3 _ _ gF)
        have t4 := ((sF.ext e3).trans s4).mut (o := .lst (acc ++ [w1])) hflH k4.1
        generalize hheldq : l.heldAt (cM l Ps) r = held at hH hlt
        have hheld : held.length ≤ 510 := by
          rw [← hheldq]
          have h1 := flat_le (f := fun k => l.between l.answers k) (n := 10) (as := r.filter fun k => !(cM l Ps).inOrder k.1 k.2) fun k _ => between_len (Nat.le_trans l.answers_len hev)
          have h2 := List.length_filter_le (fun k => !(cM l Ps).inOrder k.1 k.2) r
          have h3 : (r.filter fun k => !(cM l Ps).inOrder k.1 k.2).length * 10 ≤ 51 * 10 := Nat.mul_le_mul_right _ (by omega)
          unfold LogD.heldAt
          omega
        have hI2 := hI.step hH
        have hal : ∀ p ∈ Ps ++ held, l.isAns p = true := hI2.ans
        have hlk := ring_links hring
        refine q_asg t4.b (R := pNs (Ps ++ held)) (Ev.imp (ev_cat (ps := Ps.map pN) (qs := held.map pN) (ev_var ((pNs Ps).mono s4.a rus)) (Ev.imp (ev_call (l, cM l Ps, r) (ea_cons (ev_var ((pLog CL l).mono t4.a rl)) (ea_cons (ev_var ((pCase CC _).mono s4.a ruc)) (ea_one (ev_var ((pLks r).mono s4.a ro))))) ⟨hl, mk_ok hl _ _ _, by show r.length ≤ 500; omega, fun k hk => ⟨mk_ps.mpr ⟨(hlk k hk).ha, (hlk k hk).sa⟩, mk_ps.mpr ⟨(hlk k hk).hb, (hlk k hk).sb⟩, (hlk k hk).ha, (hlk k hk).hb⟩⟩) fun H' v _ rr => ?_) ?_) fun H' v _ rr => ?_) fun us2 G7 A7 s7 r7 => ?_
        · rw [← hheldq]
          exact rr
        · rw [List.length_map, List.length_map]
          omega
        · show (pL ((Ps ++ held).map pN)).p H' v
          rw [List.map_append]
          exact rr
        have k7 := s7.keep k4.1 (upd_same (H := A4) (o := .lst (acc ++ [w1])))
        have t7 := t4.trans s7
        refine q_asg t7.b (ev_caseM (M := Ps ++ held) (ev_var ((pLog CL l).mono t7.a rl)) (ev_var r7) hl hal) fun uc2 G9 A9 s9 r9 => ?_
        have k9 := s9.keep k7.1 k7.2
        have t9 := t7.trans s9
        refine s_asg t9.b (ev_meth (as := []) (cM l (Ps ++ held)) (ev_var r9) (case_ins rfl) ea_nil rfl (mk_ok hl _ _ _)) fun ur2 G8 A8 s8 r8 => ?_
        have k8 := s8.keep k9.1 k9.2
        refine ⟨left l (Ps ++ held), by omega, G8, _, rs ++ [r], acc ++ [w1], us2, uc2, ur2, rfl, t9.trans s8, k8.1, k8.2, ?_, (pNs _).mono (s9.a.trans s8.a) r7, (pCase CC _).mono s8.a r9, r8, ?_, rfl, ?_, ?_⟩
        · rw [List.map_append]
          exact ((rA.mono s4.a).snoc r4).mono (s7.a.trans (s9.a.trans s8.a))
        · rw [List.length_append]
          exact hI2
        · rw [List.length_append]
          omega
        · rw [List.length_append]
          show rs.length + 1 + _ ≤ _
          omega
    · cases o with
      | some r => cases z
      | none =>
        have eS : Ex (upd F fl (.lst acc)) G3 := (sF.b.trans e3).put (e3 _ _ gF)
        have sN : Sep H H1 (upd F fl (.lst acc)) G3 := (sF.ext e3).own hflH nF (e3 _ _ gF)
        exact s_ret eS (ev_var (R := pE (RgEnd (okM l) (expl (cM l []))) fun rs => pL (rs.map pLks)) ⟨rs, rg_end (c := fun Ps => cM l Ps) hI okM_nil ho, fl, acc, rfl, upd_same, rA.mono (Ex.new nF)⟩) (q.go sN)
end
end Rb
set_option Elab.async false
set_option linter.all false
set_option maxRecDepth 100000
set_option maxHeartbeats 3200000
/-! Walks: least_lists, the def that calls what it got. -/
namespace Rb
open PySem PySem.Spec PyProof.Rows L2 LamX
theorem pe_nev {X : Cx} {e : Expr} : PE X e (fun _ _ _ => False) := ⟨fun _ _ _ _ _ _ h => h.elim⟩
/-- what least_lists promises of the lambda tl that it got -/
def TLeast (tl : V → Hp → VK → Prop) (v0 : V) (H : Hp) (Q : VK) : Prop := ∃ (ps : List Nat) (E : List Nat → Bool) (G : Hp), Asc ps ∧ ps.length ≤ 10 ∧ Ex G H ∧ (pNs ps).p G v0 ∧
  (∀ row v G1 A, Asc row → (∀ p ∈ row, p ∈ ps) → Ex G G1 → Ex G1 A → (pNs row).p G1 v → ∀ Q', Ret G1 A (pB (E row)) Q' → tl v A Q') ∧
  ∀ v G' H2, Ex G G' → Ex G' H2 → Ex H H2 → (∀ b ps, G' b = some (.tbl ps) → G b = some (.tbl ps)) → (pL ((leastLists ps E).map pNs)).p G' v → Q v H2
section
variable {X : Cx} {CL CC : Addr}
abbrev s_least_lists : Stmt := topS 37
theorem sc_least_lists : FnScope ["places", "is_enough", "found", "many", "row", "place", "less"] ["places", "is_enough"] (defScope s_least_lists) := ⟨rfl, rfl, rfl, by decide +kernel, rfl, by decide +kernel, by decide +kernel⟩
abbrev n_least_lists : List Str := ["places", "is_enough", "found", "many", "row", "place", "less"]
abbrev sc_less : Scope := { kind := .function, names := [(".0", .local), ("less", .local), ("all", .globalImplicit), ("row", .cell)], isGenerator := false, isCoroutine := false }
theorem fold_take {E : List Nat → Bool} {rows found : List (List Nat)} {i : Nat} {row : List Nat} (h : rows[i]? = some row) : (rows.take (i + 1)).foldl (leastStep E) found = leastStep E ((rows.take i).foldl (leastStep E) found) row := by
  obtain ⟨h1, h2⟩ := List.getElem?_eq_some_iff.mp h
  rw [List.take_succ_eq_append_getElem h1, List.foldl_append, h2]
  rfl
theorem g_least {g : Addr} {cdg : Value} {q : Str} (Z : Bz X.K X.mg CL CC) (f_lists_of : F_lists_of X.prog X.w X.K X.mg X.base) : GivesA X n_least_lists "least_lists" (defScope s_least_lists) g cdg (defBody s_least_lists) "is_enough" q TLeast := by
  intro f c' s H Q v0 tl hr act hc ⟨ps, E, G, hasc, hz, eG, rp, htl, fin⟩
  have sc := sc_least_lists
  refine ⟨_, (pss_cons (ps_set (i := 2) sc.nd rfl (Or.inl rfl) (pe_lst pa_nil))
    (pss_cons (ps_for PassesOwn.never rfl (pi_range1 (by rfl) Z.range (pa_cons (pe_op op_add (pe_callB (cLen X.K) (by rfl) Z.len PySem.boot_len (pa_cons (pv 0) pa_nil)) pe_int) pa_nil)) (pg_name (i := 3) sc.nd rfl (by first | exact Or.inl rfl | exact Or.inr rfl)) (pss_one (ps_for PassesOwn.never rfl (piList X.K (pe_fn f_lists_of hr (by decide) (by rfl) (pa_cons (pv 0) (pa_cons (pv 3) pa_nil)))) (pg_name (i := 4) sc.nd rfl (by first | exact Or.inl rfl | exact Or.inr rfl)) (pss_one (ps_if (PW.pt (pw_and (pt_not (pt_val (pe_callB (crAny X.K rfl) (by rfl) Z.any (by decide +kernel) (pa_cons (pe_lc (own := [("less", 6)]) (g := (gName 6)) rfl sc.nd (piList X.K (pv 2)) (blkOk_by (N := n_least_lists) (sc := defScope s_least_lists) (by decide +kernel)) (fun _ _ _ _ _ => (pg_name (i := 6) sc.nd rfl (by first | exact Or.inl rfl | exact Or.inr rfl))) (fun _ _ _ _ _ => pts_nil) (fun _ _ _ _ _ => (pe_callB (crAll X.K rfl) (by rfl) Z.all (by decide +kernel) (pa_cons (pe_lc (own := [("place", 5)]) (g := (gName 5)) rfl sc.nd (piList X.K (pv 6)) (blkOk_by (N := n_least_lists) (sc := sc_less) (by decide +kernel)) (fun _ _ _ _ _ => (pg_name (i := 5) sc.nd rfl (by first | exact Or.inl rfl | exact Or.inr rfl))) (fun _ _ _ _ _ => pts_nil) (fun _ _ _ _ _ => (pe_cmpR (opIn X.K) (pv 5) (pv 4) (by rfl)))) pa_nil)))) pa_nil)))) (pw_and1 (pt_val (act _ _ _ _ (pv 4) rfl))))) (pss_one (ps_expr (pe_bm PySem.F.plainAttrs_list PySem.F.slot_list_append PySem.F.type_list_append mt_append (pv 2) (pa_cons (pv 4) pa_nil)))) pss_nil)))))
    (pss_one (ps_ret (pv 2))))), ?_⟩
  -- the code object is known
  have hG0 : ∃ G0, Ex G G0 ∧ Ex G0 H ∧ G0 c' = some (CodeO c' q) ∧ ∀ b ps, G0 b = some (.tbl ps) → G b = some (.tbl ps) := by
    refine ⟨fun b => if b = c' then some (CodeO c' q) else G b, fun b o h => ?_, fun b o h => ?_, if_pos rfl, fun b ps h => ?_⟩
    · show (if b = c' then some (CodeO c' q) else G b) = some o
      by_cases e : b = c'
      · rw [if_pos e]
        have := eG _ _ h
        rw [e, hc] at this
        exact this
      · rw [if_neg e]
        exact h
    · have h : (if b = c' then some (CodeO c' q) else G b) = some o := h
      by_cases e : b = c'
      · rw [if_pos e] at h
        rw [e, hc]
        exact h
      · rw [if_neg e] at h
        exact eG _ _ h
    · have h : (if b = c' then some (CodeO c' q) else G b) = some (.tbl ps) := h
      by_cases e : b = c'
      · rw [if_pos e] at h
        cases h
      · rw [if_neg e] at h
        exact h
  obtain ⟨G0, eGG, eG0, hc0, ht0⟩ := hG0
  have rp0 := (pNs ps).mono eGG rp
  refine q_nil fun fl hfl => ?_
  have s0 := Sep.hid (o := .lst []) eG0 hfl
  refine q_for (H := G0) s0.b (ei_range (n := ps.length + 1) (ea_one ((ev_I0 (i := (ps.length : Int)) (j := 1) ((ev_len (ev_var rp0)).eq (by simp)) ev_c).eq (by simp))) (by omega))
    (fun i σ F F1 => Sep G0 H F F1 ∧ (∃ x y z u, σ = [some v0, some (.ref f), some (.ref fl), x, y, z, u]) ∧ F fl = none ∧ ∃ acc, F1 fl = some (.lst acc) ∧ All2 F acc ((leastTo ps E i).map pNs))
    (fun H' H2 s => ?_) ?_ ?_
  · have kk := s.keep (eG0.back hfl) upd_same
    exact ⟨s0.trans s, ⟨_, _, _, _, rfl⟩, kk.1, [], kk.2, True.intro⟩
  · rintro i p um σ' F F1 F' F2 hpi ⟨sF, ⟨x, y, z, u', rfl⟩, nF, acc, gF, rA⟩ eF s2 rm
    obtain ⟨m, hm, rfl⟩ := map_get hpi
    have hil : i < ps.length + 1 := by
      have := (List.getElem?_eq_some_iff.mp hm).1
      simpa using this
    have hmi : m = i := by
      have := (List.getElem?_eq_some_iff.mp hm).2
      simpa using this.symm
    subst hmi
    have k2 := s2.keep nF gF
    have rp2 := (pNs ps).mono (sF.a.trans s2.a) rp0
    have hto := leastTo_len hasc hz E m
    have hlo := listsOf_len hasc hz m
    refine bnd_name F2 s2.b _ ?_
    refine s_for (H := F') s2.b (ei_list (ps := (listsOf ps m).map pNs) (ev_call (ps, m) (ea_cons (ev_var rp2) (ea_one (ev_var rm))) ⟨hasc, hz, by show m ≤ 50; omega⟩))
      (fun j σ L L1 => Sep G0 H L L1 ∧ Ex F' L ∧ (∃ y z u, σ = [some v0, some (.ref f), some (.ref fl), some um, y, z, u]) ∧ L fl = none ∧ ∃ acc, L1 fl = some (.lst acc) ∧ All2 L acc ((((listsOf ps m).take j).foldl (leastStep E) (leastTo ps E m)).map pNs))
      (fun H' H2 s => ?_) ?_ ?_
    · have kk := s.keep k2.1 k2.2
      exact ⟨(sF.trans s2).trans s, s.a, ⟨_, _, _, rfl⟩, kk.1, acc, kk.2, rA.mono (s2.a.trans s.a)⟩
    · rintro j p ur σ' L L1 L' L2 hpj ⟨sL, eFL, ⟨y, z, u', rfl⟩, nL, acc, gL, rL⟩ eL s3 rr
      obtain ⟨row, hrow, rfl⟩ := map_get hpj
      obtain ⟨hra, hrs⟩ := listsOf_asc (List.mem_of_getElem? hrow)
      have hjl := (List.getElem?_eq_some_iff.mp hrow).1
      have k3 := s3.keep nL gL
      have rL3 := rL.mono s3.a
      have hst := fold_take (E := E) (found := leastTo ps E m) hrow
      have hfl2 := fold_step_len (E := E) ((listsOf ps m).take j) (leastTo ps E m)
      have htk := List.length_take_le' j (listsOf ps m)
      have hfin : ∀ less ∈ ((listsOf ps m).take j).foldl (leastStep E) (leastTo ps E m), less.length ≤ 10 := fun less hl => by
        have h1 : Asc less ∧ ∀ p ∈ less, p ∈ ps := by
          rcases fold_step_mem _ _ hl with z | ⟨z, _⟩
          · exact (leastTo_mem z).2
          · exact listsOf_asc (List.mem_of_mem_take z)
        exact Nat.le_trans (nodup_len (asc_nd h1.1) h1.2) hz
      generalize hS : ((listsOf ps m).take j).foldl (leastStep E) (leastTo ps E m) = S at *
      have hacc : acc.length = S.length := by
        have := rL.length
        rwa [List.length_map] at this
      have hm11 : m * 1024 ≤ 10 * 1024 := Nat.mul_le_mul_right _ (by omega)
      have eS : Ex (upd L' fl (.lst acc)) L2 := s3.b.put k3.2
      have rS : (pL (S.map pNs)).p (upd L' fl (.lst acc)) (.ref fl) := ⟨fl, acc, rfl, upd_same, rL3.mono (Ex.new k3.1)⟩
      have eN := Ex.new (o := .lst acc) k3.1
      have rr2 := (pNs row).mono eN rr
      have eGL : Ex G (upd L' fl (.lst acc)) := eGG.trans ((sL.a.trans s3.a).trans eN)
      have hcL : (upd L' fl (.lst acc)) c' = some (CodeO c' q) := eN _ _ (s3.a _ _ (sL.a _ _ hc0))
      refine bnd_name L2 s3.b _ ?_
      refine s_if (b := !hasLess S row && E row) eS (et_and (et_not (et_B (Ev.eq (ev_any (K := X.K) (bs := S.map fun less => less.all fun p => decide (p ∈ row)) (Ev.imp (ev_lcA (as := S) (f := pNs) (h := fun less => pB (less.all fun p => decide (p ∈ row))) (ei_list (ev_var rS)) (by omega) fun less v G5 hless eG5 rv => ⟨_, bnd_name, rfl, ?_⟩) fun H' v _ r => ?_)) ?_))) fun z => et_B ?_) (fun z G3 e3 => ?_) fun z G3 e3 => ?_
      · refine ev_allLc (fun p => decide (p ∈ row)) (ei_list (ev_var rv)) (by have := hfin less hless; omega) fun p w G6 hp eG6 rw' => ⟨_, bnd_name, rfl, ?_⟩
        exact ev_inN (ev_var rw') (ev_var ((pNs row).mono (eG5.trans eG6) rr2))
      · rw [List.map_map]
        exact r
      · unfold hasLess
        rw [List.any_map]
        rfl
      · -- the lambda's call
        intro A eA Q' q'
        refine ⟨rfl, _, rfl, eA _ _ hcL, htl row ur (upd L' fl (.lst acc)) A hra hrs eGL eA rr2 Q' q'⟩
      · have hst2 : leastStep E S row = S ++ [row] := by
          unfold leastStep
          rw [if_pos z]
        refine s_app (K := X.K) (i := 2) (l := fl) (s3.b.trans e3) k3.1 (e3 _ _ k3.2) rfl (ev_var rr) (by omega) fun w2 G4 G5 s4 r4 => ?_
        have k4 := s4.keep k3.1 (e3 _ _ k3.2)
        refine ⟨G4, s3.a.trans s4.a, s4.b.mut k4.1, ((sL.trans s3).ext e3 |>.trans s4).mut hfl k4.1, eFL.trans (s3.a.trans s4.a), ⟨_, _, _, rfl⟩, k4.1, acc ++ [w2], upd_same, ?_⟩
        rw [hst, hst2, List.map_append]
        exact (rL3.mono s4.a).snoc r4
      · have hst2 : leastStep E S row = S := by
          unfold leastStep
          rw [if_neg (by rw [z]; decide)]
        refine ⟨L', s3.a, s3.b.trans e3, (sL.trans s3).ext e3, eFL.trans s3.a, ⟨_, _, _, rfl⟩, k3.1, acc, e3 _ _ k3.2, ?_⟩
        rw [hst, hst2]
        exact rL3
    · rintro σ' L L1 eL eL1 ⟨sL, eFL, ⟨y, z, u', rfl⟩, nL, acc, gL, rL⟩
      rw [List.length_map, List.take_length] at rL
      refine ⟨L, s2.a.trans eFL, eL1, sL, ⟨_, _, _, _, rfl⟩, nL, acc, gL, ?_⟩
      rw [leastTo_succ]
      exact rL
  · rintro σ' F F1 eF eF1 ⟨sF, ⟨x, y, z, u, rfl⟩, nF, acc, gF, rA⟩
    rw [List.length_map, List.length_range] at rA
    have sN : Sep G0 H (upd F fl (.lst acc)) F1 := sF.own hfl nF gF
    refine s_ret sN.b (ev_var (R := pL ((leastLists ps E).map pNs)) ⟨fl, acc, rfl, upd_same, rA.mono (Ex.new nF)⟩) fun v G' H2 s r => ?_
    have sA := sN.trans s
    exact fin v G' H2 (eGG.trans sA.a) sA.b sA.c (fun b ps h => ht0 b ps (sA.e b ps h)) r
end
end Rb
set_option Elab.async false
set_option linter.all false
set_option maxRecDepth 100000
set_option maxHeartbeats 3200000
/-! Walks: least_resets, least_strikes, least_moves. -/
namespace Rb
open PySem PySem.Spec PyProof.Rows L2 LamX
/-- no table is known -/
def NoT (G : Hp) : Prop := ∀ b ps, G b ≠ some (.tbl ps)
theorem NoT.ext {G H H1 : Hp} (n : NoT G) (e : Ex G H) (eN : ExtN H H1) : Ex G H1 := fun b o h => eN b o (e b o h) fun ps z => n b ps (by rw [h, z])
/-- a promise by its data, where tables of code objects may be written -/
def spT {α : Type} (T : List (Addr × Str)) (Ps : α → List Pr) (pre : α → Prop) (R : α → Pr) : Sp := fun vs H1 Q _ => ∃ a G, Ex G H1 ∧ NoT G ∧ Tabs T H1 ∧ pre a ∧ All2 G vs (Ps a) ∧
  ∀ v G' H2, Ex G G' → Ex G' H2 → NoT G' → Tabs T H2 → (R a).p G' v → Q v H2
/-- a def whose code object and table are known -/
structure DfC (K : PySem.W.Frag) (mg : Str → Option Value) (x : Str) (st : Stmt) (dvs : List V) (kws : List (Str × V)) (c : Addr) : Prop where
  ex : ∃ (f : Addr) (fd : FuncData) (oc : Value) (od : Option Addr) (dV kV doc pm : Value) (an : Option Addr) (ct : Value) (osl : Array (Option Value)),
    fd = PySem.W.fnOf x x (defArgs st) (defBody st) (defScope st) dV kV doc pm an (.ref c) ct ∧ K.lookup f = some ⟨oc, od, .func fd, osl⟩ ∧ PySem.W.codeIn K (.ref c) x = true ∧ FunD K x x (defArgs st) (defBody st) (defScope st) dvs kws f fd ∧ mg x = some (.ref f)
/-- least_lists as it stands -/
structure LLs (K : PySem.W.Frag) (mg : Str → Option Value) : Prop where
  ex : ∃ (g : Addr) (oc : Value) (od : Option Addr) (dV kV doc pm : Value) (an : Option Addr) (cdv ct : Value) (osl : Array (Option Value)),
    K.lookup g = some ⟨oc, od, .func (PySem.W.fnOf "least_lists" "least_lists" (defArgs s_least_lists) (defBody s_least_lists) (defScope s_least_lists) dV kV doc pm an cdv ct), osl⟩ ∧ PySem.W.codeIn K cdv "least_lists" = true ∧ PySem.W.keepIn K (.ref g) = true ∧ mg "least_lists" = some (.ref g) ∧
    L2.Binds K (PySem.W.fnOf "least_lists" "least_lists" (defArgs s_least_lists) (defBody s_least_lists) (defScope s_least_lists) dV kV doc pm an cdv ct) ["places", "is_enough"] []
theorem LLs.of {K : PySem.W.Frag} {mg : Str → Option Value} (D : Df K mg "least_lists" s_least_lists [] []) : LLs K mg := by
  obtain ⟨f, fd, F, hm⟩ := D.ex
  have hb := F.bindsN (ps := ["places", "is_enough"]) (bnd2 fun _ _ _ _ _ _ _ _ => rfl)
  obtain ⟨oc, od, dV, kV, doc, pm, an, cdv, ct, osl, rfl, lk, hcd, _, _⟩ := F.ex
  exact ⟨f, oc, od, dV, kV, doc, pm, an, cdv, ct, osl, lk, hcd, F.kp, hm, hb⟩
/-- .. with its promise -/
structure FnT (P : Program) (w : World) (K : PySem.W.Frag) (mg : Str → Option Value) (base : Heap) (k : Nat) (x : Str) (ps : List Str) (dvs : List V) (sp : Sp) : Prop where
  ex : ∃ f fd ds, FnOk P w K mg base CX0 k f fd ps sp ∧ mg x = some (.ref f) ∧ PySem.W.keepIn K (.ref f) = true ∧ Vals dvs ds ∧ Binds K fd ps ds
section
variable {P : Program} {w : World} {K : PySem.W.Frag} {mg : Str → Option Value} {base : Heap} {CL CC : Addr}
abbrev s_least_resets : Stmt := topS 52
theorem sc_least_resets : FnScope ["log", "places"] ["log"] (defScope s_least_resets) := ⟨rfl, rfl, rfl, by decide +kernel, rfl, by decide +kernel, by decide +kernel⟩
abbrev n_least_resets : List Str := ["log", "places"]
theorem w_least_resets {T : List (Addr × Str)} {c Pt : Addr} (Z : Bz K mg CL CC) (D : DfC K mg "least_resets" s_least_resets [] [] c) (LD : LLs K mg) (TB : TabB base mg c Pt) (hmT : (Pt, ("least_resets.<locals>.<lambda>" : Str)) ∈ T) (huT : ∀ p ∈ T, p.1 = Pt → p.2 = ("least_resets.<locals>.<lambda>" : Str))
    (f_lists_of : F_lists_of P w K mg base) (f_reset_places : F_reset_places P w K mg base CL) (f_check_sizes : F_check_sizes P w K mg base) (m_Log_answers : M_answers P w K mg base CL) (CK : CaseMk P w K mg base CL CC) (m_Case_is_explained : M_expl P w K mg base CC) :
    FnT P w K mg base 17 "least_resets" ["log"] [] (spT T (fun l : LogD => [pLog CL l]) (fun l => l.Ok ∧ l.events.length ≤ 10) fun l => pL ((leastLists l.resetPlaces fun M => expl (mkCase l [] M none)).map pNs)) := by
  obtain ⟨f, fd, oc, od, dV, kV, doc, pm, an, ct, osl, rfl, lk, hcd, F, hm⟩ := D.ex
  refine ⟨f, _, [], fn_of (k := 16) lk hcd sc_least_resets (fun vs H Q E ⟨l, G, _, _, _, _, h, _⟩ => h.length) fun A outer s H1 vs Q E hr h => ?_, hm, F.kp, .nil, F.bindsN (bnd1 fun _ _ _ _ _ _ _ => rfl)⟩
  have sc := sc_least_resets
  obtain ⟨g, goc, god, gdV, gkV, gdoc, gpm, gan, gcdv, gct, gosl, glk, ghcd, gkp, gm, gb⟩ := LD.ex
  obtain ⟨l, G, e, nT, hT, hp, h, q⟩ := h
  obtain ⟨vl, rfl, rl⟩ := all1 h
  obtain ⟨hl, hev⟩ := hp
  have hl : l.Ok := hl
  have hev : l.events.length ≤ 10 := hev
  have hst : ∀ j ∈ l.names, ((l.stretches j).flatMap id).length ≤ 150 := fun j _ => Nat.le_trans (st_flat_len l j) (by omega)
  have hrp := resetPlaces_asc hl
  have hra : ∀ p ∈ l.resetPlaces, l.isAns p = true := fun p hp => ((mem_reset hl).mp hp).1
  have hrl : l.resetPlaces.length ≤ 10 := Nat.le_trans (asc_len hrp hra) hev
  refine ⟨_, PSs.nox (pss_cons (ps_set (i := 1) sc.nd rfl (Or.inl rfl) (pe_fn f_reset_places hr (by decide) (by rfl) (pa_cons (pv 0) pa_nil)))
    (pss_cons (ps_expr (pe_fn f_check_sizes hr (by decide) (by rfl) (pa_cons (pv 1) (pa_cons (pe_me0 m_Log_answers Z.c_Log hr (by decide) (pv 0)) pa_nil))))
    (pss_one (ps_ret (pe_lamA (T := T) (TT := TLeast) (k := 6) (Ng := n_least_lists) (by rfl) gm gkp glk ghcd gb sc_least_lists rfl (by first | exact Or.inl rfl | exact Or.inr (Or.inl rfl) | exact Or.inr (Or.inr rfl)) (g_least Z f_lists_of) TB rfl hmT huT hr (lamA_by (by rfl)) (show ("row" : Str) ∉ (["log", "places"] : List Str) by decide) rfl (fun _ _ _ _ _ _ => rfl) (pv 1) rfl
      (fun A outer s H f c' hr => (pe_me0 m_Case_is_explained Z.c_Case hr (by decide) (pe_caseR CK hr (by decide) (by rfl) Z.Case (pa_cons (pv 0) pa_nil) (pk_cons (pv 2) pk_nil))))))))), ?_⟩
  refine q_asg e (ev_call l (ea_one (ev_var rl)) ⟨hl, hst⟩) fun vp G1 A1 s1 r1 => ?_
  refine q_drop s1.b (ev_call (l.resetPlaces, l.answers) (ea_cons (ev_var r1) (ea_one (ev_meth (as := []) l (ev_var ((pLog CL l).mono s1.a rl)) (log_ins rfl) ea_nil rfl hl.few))) ⟨hrl, by show l.answers.length ≤ 40; have := l.answers_len; omega⟩) fun G2 A2 s2 => ?_
  have s12 := s1.trans s2
  have nT2 : NoT G2 := fun b ps z => nT b ps (s12.e b ps z)
  refine ⟨vp, rfl, hT.ext s12.c, fun B eN T1 => ⟨l.resetPlaces, fun M => expl (mkCase l [] M none), G2, hrp, hrl, nT2.ext s12.b eN, (pNs _).mono s2.a r1, fun row v G3 A3 _ hrs eG eA rv Q' q' => ?_, fun v G' H2 e1 e2 e3 ht r => q v G' H2 (s12.a.trans e1) e2 (fun b ps z => nT2 b ps (ht b ps z)) (T1.ext e3) r⟩⟩
  exact (ev_meth (as := []) (mkCase l [] row none) (ev_caseR (ev_var ((pLog CL l).mono (s12.a.trans eG) rl)) (ev_var rv) hl fun p hp => hra p (hrs p hp)) (case_ins rfl) ea_nil rfl (mk_ok hl _ _ _)) A3 eA Q' q'
end
end Rb
set_option Elab.async false
set_option linter.all false
set_option maxRecDepth 100000
set_option maxHeartbeats 3200000
/-! Walks: least_strikes, least_moves. -/
namespace Rb
open PySem PySem.Spec PyProof.Rows L2 LamX
section
variable {P : Program} {w : World} {K : PySem.W.Frag} {mg : Str → Option Value} {base : Heap} {CL CC : Addr}
abbrev s_least_strikes : Stmt := topS 58
theorem sc_least_strikes : FnScope ["log", "places", "found"] ["log", "places"] (defScope s_least_strikes) := ⟨rfl, rfl, rfl, by decide +kernel, rfl, by decide +kernel, by decide +kernel⟩
abbrev n_least_strikes : List Str := ["log", "places", "found"]
theorem w_least_strikes {T : List (Addr × Str)} {c Pt : Addr} (Z : Bz K mg CL CC) (D : DfC K mg "least_strikes" s_least_strikes [] [("places", .non)] c) (LD : LLs K mg) (TB : TabB base mg c Pt) (hmT : (Pt, ("least_strikes.<locals>.<lambda>" : Str)) ∈ T) (huT : ∀ p ∈ T, p.1 = Pt → p.2 = ("least_strikes.<locals>.<lambda>" : Str))
    (f_lists_of : F_lists_of P w K mg base) (f_check_answers : F_check_answers P w K mg base CL) (f_check_sizes : F_check_sizes P w K mg base) (m_Log_answers : M_answers P w K mg base CL) (CK : CaseMk P w K mg base CL CC) (m_Case_is_explained : M_expl P w K mg base CC) :
    FnT P w K mg base 17 "least_strikes" ["log", "places"] [.non] (spT T (fun l : LogD => [pLog CL l, pNo]) (fun l => l.Ok ∧ l.events.length ≤ 10) fun l => pL ((leastLists l.answers fun M => expl (mkCase l M [] none)).map pNs)) := by
  obtain ⟨f, fd, oc, od, dV, kV, doc, pm, an, ct, osl, rfl, lk, hcd, F, hm⟩ := D.ex
  obtain ⟨ds, hds, hbs⟩ := F.binds0 (ps := ["log", "places"]) 1 (fun z => nomatch z) rfl fun D doc pm an cdv ct us ks h1 h2 => match us, ks, h1, h2 with
    | [u], [a], _, _ => ⟨_, _, _, _, _, _, rfl, rfl, rfl⟩
  refine ⟨f, _, ds, fn_of (k := 16) lk hcd sc_least_strikes (fun vs H Q E ⟨l, G, _, _, _, _, h, _⟩ => h.length) fun A outer s H1 vs Q E hr h => ?_, hm, F.kp, hds, hbs⟩
  have sc := sc_least_strikes
  obtain ⟨g, goc, god, gdV, gkV, gdoc, gpm, gan, gcdv, gct, gosl, glk, ghcd, gkp, gm, gb⟩ := LD.ex
  obtain ⟨l, G, e, nT, hT, hp, h, q⟩ := h
  obtain ⟨vl, vn, rfl, rl, rn⟩ := all2 h
  have rn : vn = .non := rn
  subst rn
  obtain ⟨hl, hev⟩ := hp
  have hl : l.Ok := hl
  have hev : l.events.length ≤ 10 := hev
  have hra : ∀ p ∈ l.answers, l.isAns p = true := fun p hp => LogD.mem_answers.mp hp
  have hrl : l.answers.length ≤ 10 := Nat.le_trans l.answers_len hev
  refine ⟨_, PSs.nox (pss_cons (ps_expr (pe_fn f_check_answers hr (by decide) (by rfl) (pa_cons (pv 0) (pa_cons (peOrT K (pv 1) (pe_one (pe_lst pa_nil))) pa_nil))))
    (pss_cons (ps_set (i := 2) sc.nd rfl (Or.inl rfl) (pe_ifExp (pt_cmpR op_isN (pv 1) pe_non (nomark _)) (pe_me0 m_Log_answers Z.c_Log hr (by decide) (pv 0)) pe_nev))
    (pss_cons (ps_expr (pe_fn f_check_sizes hr (by decide) (by rfl) (pa_cons (pv 2) (pa_cons (pe_me0 m_Log_answers Z.c_Log hr (by decide) (pv 0)) pa_nil))))
    (pss_one (ps_ret (pe_lamA (T := T) (TT := TLeast) (k := 6) (Ng := n_least_lists) (by rfl) gm gkp glk ghcd gb sc_least_lists rfl (by first | exact Or.inl rfl | exact Or.inr (Or.inl rfl) | exact Or.inr (Or.inr rfl)) (g_least Z f_lists_of) TB rfl hmT huT hr (lamA_by (by rfl)) (show ("row" : Str) ∉ (["log", "places", "found"] : List Str) by decide) rfl (fun _ _ _ _ _ _ => rfl) (pv 2) rfl
      (fun A outer s H f c' hr => (pe_me0 m_Case_is_explained Z.c_Case hr (by decide) (pe_caseS CK hr (by decide) (by rfl) Z.Case (pa_cons (pv 0) pa_nil) (pk_cons (pv 3) pk_nil)))))))))), ?_⟩
  refine q_drop e (ev_call (l, []) (ea_cons (ev_var rl) (ea_one (ev_orN (o := none) (ev_var rfl)))) (fun p hp => by cases hp)) fun G0 A0 s0 => ?_
  refine q_asg s0.b (ev_if (b := true) (et_test (ev_isN (ev_var (R := pNo) rfl) fun H' v _ r => by
      have r : v = .non := r
      rw [r]
      rfl)) (fun _ => ev_meth (as := []) l (ev_var ((pLog CL l).mono s0.a rl)) (log_ins rfl) ea_nil rfl hl.few) (fun z => nomatch z)) fun vp G1 A1 s1 r1 => ?_
  refine q_drop s1.b (ev_call (l.answers, l.answers) (ea_cons (ev_var r1) (ea_one (ev_meth (as := []) l (ev_var ((pLog CL l).mono (s0.a.trans s1.a) rl)) (log_ins rfl) ea_nil rfl hl.few))) ⟨hrl, by show l.answers.length ≤ 40; omega⟩) fun G2 A2 s2 => ?_
  have s12 := (s0.trans s1).trans s2
  have nT2 : NoT G2 := fun b ps z => nT b ps (s12.e b ps z)
  refine ⟨vp, rfl, hT.ext s12.c, fun B eN T1 => ⟨l.answers, fun M => expl (mkCase l M [] none), G2, answers_asc l, hrl, nT2.ext s12.b eN, (pNs _).mono s2.a r1, fun row v G3 A3 _ hrs eG eA rv Q' q' => ?_, fun v G' H2 e1 e2 e3 ht r => q v G' H2 (s12.a.trans e1) e2 (fun b ps z => nT2 b ps (ht b ps z)) (T1.ext e3) r⟩⟩
  exact (ev_meth (as := []) (mkCase l row [] none) (ev_caseS (ev_var ((pLog CL l).mono (s12.a.trans eG) rl)) (ev_var rv) hl fun p hp => hra p (hrs p hp)) (case_ins rfl) ea_nil rfl (mk_ok hl _ _ _)) A3 eA Q' q'
abbrev s_least_moves : Stmt := topS 47
theorem sc_least_moves : FnScope ["log", "judge", "places", "struck", "own", "place"] ["log", "judge"] (defScope s_least_moves) := ⟨rfl, rfl, rfl, by decide +kernel, rfl, by decide +kernel, by decide +kernel⟩
abbrev n_least_moves : List Str := ["log", "judge", "places", "struck", "own", "place"]
theorem w_least_moves {T : List (Addr × Str)} {c Pt : Addr} (Z : Bz K mg CL CC) (D : DfC K mg "least_moves" s_least_moves [] [("judge", .non)] c) (LD : LLs K mg) (TB : TabB base mg c Pt) (hmT : (Pt, ("least_moves.<locals>.<lambda>" : Str)) ∈ T) (huT : ∀ p ∈ T, p.1 = Pt → p.2 = ("least_moves.<locals>.<lambda>" : Str))
    (f_lists_of : F_lists_of P w K mg base) (f_move_places : F_move_places P w K mg base CL) (f_check_sizes : F_check_sizes P w K mg base) (m_Log_answers : M_answers P w K mg base CL) (CK : CaseMk P w K mg base CL CC) (m_Case_is_explained : M_expl P w K mg base CC) :
    FnT P w K mg base 17 "least_moves" ["log", "judge"] [.non] (spT T (fun l : LogD => [pLog CL l, pNo]) (fun l => l.Ok ∧ l.events.length ≤ 10) fun l => pL ((leastLists l.movePlaces fun M => expl (cM l M)).map pNs)) := by
  obtain ⟨f, fd, oc, od, dV, kV, doc, pm, an, ct, osl, rfl, lk, hcd, F, hm⟩ := D.ex
  obtain ⟨ds, hds, hbs⟩ := F.binds0 (ps := ["log", "judge"]) 1 (fun z => nomatch z) rfl fun D doc pm an cdv ct us ks h1 h2 => match us, ks, h1, h2 with
    | [u], [a], _, _ => ⟨_, _, _, _, _, _, rfl, rfl, rfl⟩
  refine ⟨f, _, ds, fn_of (k := 16) lk hcd sc_least_moves (fun vs H Q E ⟨l, G, _, _, _, _, h, _⟩ => h.length) fun A outer s H1 vs Q E hr h => ?_, hm, F.kp, hds, hbs⟩
  have sc := sc_least_moves
  obtain ⟨g, goc, god, gdV, gkV, gdoc, gpm, gan, gcdv, gct, gosl, glk, ghcd, gkp, gm, gb⟩ := LD.ex
  obtain ⟨l, G, e, nT, hT, hp, h, q⟩ := h
  obtain ⟨vl, vn, rfl, rl, rn⟩ := all2 h
  have rn : vn = .non := rn
  subst rn
  obtain ⟨hl, hev⟩ := hp
  have hl : l.Ok := hl
  have hev : l.events.length ≤ 10 := hev
  have hst : ∀ j ∈ l.names, ((l.stretches j).flatMap id).length ≤ 150 := fun j _ => Nat.le_trans (st_flat_len l j) (by omega)
  have hrp := movePlaces_asc hl
  have hra : ∀ p ∈ l.movePlaces, l.isAns p = true := fun p hp => ((mem_move hl).mp hp).1
  have hrl : l.movePlaces.length ≤ 10 := Nat.le_trans (asc_len hrp hra) hev
  have hal : l.answers.length ≤ 10 := Nat.le_trans l.answers_len hev
  refine ⟨_, PSs.nox (pss_cons (ps_set (i := 2) sc.nd rfl (Or.inl rfl) (pe_fn f_move_places hr (by decide) (by rfl) (pa_cons (pv 0) pa_nil)))
    (pss_cons (ps_set (i := 3) sc.nd rfl (Or.inr rfl) (pe_lst pa_nil))
    (pss_cons (ps_if (pt_cmpR op_notN (pv 1) pe_non (nomark _)) pss_never pss_nil)
    (pss_cons (ps_expr (pe_fn f_check_sizes hr (by decide) (by rfl) (pa_cons (pv 2) (pa_cons (pe_lc (own := [("place", 5)]) (g := (gName 5)) rfl sc.nd (piList K (pe_me0 m_Log_answers Z.c_Log hr (by decide) (pv 0))) (blkOk_by (N := n_least_moves) (sc := defScope s_least_moves) (by decide +kernel)) (fun _ _ _ _ _ => (pg_name (i := 5) sc.nd rfl (by first | exact Or.inl rfl | exact Or.inr rfl))) (fun _ _ _ _ _ => pts_one (pt_cmpR (opNin K) (pv 5) (pv 3) (by rfl))) (fun _ _ _ _ _ => (pv 5))) pa_nil))))
    (pss_one (ps_ret (pe_lamA (T := T) (TT := TLeast) (k := 6) (Ng := n_least_lists) (by rfl) gm gkp glk ghcd gb sc_least_lists rfl (by first | exact Or.inl rfl | exact Or.inr (Or.inl rfl) | exact Or.inr (Or.inr rfl)) (g_least Z f_lists_of) TB rfl hmT huT hr (lamA_by (by rfl)) (show ("row" : Str) ∉ (["log", "judge", "places", "struck", "own", "place"] : List Str) by decide) rfl (fun _ _ _ _ _ _ => rfl) (pv 2) rfl
      (fun A outer s H f c' hr => (pe_me0 m_Case_is_explained Z.c_Case hr (by decide) (pe_caseSM CK hr (by decide) (by rfl) Z.Case (pa_cons (pv 0) pa_nil) (pk_cons (pv 3) (pk_cons (pv 6) pk_nil)))))))))))), ?_⟩
  refine q_asg e (ev_call l (ea_one (ev_var rl)) ⟨hl, hst⟩) fun vp G0 A0 s0 r0 => ?_
  refine q_asg s0.b (ev_lst ea_nil) fun vs G1 A1 s1 r1 => ?_
  have t1 := s0.trans s1
  refine q_ifN s1.b (et_test (ev_notN (ev_var (R := pNo) rfl) fun H' v _ r => by
      have r : v = .non := r
      rw [r]
      rfl)) fun A2 e2 => ?_
  have t2 := t1.ext e2
  refine q_drop t2.b (ev_call (l.movePlaces, l.answers.filter fun p => !decide (p ∈ ([] : List Nat))) (ea_cons (ev_var ((pNs _).mono s1.a r0)) (ea_one (Ev.imp (ev_lc (as := l.answers) (f := pN) (h := pN) (t := fun p => !decide (p ∈ ([] : List Nat))) (ei_list (ev_meth (as := []) l (ev_var ((pLog CL l).mono t1.a rl)) (log_ins rfl) ea_nil rfl hl.few)) (by omega) fun p v G3 hp eG rv => ⟨_, bnd_name, rfl, et_test (ev_ninN (ns := []) (ev_var rv) (ev_var ((pNs []).mono eG r1))), fun _ => ev_var rv⟩) fun H' v _ r => r))) ⟨hrl, by
    show (l.answers.filter fun p => !decide (p ∈ ([] : List Nat))).length ≤ 40
    have := List.length_filter_le (fun p => !decide (p ∈ ([] : List Nat))) l.answers
    omega⟩) fun G3 A3 s3 => ?_
  have s12 := t2.trans s3
  have nT2 : NoT G3 := fun b ps z => nT b ps (s12.e b ps z)
  refine ⟨vp, rfl, hT.ext s12.c, fun B eN T1 => ⟨l.movePlaces, fun M => expl (cM l M), G3, hrp, hrl, nT2.ext s12.b eN, (pNs _).mono (s1.a.trans s3.a) r0, fun row v G4 A4 _ hrs eG eA rv Q' q' => ?_, fun v G' H2 e1 e2 e3 ht r => q v G' H2 (s12.a.trans e1) e2 (fun b ps z => nT2 b ps (ht b ps z)) (T1.ext e3) r⟩⟩
  exact (ev_meth (as := []) (cM l row) (ev_caseSM (S := []) (ev_var ((pLog CL l).mono (s12.a.trans eG) rl)) (ev_var ((pNs []).mono (s3.a.trans eG) r1)) (ev_var rv) hl (fun p hp => by cases hp) fun p hp => hra p (hrs p hp)) (case_ins rfl) ea_nil rfl (mk_ok hl _ _ _)) A4 eA Q' q'
end
end Rb
set_option Elab.async false
set_option linter.all false
set_option maxRecDepth 100000
set_option maxHeartbeats 3200000
/-! Walks: the law's numbers. -/
namespace Rb
open PySem PySem.Spec PyProof.Rows L2
section
variable {K : PySem.W.Frag} {σ : L2.St} {H H1 : Hp} {ta te : TE} {t : TT} {tu tw tz : TS} {D : Ends}
theorem q_ifP {b : Bool} (P : L2.St → Hp → Prop) (e : Ex H H1) (h : EvT t σ H b) (h1 : b = true → ∀ H2, Ex H1 H2 → ∀ D' : Ends, (∀ σ' H', P σ' H' → D'.nx σ' H') → tu D' σ H2) (h2 : b = false → ∀ H2, Ex H1 H2 → ∀ D' : Ends, (∀ σ' H', P σ' H' → D'.nx σ' H') → tw D' σ H2)
    (k : ∀ σ' H', P σ' H' → tz D σ' H') : tSeq (tIfS t tu tw) tz D σ H1 := q_if e h (fun z H2 e2 => h1 z H2 e2 _ k) fun z H2 e2 => h2 z H2 e2 _ k
abbrev rAbs : List V → Hp → VK → Prop := fun xs H Q => ∃ i, xs = [.int i] ∧ Q (.int (if i < 0 then -i else i)) H
theorem ev_abs {i : Int} (h : Ev ta σ H (pI i)) : Ev (tCB rAbs (tCons ta tNil)) σ H (pI (if i < 0 then -i else i)) := ev_cb (ea_one h) fun H' vs _ hv H1 e1 Q q => by
  obtain ⟨v, rfl, ev⟩ := all1 hv
  have ev : v = .int i := ev
  subst ev
  exact ⟨i, rfl, q.val (Sep.refl e1)⟩
/-- a script: a list as the heap or the frame has it -/
def pSc (K : PySem.W.Frag) (ns : List Int) : Pr := ⟨fun H v => ∃ a, v = .ref a ∧ SqL K H a (ns.map V.int), fun e ⟨a, h1, h2⟩ => ⟨a, h1, h2.elim (fun r => .inl (rd_ex r e)) .inr⟩⟩
theorem ev_uptoS {ns : List Int} {n : Nat} {tb : TE} (h : Ev ta σ H (pSc K ns)) (hn : Ev tb σ H (pN n)) : Ev (tSl (rSlL K) ta tNoPart (tPart tb)) σ H (pL ((ns.take n).map pI)) := fun H1 e Q q =>
  h H1 e _ fun v K1 H2 s r1 => (hn.mono s.a) H2 s.b _ fun w K2 H3 s2 r2 => by
    have r2 : w = .int (n : Int) := r2
    subst r2
    obtain ⟨l, ev, hs⟩ := (pSc K ns).mono (s2.a.trans s2.b) r1
    subst ev
    refine ⟨n, rfl, l, _, rfl, hs, fun p hp => q _ _ _ ((s.trans s2).trans (Sep.new s2.b hp)) ⟨p, _, rfl, upd_same, ?_⟩⟩
    have e1 : cutV (ns.map V.int) none (some (n : Int)) = (ns.take n).map V.int := by
      rw [List.map_take]
      unfold cutV
      rw [HT.sIx_nat, HT.sIx_none, List.drop_zero, Nat.sub_zero]
      by_cases hn : n ≤ (ns.map V.int).length
      · rw [Nat.min_eq_left hn]
      · rw [Nat.min_eq_right (by omega), List.take_length, List.take_of_length_le (by omega)]
    rw [e1]
    exact all2_of_pV (f := fun i : Int => V.int i)
end
section
variable {P : Program} {w : World} {K : PySem.W.Frag} {mg : Str → Option Value} {base : Heap} {CL CC : Addr}
abbrev s__law_row : Stmt := topS 60
theorem sc__law_row : FnScope ["_law_cell", "_law_many", "_law_row_here", "_law_rest", "_law_state", "_law_k"] ["_law_cell", "_law_many"] (defScope s__law_row) := ⟨rfl, rfl, rfl, by decide +kernel, rfl, by decide +kernel, by decide +kernel⟩
abbrev n__law_row : List Str := ["_law_cell", "_law_many", "_law_row_here", "_law_rest", "_law_state", "_law_k"]
abbrev F_law_row (P : Program) (w : World) (K : PySem.W.Frag) (mg : Str → Option Value) (base : Heap) : Prop := Fn P w K mg base 1 "_law_row" ["_law_cell", "_law_many"] (spN (fun a : Int × Nat => [pI a.1, pN a.2]) (fun a => a.2 ≤ 61) fun a => pE (fun ns : List Nat => ns.length = a.2) pNs)
theorem mod_nat {i j : Int} (h : 0 < j) : i % j = (((i % j).toNat : Nat) : Int) := (Int.toNat_of_nonneg (Int.emod_nonneg i (by omega))).symm
theorem w_law_row (Z : Bz K mg CL CC) (D : Df K mg "_law_row" s__law_row [] []) : F_law_row P w K mg base :=
  fn_mk (k := 0) D sc__law_row (fun _ => rfl) (bnd2 fun _ _ _ _ _ _ _ _ => rfl) fun f cdv A outer s H1 vs Q X a H hr e hp h q => by
    have sc := sc__law_row
    obtain ⟨cell, many⟩ := a
    obtain ⟨vc, vm, rfl, rc, rm⟩ := all2 h
    have hp : many ≤ 61 := hp
    have rc : vc = .int cell := rc
    have rm : vm = .int (many : Int) := rm
    subst rc rm
    refine ⟨_, (pss_cons (ps_set (i := 2) sc.nd rfl (Or.inl rfl) (pe_lst pa_nil))
    (pss_cons (ps_set (i := 3) sc.nd rfl (Or.inl rfl) pe_int)
    (pss_cons (ps_if (pt_cmpR op_ge (pe_callB call_abs (by rfl) Z.abs (by decide +kernel) (pa_cons (pv 0) pa_nil)) (pe_op op_pow pe_int pe_int) (nomark _)) (pss_one (ps_set (i := 3) sc.nd rfl (Or.inl rfl) (pe_callB call_abs (by rfl) Z.abs (by decide +kernel) (pa_cons (pv 0) pa_nil)))) pss_nil)
    (pss_cons (ps_set (i := 4) sc.nd rfl (Or.inl rfl) (pe_op op_mod (pe_callTy call_int1 (by rfl) Z.int (by decide +kernel) (pa_cons (pe_callB call_abs (by rfl) Z.abs (by decide +kernel) (pa_cons (pv 0) pa_nil)) pa_nil)) pe_int))
    (pss_cons (ps_for PassesOwn.never rfl (pi_range1 (by rfl) Z.range (pa_cons (pv 1) pa_nil)) (pg_name (i := 5) sc.nd rfl (by first | exact Or.inl rfl | exact Or.inr rfl)) (pss_cons (ps_set (i := 4) sc.nd rfl (Or.inl rfl) (pe_op op_mod (pe_callTy call_int1 (by rfl) Z.int (by decide +kernel) (pa_cons (pe_op op_add (pe_op op_mul (pe_op op_add (pv 4) pe_int) pe_int) (pe_op op_mul pe_int (pv 5))) pa_nil)) pe_int))
    (pss_one (ps_if (pt_cmpR op_gt (pv 3) pe_int (nomark _)) (pss_cons (ps_expr (pe_bm PySem.F.plainAttrs_list PySem.F.slot_list_append PySem.F.type_list_append mt_append (pv 2) (pa_cons (pe_op op_mod (pe_callTy call_int1 (by rfl) Z.int (by decide +kernel) (pa_cons (pv 3) pa_nil)) pe_int) pa_nil)))
    (pss_one (ps_set (i := 3) sc.nd rfl (Or.inl rfl) (pe_op op_fdiv (pv 3) pe_int)))) (pss_one (ps_expr (pe_bm PySem.F.plainAttrs_list PySem.F.slot_list_append PySem.F.type_list_append mt_append (pv 2) (pa_cons (pe_op op_mod (pe_callTy call_int1 (by rfl) Z.int (by decide +kernel) (pa_cons (pe_op op_fdiv (pv 4) pe_int) pa_nil)) pe_int) pa_nil))))))))
    (pss_one (ps_ret (pv 2)))))))), ?_⟩
    refine q_nil fun fl hfl => ?_
    have s0 := Sep.hid (o := .lst []) e hfl
    have g0 : (upd H1 fl (.lst [])) fl = some (.lst []) := upd_same
    generalize upd H1 fl (.lst []) = B0 at s0 g0
    refine q_asgV (v := .int 0) s0.b ev_c fun B1 e1 e2 => ?_
    have s1 := s0.ext e2
    have g1 := e2 _ _ g0
    have habs : 0 ≤ (if cell < 0 then -cell else cell) := by split <;> omega
    refine q_ifP (b := decide ((10 : Int) ^ (18 : Int).toNat ≤ (if cell < 0 then -cell else cell))) (fun σ F1 => ∃ rest : Int, 0 ≤ rest ∧ σ = [some (.int cell), some (.int (many : Int)), some (.ref fl), some (.int rest), none, none] ∧ Sep H H1 H F1 ∧ F1 fl = some (.lst []))
      s1.b (et_test (ev_I0 (ev_abs (ev_var (R := pI cell) rfl)) (ev_I (i := 10) (j := 18) ev_c ev_c ⟨by decide, by decide, by decide⟩))) (fun z F1 e3 D' k => ?_) (fun z F1 e3 D' k => ?_) ?_
    · refine s_asgV (v := .int (if cell < 0 then -cell else cell)) (s1.b.trans e3) (ev_abs (ev_var (R := pI cell) rfl)) fun F2 e4 e5 => k _ _ ⟨_, habs, rfl, (s1.ext e3).ext e5, e5 _ _ (e3 _ _ g1)⟩
    · exact k _ _ ⟨0, Int.le_refl _, rfl, s1.ext e3, e3 _ _ g1⟩
    rintro σ2 F1 ⟨rest, hrest, rfl, s2, g2⟩
    refine q_asgV (v := .int ((if cell < 0 then -cell else cell) % 2147483647)) s2.b (ev_I (ev_intI (ev_abs (ev_var (R := pI cell) rfl))) ev_c (by decide)) fun F2 e4 e5 => ?_
    have s3 := s2.ext e5
    have g3 := e5 _ _ g2
    have hst1 : 0 ≤ (if cell < 0 then -cell else cell) % 2147483647 := Int.emod_nonneg _ (by decide)
    have hst2 : (if cell < 0 then -cell else cell) % 2147483647 < 2147483647 := Int.emod_lt_of_pos _ (by decide)
    generalize (if cell < 0 then -cell else cell) % 2147483647 = st0 at hst1 hst2
    refine q_for s3.b (ei_range (n := many) (ea_one (ev_var rfl)) (by omega))
      (fun i σ F F1 => Sep H H1 F F1 ∧ F fl = none ∧ ∃ (rest st : Int) (x : Option V) (ns : List Nat), σ = [some (.int cell), some (.int (many : Int)), some (.ref fl), some (.int rest), some (.int st), x] ∧ 0 ≤ rest ∧ 0 ≤ st ∧ st < 2147483647 ∧ F1 fl = some (.lst (List.map (fun n : Nat => V.int (n : Int)) ns)) ∧ ns.length = i)
      (fun H' H2 s => ⟨s3.trans s, (s.keep (e.back hfl) g3).1, rest, st0, _, [], rfl, hrest, hst1, hst2, (s.keep (e.back hfl) g3).2, rfl⟩) ?_ ?_
    · rintro i p u σ' F F1 F' F2 hpi ⟨sF, nF, rest, st, x, ns, rfl, hr0, hs1, hs2, gF, hns⟩ eF s4 rp
      obtain ⟨m, hm, rfl⟩ := map_get hpi
      have hil : i < many := by
        have := (List.getElem?_eq_some_iff.mp hm).1
        simpa using this
      have hmi : m = i := by
        have := (List.getElem?_eq_some_iff.mp hm).2
        simpa using this.symm
      subst hmi
      have k4 := s4.keep nF gF
      have rp : u = .int (m : Int) := rp
      subst rp
      refine bnd_name F2 s4.b _ ?_
      refine q_asgV (v := .int (((st + 1) * 48271 + 69621 * (m : Int)) % 2147483647)) s4.b (ev_I (ev_intI (ev_I0 (ev_I (ev_I0 (i := st) (j := 1) (ev_var rfl) ev_c) ev_c (.inr (by decide))) (ev_I (i := 69621) (j := (m : Int)) ev_c (ev_var rfl) (.inl (by decide))))) ev_c (by decide)) fun F3 e6 e7 => ?_
      have k5 := e7 _ _ k4.2
      have s5 := (sF.trans s4).ext e7
      have hst1 : 0 ≤ ((st + 1) * 48271 + 69621 * (m : Int)) % 2147483647 := Int.emod_nonneg _ (by decide)
      have hst2 : ((st + 1) * 48271 + 69621 * (m : Int)) % 2147483647 < 2147483647 := Int.emod_lt_of_pos _ (by decide)
      generalize ((st + 1) * 48271 + 69621 * (m : Int)) % 2147483647 = st2 at hst1 hst2
      refine s_if (b := decide ((0 : Int) < rest)) s5.b (et_test (ev_I0 (i := rest) (j := 0) (ev_var rfl) ev_c)) (fun z F4 e8 => ?_) fun z F4 e8 => ?_
      · refine q_app (K := K) (H := F') (i := 2) (l := fl) (R := pI (rest % 1009)) (s5.b.trans e8) k4.1 (e8 _ _ k5) rfl (ev_I (ev_intI (ev_var (R := pI rest) rfl)) ev_c (by decide)) (by rw [List.length_map]; omega) fun w2 G4 G5 s6 r6 => ?_
        have r6 : w2 = .int (rest % 1009) := r6
        subst r6
        have k6 := s6.keep k4.1 (e8 _ _ k5)
        have s7 := ((s5.ext e8).trans s6).mut (o := .lst (List.map (fun n : Nat => V.int (n : Int)) ns ++ [.int (rest % 1009)])) hfl k6.1
        refine s_asgV (v := .int (rest / 1009)) s7.b (ev_I (i := rest) (j := 1009) (ev_var rfl) ev_c ⟨by decide, by decide⟩) fun F5 e9 e10 => ?_
        refine ⟨G4, s4.a.trans s6.a, s7.b.trans e10, s7.ext e10, k6.1, rest / 1009, st2, _, ns ++ [(rest % 1009).toNat], rfl, Int.ediv_nonneg hr0 (by decide), hst1, hst2, ?_, by rw [List.length_append, hns]; rfl⟩
        rw [e10 _ _ upd_same, List.map_append]
        show some (HO.lst (_ ++ [V.int (rest % 1009)])) = some (HO.lst (_ ++ [V.int ((rest % 1009).toNat : Int)]))
        rw [← mod_nat (by decide)]
      · refine s_app (K := K) (H := F') (i := 2) (l := fl) (R := pI (st2 / 2048 % 1009)) (s5.b.trans e8) k4.1 (e8 _ _ k5) rfl (ev_I (ev_intI (ev_I (i := st2) (j := 2048) (ev_var rfl) ev_c ⟨by decide, by decide⟩)) ev_c (by decide)) (by rw [List.length_map]; omega) fun w2 G4 G5 s6 r6 => ?_
        have r6 : w2 = .int (st2 / 2048 % 1009) := r6
        subst r6
        have k6 := s6.keep k4.1 (e8 _ _ k5)
        refine ⟨G4, s4.a.trans s6.a, s6.b.mut k6.1, ((s5.ext e8).trans s6).mut hfl k6.1, k6.1, rest, st2, _, ns ++ [(st2 / 2048 % 1009).toNat], rfl, hr0, hst1, hst2, ?_, by rw [List.length_append, hns]; rfl⟩
        rw [upd_same, List.map_append]
        show some (HO.lst (_ ++ [V.int (st2 / 2048 % 1009)])) = some (HO.lst (_ ++ [V.int ((st2 / 2048 % 1009).toNat : Int)]))
        rw [← mod_nat (by decide)]
    · rintro σ' F F1 eF eF1 ⟨sF, nF, rest, st, x, ns, rfl, _, _, _, gF, hns⟩
      rw [List.length_map, List.length_range] at hns
      have sN := sF.own hfl nF gF
      exact s_ret sN.b (ev_var (R := pE (fun ns : List Nat => ns.length = many) pNs) ⟨ns, hns, fl, _, rfl, upd_same, all2_of_pV (f := fun n : Nat => V.int (n : Int))⟩) (q.go sN)
end
end Rb
set_option Elab.async false
set_option linter.all false
set_option maxRecDepth 100000
set_option maxHeartbeats 3200000
/-! Walks: _law_numbers. -/
namespace Rb
open PySem PySem.Spec PyProof.Rows L2
abbrev vNs (ns : List Nat) : List V := List.map (fun n : Nat => V.int (n : Int)) ns
theorem vNs_snoc (ns : List Nat) (n : Nat) : vNs (ns ++ [n]) = vNs ns ++ [V.int (n : Int)] := List.map_append
section
variable {K : PySem.W.Frag} {σ : L2.St} {H H1 : Hp} {te : TE} {R : Pr} {g : TG} {tu : TS} {D : Ends}
theorem s_forE (e : Ex H H1) (h : Ev te σ H R) (k : ∀ v H' H2, Sep H H1 H' H2 → R.p H' v → tFor (iList K (tC v)) g tu D σ H2) : tFor (iList K te) g tu D σ H1 := h H1 e _ k
end
section
variable {P : Program} {w : World} {K : PySem.W.Frag} {mg : Str → Option Value} {base : Heap} {CL CC : Addr}
abbrev s__law_numbers : Stmt := topS 61
theorem sc__law_numbers : FnScope ["_law_script", "_law_many", "_law_cells", "_law_each", "_law_numbers_here", "_law_cell", "_law_number"] ["_law_script", "_law_many"] (defScope s__law_numbers) := ⟨rfl, rfl, rfl, by decide +kernel, rfl, by decide +kernel, by decide +kernel⟩
abbrev n__law_numbers : List Str := ["_law_script", "_law_many", "_law_cells", "_law_each", "_law_numbers_here", "_law_cell", "_law_number"]
abbrev F_law_numbers (P : Program) (w : World) (K : PySem.W.Frag) (mg : Str → Option Value) (base : Heap) : Prop := Fn P w K mg base 2 "_law_numbers" ["_law_script", "_law_many"] (spN (fun ns : List Int => [pSc K ns, pN 60]) (fun _ => True) fun _ => pE (fun ns : List Nat => ns.length = 60) pNs)
theorem w_law_numbers (Z : Bz K mg CL CC) (D : Df K mg "_law_numbers" s__law_numbers [] []) (f__law_row : F_law_row P w K mg base) : F_law_numbers P w K mg base :=
  fn_mk (k := 1) D sc__law_numbers (fun _ => rfl) (bnd2 fun _ _ _ _ _ _ _ _ => rfl) fun f cdv A outer s H1 vs Q X scr H hr e hp h q => by
    have sc := sc__law_numbers
    have hu := hu_of hr
    obtain ⟨vs0, vm, rfl, rs, rm⟩ := all2 h
    have rm : vm = .int ((60 : Nat) : Int) := rm
    subst rm
    refine ⟨_, (pss_cons (ps_set (i := 2) sc.nd rfl (Or.inl rfl) (pe_slice (slList K) (pv 0) po_none (po_some pe_int)))
    (pss_cons (ps_set (i := 3) sc.nd rfl (Or.inl rfl) (pe_op op_add pe_int (pe_op op_fdiv (pv 1) (pe_callB (call_max2 rfl) (by rfl) Z.max (by decide +kernel) (pa_cons pe_int (pa_cons (pe_callB (cLen K) (by rfl) Z.len PySem.boot_len (pa_cons (pv 2) pa_nil)) pa_nil))))))
    (pss_cons (ps_set (i := 4) sc.nd rfl (Or.inl rfl) (pe_lst pa_nil))
    (pss_cons (ps_for PassesOwn.never rfl (piList K (pv 2)) (pg_name (i := 5) sc.nd rfl (by first | exact Or.inl rfl | exact Or.inr rfl)) (pss_one (ps_for PassesOwn.never rfl (piList K (pe_fn f__law_row hr (by decide) (by rfl) (pa_cons (pv 5) (pa_cons (pv 3) pa_nil)))) (pg_name (i := 6) sc.nd rfl (by first | exact Or.inl rfl | exact Or.inr rfl)) (pss_one (ps_expr (pe_bm PySem.F.plainAttrs_list PySem.F.slot_list_append PySem.F.type_list_append mt_append (pv 4) (pa_cons (pv 6) pa_nil)))))))
    (pss_cons (ps_while PassesOwn.never (pt_cmpR op_lt (pe_callB (cLen K) (by rfl) Z.len PySem.boot_len (pa_cons (pv 4) pa_nil)) (pv 1) (nomark _)) (pss_one (ps_expr (pe_bm PySem.F.plainAttrs_list PySem.F.slot_list_append PySem.F.type_list_append mt_append (pv 4) (pa_cons pe_int pa_nil)))))
    (pss_one (ps_ret (pe_slice (slList K) (pv 4) po_none (po_some (pv 1)))))))))), ?_⟩
    refine q_asg e (ev_uptoS (n := 63) (ev_var rs) ev_c) fun vc G1 A1 s1 rc => ?_
    have hcl : (scr.take 63).length ≤ 63 := by
      rw [List.length_take]
      omega
    generalize scr.take 63 = cs at rc hcl
    obtain ⟨ea, hea, hev⟩ : ∃ ea : Nat, ea ≤ 61 ∧ (1 : Int) + ((60 : Nat) : Int) / ((max 1 cs.length : Nat) : Int) = (ea : Int) := by
      refine ⟨1 + 60 / max 1 cs.length, ?_, by simp⟩
      have := Nat.div_le_self 60 (max 1 cs.length)
      omega
    refine q_asgV (v := .int (ea : Int)) s1.b ((ev_I0 (i := 1) ev_c (ev_I (i := ((60 : Nat) : Int)) (j := ((max 1 cs.length : Nat) : Int)) (ev_var rfl) (ev_max2 (a := 1) ev_c ((ev_len (ev_var rc)).eq (by simp))) ⟨by omega, by omega⟩)).eq (by rw [hev])) fun A2 e2 e3 => ?_
    refine q_nil fun fl hfl => ?_
    have hflH : H1 fl = none := (s1.c.trans e3).back hfl
    have s0 : Sep H H1 G1 (upd A2 fl (.lst [])) := (s1.ext e3).ext (Ex.new hfl)
    refine q_for (H := G1) s0.b (ei_list (ps := cs.map pI) (ev_var rc))
      (fun i σ F F1 => Sep H H1 F F1 ∧ F fl = none ∧ ∃ (x y : Option V) (ns : List Nat), σ = [some vs0, some (.int ((60 : Nat) : Int)), some vc, some (.int (ea : Int)), some (.ref fl), x, y] ∧ F1 fl = some (.lst (vNs ns)) ∧ ns.length ≤ i * 61)
      (fun H' H2 s => ?_) ?_ ?_
    · have k := s.keep (e2.back hfl) (upd_same (H := A2) (o := .lst []))
      exact ⟨s0.trans s, k.1, _, _, [], rfl, k.2, Nat.zero_le _⟩
    · rintro i p u σ' F F1 F' F2 hpi ⟨sF, nF, x, y, ns, rfl, gF, hns⟩ eF s2 rp
      obtain ⟨c, hc, rfl⟩ := map_get hpi
      have hil : i < cs.length := (List.getElem?_eq_some_iff.mp hc).1
      have k2 := s2.keep nF gF
      refine bnd_name F2 s2.b _ ?_
      refine s_forE (K := K) s2.b (ev_call (c, ea) (ea_cons (ev_var rp) (ea_one (ev_var rfl))) hea) fun vr G3 A3 s3 rr => ?_
      obtain ⟨ms, hms, rr⟩ := rr
      have hms : ms.length = ea := hms
      have k3 := s3.keep k2.1 k2.2
      have t3 := (sF.trans s2).trans s3
      refine s_for (H := G3) s3.b (ei_list (ps := ms.map pN) (ev_cR rr))
        (fun j σ L L1 => Sep H H1 L L1 ∧ Ex F' L ∧ L fl = none ∧ ∃ (y : Option V) (ns : List Nat), σ = [some vs0, some (.int ((60 : Nat) : Int)), some vc, some (.int (ea : Int)), some (.ref fl), some u, y] ∧ L1 fl = some (.lst (vNs ns)) ∧ ns.length ≤ i * 61 + j)
        (fun H' H2 s => ?_) ?_ ?_
      · have k := s.keep k3.1 k3.2
        exact ⟨t3.trans s, s3.a.trans s.a, k.1, _, ns, rfl, k.2, hns⟩
      · rintro j p um σ' L L1 L' L2 hpj ⟨sL, eFL, nL, y, ns, rfl, gL, hns⟩ eL s4 rp4
        obtain ⟨m, hm, rfl⟩ := map_get hpj
        have hjl : j < ms.length := (List.getElem?_eq_some_iff.mp hm).1
        have k4 := s4.keep nL gL
        refine bnd_name L2 s4.b _ ?_
        refine s_app (K := K) (H := L') (i := 4) (l := fl) s4.b k4.1 k4.2 rfl (ev_var rp4) (by rw [List.length_map]; omega) fun w2 G5 A5 s5 r5 => ?_
        have r5 : w2 = .int (m : Int) := r5
        subst r5
        have k5 := s5.keep k4.1 k4.2
        refine ⟨G5, s4.a.trans s5.a, s5.b.mut k5.1, ((sL.trans s4).trans s5).mut hflH k5.1, eFL.trans (s4.a.trans s5.a), k5.1, _, ns ++ [m], rfl, ?_, by rw [List.length_append]; show _ + 1 ≤ _; omega⟩
        rw [upd_same, vNs_snoc]
      · rintro σ' L L1 eL eL1 ⟨sL, eFL, nL, y, ns, rfl, gL, hns⟩
        rw [List.length_map] at hns
        exact ⟨L, s2.a.trans eFL, eL1, sL, nL, _, _, ns, rfl, gL, by omega⟩
    · rintro σ' F F1 eF eF1 ⟨sF, nF, x, y, ns, rfl, gF, hns⟩
      rw [List.length_map] at hns
      refine q_while (fun m σ F2 => ∃ (ns : List Nat), σ = [some vs0, some (.int ((60 : Nat) : Int)), some vc, some (.int (ea : Int)), some (.ref fl), x, y] ∧ Ex F F2 ∧ Sep H H1 F F2 ∧ F2 fl = some (.lst (vNs ns)) ∧ ns.length ≤ 4000 ∧ m = 60 - ns.length)
        (60 - ns.length) ⟨ns, rfl, eF1, sF, gF, by omega, rfl⟩ ?_
      rintro m σ' F2 ⟨ns, rfl, eF2, sF2, gF2, hn4, hm⟩
      have eS : Ex (upd F fl (.lst (vNs ns))) F2 := eF2.put gF2
      have rS : (pNs ns).p (upd F fl (.lst (vNs ns))) (.ref fl) := ⟨fl, _, rfl, upd_same, all2_of_pV (f := fun n : Nat => V.int (n : Int))⟩
      refine ⟨upd F fl (.lst (vNs ns)), decide (ns.length < 60), eS, (et_test (ev_I0 (i := (ns.length : Int)) (j := ((60 : Nat) : Int)) ((ev_len (ev_var rS)).eq (by simp)) (ev_var rfl))).eq (by simp; omega), fun z G3 e3 => ?_, fun z G3 e3 => ?_⟩
      · have z := of_decide_eq_true z
        refine s_app (K := K) (H := F) (i := 4) (l := fl) (R := pI 0) (eF2.trans e3) nF (e3 _ _ gF2) rfl ev_c (by rw [List.length_map]; omega) fun w2 G5 A5 s5 r5 => ?_
        have r5 : w2 = .int 0 := r5
        subst r5
        have k5 := s5.keep nF (e3 _ _ gF2)
        refine ⟨60 - (ns ++ [0]).length, by rw [List.length_append]; show 60 - (_ + 1) < _; omega, ns ++ [0], rfl, ?_, (sF2.ext (e3.trans s5.c)).mut hflH nF, ?_, by rw [List.length_append]; show _ + 1 ≤ _; omega, rfl⟩
        · exact (eF2.trans (e3.trans s5.c)).mut nF
        · rw [upd_same]
          exact congrArg (fun x => some (HO.lst x)) (vNs_snoc ns 0).symm
      · have z := of_decide_eq_false z
        have sN := (sF2.ext e3).own hflH nF (e3 _ _ gF2)
        refine s_ret (R := pE (fun ns : List Nat => ns.length = 60) pNs) sN.b (Ev.imp (ev_upto (n := 60) (ev_var (R := pNs ns) ⟨fl, _, rfl, upd_same, all2_of_pV (f := fun n : Nat => V.int (n : Int))⟩) (ev_var (R := pN 60) rfl)) fun H' v _ r => ⟨ns.take 60, by show (ns.take 60).length = 60; rw [List.length_take]; omega, ?_⟩) (q.go sN)
        show (pL ((ns.take 60).map pN)).p H' v
        rw [List.map_take]
        exact r
end
end Rb
set_option Elab.async false
set_option linter.all false
set_option maxRecDepth 100000
set_option maxHeartbeats 3200000
/-! Walks: _law_log, _law_made. -/
namespace Rb
open PySem PySem.Spec PyProof.Rows L2
abbrev it5 : List Str := ["x", "b", "m2", "a", "z9"]
abbrev nm4 : List Str := ["ann", "bo", "c7", "x"]
abbrev dr5 : List Str := ["rises", "falls", "stays", "rises", "falls"]
theorem name_of (x : Str) (h : 1 ≤ x.length) (h2 : x.length ≤ 12) (h3 : (x.cps.toList.all fun c => decide (c ∈ ("abcdefghijklmnopqrstuvwxyz0123456789" : Str).cps.toList)) = true) : NameOk x :=
  ⟨h, h2, fun c hc => of_decide_eq_true (List.all_eq_true.mp h3 c hc)⟩
theorem it5_ok : ∀ x ∈ it5, NameOk x := fun x hx => by
  have hx : x = "x" ∨ x = "b" ∨ x = "m2" ∨ x = "a" ∨ x = "z9" := by simpa [it5] using hx
  rcases hx with rfl | rfl | rfl | rfl | rfl <;> exact name_of _ (by decide) (by decide) (by decide +kernel)
theorem nm4_ok : ∀ x ∈ nm4, NameOk x := fun x hx => by
  have hx : x = "ann" ∨ x = "bo" ∨ x = "c7" ∨ x = "x" := by simpa [nm4] using hx
  rcases hx with rfl | rfl | rfl | rfl <;> exact name_of _ (by decide) (by decide) (by decide +kernel)
theorem names_take {xs : List Str} {n most : Nat} (h : ∀ x ∈ xs, NameOk x) (hn : xs.Nodup) (h1 : 1 ≤ n) (h2 : n ≤ xs.length) (h3 : n ≤ most) : NamesOk (xs.take n) most :=
  ⟨by rw [List.length_take]; omega, by rw [List.length_take]; omega, fun x hx => h x (List.mem_of_mem_take hx), hn.sublist (List.take_sublist _ _)⟩
def pLL (l : LogD) : Pr := pT [pL (l.items.map pS), pN l.grades, pL (l.judges.map pJ), pL (l.events.map pEv)]
section
variable {K : PySem.W.Frag} {A B C E : Pr} {σ : L2.St} {G : Hp} {v : V} {i j k m : Nat}
theorem bnd_triL (r : (pL [A, B, C]).p G v) : ∃ x y z, A.p G x ∧ B.p G y ∧ C.p G z ∧ Bnd (gUnl K 3 (gCons (gName i) (gCons (gName j) (gCons (gName k) gNil)))) v σ G (((σ.set i (some x)).set j (some y)).set k (some z)) := by
  obtain ⟨a, xs, rfl, ha, hx⟩ := r
  obtain ⟨x, y, z, rfl, hA, hB, hC⟩ := all3 hx
  exact ⟨x, y, z, hA, hB, hC, fun G1 e Q q => ⟨a, [x, y, z], rfl, SqL.of (e _ _ ha), rfl, x, [y, z], rfl, y, [z], rfl, z, [], rfl, rfl, q⟩⟩
theorem bnd_quad (r : (pT [A, B, C, E]).p G v) : ∃ x y z w, A.p G x ∧ B.p G y ∧ C.p G z ∧ E.p G w ∧ Bnd (gTup K 4 (gCons (gName i) (gCons (gName j) (gCons (gName k) (gCons (gName m) gNil))))) v σ G ((((σ.set i (some x)).set j (some y)).set k (some z)).set m (some w)) := by
  obtain ⟨a, xs, rfl, ha, hx⟩ := r
  obtain ⟨x, y, z, w, rfl, hA, hB, hC, hE⟩ := all4 hx
  exact ⟨x, y, z, w, hA, hB, hC, hE, fun G1 e Q q => ⟨a, [x, y, z, w], rfl, SqT.of (e _ _ ha), rfl, x, [y, z, w], rfl, y, [z, w], rfl, z, [w], rfl, w, [], rfl, rfl, q⟩⟩
/-- a number of the list, by any way to its place -/
theorem ev_num {σ : L2.St} {H : Hp} {ta tb : TE} {ns : List Nat} {z : Int} {n : Nat} (ha : Ev ta σ H (pNs ns)) (hb : Ev tb σ H (pI z)) (hz : z = (n : Int)) (hn : n < ns.length) : Ev (tCB rInt1 (tCons (tOp (rIxL K) ta tb) tNil)) σ H (pN ns[n]) := by
  subst hz
  exact ev_intI (ev_ixL (i := n) ha hb (by rw [List.getElem?_map, List.getElem?_eq_getElem hn]; rfl))
/-- of written texts one -/
theorem ev_pick {σ : L2.St} {H : Hp} {ta tb : TE} {xs : List Str} {z : Int} {n : Nat} (ha : Ev ta σ H (pL (xs.map pS))) (hb : Ev tb σ H (pI z)) (hz : z = (n : Int)) (hn : n < xs.length) : Ev (tOp (rIxL K) ta tb) σ H (pS xs[n]) := by
  subst hz
  exact ev_ixL (i := n) ha hb (by rw [List.getElem?_map, List.getElem?_eq_getElem hn]; rfl)
end
section
variable {P : Program} {w : World} {K : PySem.W.Frag} {mg : Str → Option Value} {base : Heap} {CL CC : Addr}
abbrev s__law_log : Stmt := topS 62
theorem sc__law_log : FnScope ["_law_numbers_here", "_law_at", "_law_sizes", "_law_items", "_law_judges", "_law_k", "_law_grades", "_law_events", "_law_first", "_law_second", "_law_third", "_law_j", "_law_judge"] ["_law_numbers_here", "_law_at", "_law_sizes"] (defScope s__law_log) := ⟨rfl, rfl, rfl, by decide +kernel, rfl, by decide +kernel, by decide +kernel⟩
abbrev n__law_log : List Str := ["_law_numbers_here", "_law_at", "_law_sizes", "_law_items", "_law_judges", "_law_k", "_law_grades", "_law_events", "_law_first", "_law_second", "_law_third", "_law_j", "_law_judge"]
abbrev F_law_log (P : Program) (w : World) (K : PySem.W.Frag) (mg : Str → Option Value) (base : Heap) : Prop := Fn P w K mg base 1 "_law_log" ["_law_numbers_here", "_law_at", "_law_sizes"] (spN (fun ns : List Nat => [pNs ns, pN 0, pT [pN 4, pN 2, pN 3, pN 10]]) (fun ns => ns.length = 60) fun _ => pE (fun l : LogD => l.Ok ∧ l.events.length ≤ 10) pLL)
theorem w_law_log (Z : Bz K mg CL CC) (D : Df K mg "_law_log" s__law_log [] []) : F_law_log P w K mg base :=
  fn_mk (k := 0) D sc__law_log (fun _ => rfl) (bnd3 fun _ _ _ _ _ _ _ _ _ => rfl) fun f cdv A outer s H1 vs Q X ns H hr e hp h q => by
    have sc := sc__law_log
    have hu := hu_of hr
    obtain ⟨vn, va, vz, rfl, rn, ra, rz⟩ := all3 h
    have ra : va = .int ((0 : Nat) : Int) := ra
    subst ra
    have hp : ns.length = 60 := hp
    refine ⟨_, (pss_cons (ps_set (i := 3) sc.nd rfl (Or.inl rfl) (pe_slice (slList K) (pe_lst (pa_cons pe_str (pa_cons pe_str (pa_cons pe_str (pa_cons pe_str (pa_cons pe_str pa_nil)))))) po_none (po_some (pe_op op_add pe_int (pe_op op_mod (pe_callTy call_int1 (by rfl) Z.int (by decide +kernel) (pa_cons (pe_ix (ixL K) (pv 0) (pv 1) (fun _ _ => rfl)) pa_nil)) (pe_ix (ixT K) (pv 2) pe_int (fun _ _ => rfl)))))))
    (pss_cons (ps_set (i := 4) sc.nd rfl (Or.inl rfl) (pe_lst pa_nil))
    (pss_cons (ps_for PassesOwn.never rfl (pi_range1 (by rfl) Z.range (pa_cons (pe_op op_add pe_int (pe_op op_mod (pe_callTy call_int1 (by rfl) Z.int (by decide +kernel) (pa_cons (pe_ix (ixL K) (pv 0) (pe_op op_add (pv 1) pe_int) (fun _ _ => rfl)) pa_nil)) (pe_ix (ixT K) (pv 2) pe_int (fun _ _ => rfl)))) pa_nil)) (pg_name (i := 5) sc.nd rfl (by first | exact Or.inl rfl | exact Or.inr rfl)) (pss_one (ps_expr (pe_bm PySem.F.plainAttrs_list PySem.F.slot_list_append PySem.F.type_list_append mt_append (pv 4) (pa_cons (pe_tup (pa_cons (pe_ix (ixL K) (pe_lst (pa_cons pe_str (pa_cons pe_str (pa_cons pe_str (pa_cons pe_str pa_nil))))) (pv 5) (fun _ _ => rfl)) (pa_cons (pe_ix (ixL K) (pe_lst (pa_cons pe_str (pa_cons pe_str (pa_cons pe_str (pa_cons pe_str (pa_cons pe_str pa_nil)))))) (pe_op op_mod (pe_callTy call_int1 (by rfl) Z.int (by decide +kernel) (pa_cons (pe_ix (ixL K) (pv 0) (pe_op op_add (pe_op op_add (pv 1) pe_int) (pv 5)) (fun _ _ => rfl)) pa_nil)) pe_int) (fun _ _ => rfl)) pa_nil))) pa_nil)))))
    (pss_cons (ps_set (i := 6) sc.nd rfl (Or.inl rfl) (pe_op op_add pe_int (pe_op op_mod (pe_op op_fdiv (pe_callTy call_int1 (by rfl) Z.int (by decide +kernel) (pa_cons (pe_ix (ixL K) (pv 0) (pe_op op_add (pv 1) pe_int) (fun _ _ => rfl)) pa_nil)) pe_int) (pe_ix (ixT K) (pv 2) pe_int (fun _ _ => rfl)))))
    (pss_cons (ps_set (i := 7) sc.nd rfl (Or.inl rfl) (pe_lst pa_nil))
    (pss_cons (ps_for PassesOwn.never rfl (pi_range1 (by rfl) Z.range (pa_cons (pe_op op_mod (pe_callTy call_int1 (by rfl) Z.int (by decide +kernel) (pa_cons (pe_ix (ixL K) (pv 0) (pe_op op_add (pv 1) pe_int) (fun _ _ => rfl)) pa_nil)) (pe_op op_add (pe_ix (ixT K) (pv 2) pe_int (fun _ _ => rfl)) pe_int)) pa_nil)) (pg_name (i := 5) sc.nd rfl (by first | exact Or.inl rfl | exact Or.inr rfl)) (pss_cons (ps_asg (pe_lc (own := [("_law_j", 11)]) (g := (gName 11)) rfl sc.nd (pi_range1 (by rfl) Z.range (pa_cons pe_int pa_nil)) (blkOk_by (N := n__law_log) (sc := defScope s__law_log) (by decide +kernel)) (fun _ _ _ _ _ => (pg_name (i := 11) sc.nd rfl (by first | exact Or.inl rfl | exact Or.inr rfl))) (fun _ _ _ _ _ => pts_nil) (fun _ _ _ _ _ => (pe_callTy call_int1 (by rfl) Z.int (by decide +kernel) (pa_cons (pe_ix (ixL K) (pv 0) (pe_op op_add (pe_op op_add (pe_op op_add (pv 1) pe_int) (pe_op op_mul pe_int (pv 5))) (pv 11)) (fun _ _ => rfl)) pa_nil)))) (pg_unl rfl (pgs_cons (pg_name (i := 8) sc.nd rfl (by first | exact Or.inl rfl | exact Or.inr rfl)) (pgs_cons (pg_name (i := 9) sc.nd rfl (by first | exact Or.inl rfl | exact Or.inr rfl)) (pgs_cons (pg_name (i := 10) sc.nd rfl (by first | exact Or.inl rfl | exact Or.inr rfl)) pgs_nil)))))
    (pss_cons (ps_set (i := 12) sc.nd rfl (Or.inl rfl) (pe_ix (ixT K) (pe_ix (ixL K) (pv 4) (pe_op op_mod (pe_callTy call_int1 (by rfl) Z.int (by decide +kernel) (pa_cons (pv 8) pa_nil)) (pe_callB (cLen K) (by rfl) Z.len PySem.boot_len (pa_cons (pv 4) pa_nil))) (fun _ _ => rfl)) pe_int (fun _ _ => rfl)))
    (pss_one (ps_if (pt_cmpR op_eq (pe_op op_mod (pe_callTy call_int1 (by rfl) Z.int (by decide +kernel) (pa_cons (pv 10) pa_nil)) pe_int) pe_int (nomark _)) (pss_one (ps_expr (pe_bm PySem.F.plainAttrs_list PySem.F.slot_list_append PySem.F.type_list_append mt_append (pv 7) (pa_cons (pe_tup (pa_cons pe_str (pa_cons (pv 12) pa_nil))) pa_nil)))) (pss_one (ps_expr (pe_bm PySem.F.plainAttrs_list PySem.F.slot_list_append PySem.F.type_list_append mt_append (pv 7) (pa_cons (pe_tup (pa_cons pe_str (pa_cons (pv 12) (pa_cons (pe_ix (ixL K) (pv 3) (pe_op op_mod (pe_callTy call_int1 (by rfl) Z.int (by decide +kernel) (pa_cons (pv 9) pa_nil)) (pe_callB (cLen K) (by rfl) Z.len PySem.boot_len (pa_cons (pv 3) pa_nil))) (fun _ _ => rfl)) (pa_cons (pe_op op_mod (pe_op op_fdiv (pe_callTy call_int1 (by rfl) Z.int (by decide +kernel) (pa_cons (pv 10) pa_nil)) pe_int) (pe_op op_add (pv 6) pe_int)) pa_nil))))) pa_nil)))))))))
    (pss_one (ps_ret (pe_tup (pa_cons (pv 3) (pa_cons (pv 6) (pa_cons (pv 4) (pa_cons (pv 7) pa_nil))))))))))))), ?_⟩
    have num : ∀ {σ : L2.St} {G : Hp} {tb : TE} {z : Int} {n : Nat}, σ[0]? = some (some vn) → Ex H G → Ev tb σ G (pI z) → z = (n : Int) → (hn : n < 60) → Ev (tCB rInt1 (tCons (tOp (rIxL K) (tVar 0) tb) tNil)) σ G (pN (ns[n]'(by omega))) := fun hσ eG hb hz hn => ev_num (ev_var ((pNs ns).mono eG rn) hσ) hb hz (by omega)
    have siz : ∀ {σ : L2.St} {G : Hp} {i : Int} {n : Nat} {p : Pr}, σ[2]? = some (some vz) → Ex H G → ([pN 4, pN 2, pN 3, pN 10] : List Pr)[n]? = some p → i = (n : Int) → Ev (tOp (rIxT K) (tVar 2) (tC (.int i))) σ G p := fun hσ eG hi hn => ev_ixT' (ev_var ((pT _).mono eG rz) hσ) hi hn
    -- the items
    obtain ⟨ni, hni⟩ : ∃ ni : Nat, ni = 1 + ns[0] % 4 := ⟨_, rfl⟩
    have hni1 : 1 ≤ ni ∧ ni ≤ 4 := by omega
    refine q_asg e (R := pL ((it5.take ni).map pS)) (Ev.imp (ev_upto (n := ni) (ps := it5.map pS) (ev_lst (ea_cons ev_c (ea_cons ev_c (ea_cons ev_c (ea_cons ev_c (ea_one ev_c)))))) ((ev_I0 (i := 1) ev_c (ev_I (num rfl (Ex.refl _) (ev_var (R := pN 0) rfl) rfl (by decide)) (siz (n := 0) rfl (Ex.refl _) rfl rfl) (by decide))).eq (by rw [hni]; simp))) fun H' v _ r => by rw [List.map_take]; exact r) fun vi G1 A1 s1 ri => ?_
    generalize hits : it5.take ni = its at ri
    have hitok : NamesOk its 20 := by
      rw [← hits]
      exact names_take it5_ok (by decide) hni1.1 (by show ni ≤ 5; omega) (by omega)
    have hitl := hitok.lo
    have hith := hitok.hi
    -- the judges
    refine q_nil fun jl hjl => ?_
    have hjlH : H1 jl = none := s1.c.back hjl
    have s2 := s1.ext (Ex.new (o := .lst []) hjl)
    obtain ⟨nj, hnj⟩ : ∃ nj : Nat, nj = 1 + ns[1] % 3 := ⟨_, rfl⟩
    have hnj1 : 1 ≤ nj ∧ nj ≤ 3 := by omega
    refine q_for (H := G1) s2.b (ei_range (n := nj) (ea_one ((ev_I0 (i := 1) ev_c (ev_I (num rfl s1.a (ev_I0 (i := ((0 : Nat) : Int)) (j := 1) (ev_var rfl) ev_c) rfl (by decide)) (siz (n := 2) rfl s1.a rfl rfl) (by decide))).eq (by rw [hnj]; simp))) (by omega))
      (fun i σ F F1 => Sep H H1 F F1 ∧ F jl = none ∧ ∃ (x : Option V) (acc : List V) (js : List (Str × Str)), σ = [some vn, some (.int ((0 : Nat) : Int)), some vz, some vi, some (.ref jl), x, none, none, none, none, none, none, none] ∧ F1 jl = some (.lst acc) ∧ All2 F acc (js.map pJ) ∧ js.map Prod.fst = nm4.take i ∧ (∀ d ∈ js, DriftOk d.2))
      (fun H' H2 s => ?_) ?_ ?_
    · have k := s.keep (s1.b.back hjl) (upd_same (H := A1) (o := .lst []))
      exact ⟨s2.trans s, k.1, _, [], [], rfl, k.2, True.intro, rfl, fun d hd => by cases hd⟩
    · rintro i p u σ' F F1 F' F2 hpi ⟨sF, nF, x, acc, js, rfl, gF, rF, hjs, hds⟩ eF s3 rp
      obtain ⟨m, hm, rfl⟩ := map_get hpi
      have hil : i < nj := by
        have := (List.getElem?_eq_some_iff.mp hm).1
        simpa using this
      have hmi : m = i := by
        have := (List.getElem?_eq_some_iff.mp hm).2
        simpa using this.symm
      subst hmi
      have k3 := s3.keep nF gF
      have rp : u = .int (m : Int) := rp
      subst rp
      have eH := sF.a.trans s3.a
      have hm4 : m < nm4.length := by show m < 4; omega
      have hd5 : ns[2 + m] % 5 < dr5.length := Nat.mod_lt _ (by decide)
      have hlen : acc.length = m := by
        have h1 := rF.length
        have h2 := congrArg List.length hjs
        rw [List.length_map] at h1 h2
        rw [List.length_take] at h2
        omega
      refine bnd_name F2 s3.b _ ?_
      refine s_app (K := K) (H := F') (i := 4) (l := jl) (R := pJ (nm4[m], dr5[ns[2 + m] % 5])) s3.b k3.1 k3.2 rfl (ev_tup (ea_cons (ev_pick (xs := nm4) (n := m) (ev_lst (ea_cons ev_c (ea_cons ev_c (ea_cons ev_c (ea_one ev_c))))) (ev_var rfl) rfl hm4)
        (ea_one (ev_pick (xs := dr5) (n := ns[2 + m] % 5) (ev_lst (ea_cons ev_c (ea_cons ev_c (ea_cons ev_c (ea_cons ev_c (ea_one ev_c)))))) (ev_I (num (n := 2 + m) rfl eH (ev_I0 (i := ((0 : Nat) : Int) + 2) (j := (m : Int)) (ev_I0 (i := ((0 : Nat) : Int)) (j := 2) (ev_var rfl) ev_c) (ev_var rfl)) (by omega) (by omega)) ev_c (by decide)) (by simp) hd5)))) (by omega) fun w2 G5 A5 s5 r5 => ?_
      have k5 := s5.keep k3.1 k3.2
      refine ⟨G5, s3.a.trans s5.a, s5.b.mut k5.1, ((sF.trans s3).trans s5).mut hjlH k5.1, k5.1, _, acc ++ [w2], js ++ [(nm4[m], dr5[ns[2 + m] % 5])], rfl, upd_same, ?_, ?_, fun d hd => ?_⟩
      · rw [List.map_append]
        exact (rF.mono (s3.a.trans s5.a)).snoc r5
      · rw [List.map_append, hjs, List.take_succ_eq_append_getElem hm4]
        rfl
      · rcases List.mem_append.mp hd with z | z
        · exact hds d z
        · have z : d = (nm4[m], dr5[ns[2 + m] % 5]) := by simpa using z
          rw [z]
          have hall : ∀ y ∈ dr5, DriftOk y := by
            unfold DriftOk
            decide
          exact hall _ (List.getElem_mem hd5)
    rintro σ' F F1 eF eF1 ⟨sF, nF, x, acc, js, rfl, gF, rF, hjs, hds⟩
    rw [List.length_map, List.length_range] at hjs
    have sJ := sF.own hjlH nF gF
    have rj : (pL (js.map pJ)).p (upd F jl (.lst acc)) (.ref jl) := ⟨jl, acc, rfl, upd_same, rF.mono (Ex.new nF)⟩
    have ri2 := (pL (its.map pS)).mono (eF.trans (Ex.new (o := .lst acc) nF)) ri
    generalize upd F jl (.lst acc) = G2 at sJ rj ri2
    -- the highest grade
    obtain ⟨gr, hgr⟩ : ∃ gr : Nat, gr = 1 + ns[1] / 8 % 2 := ⟨_, rfl⟩
    refine q_asgV (v := .int (gr : Int)) sJ.b ((ev_I0 (i := 1) ev_c (ev_I (ev_I (num (n := 1) rfl sJ.a (ev_I0 (i := ((0 : Nat) : Int)) (j := 1) (ev_var rfl) ev_c) rfl (by decide)) ev_c ⟨by decide, by decide⟩) (siz (n := 1) rfl sJ.a rfl rfl) (by decide))).eq (by rw [hgr]; simp)) fun A3 e3 e4 => ?_
    have s3 := sJ.ext e4
    -- the events
    refine q_nil fun el hel => ?_
    have helH : H1 el = none := s3.c.back hel
    have s4 := s3.ext (Ex.new (o := .lst []) hel)
    obtain ⟨ne, hne⟩ : ∃ ne : Nat, ne = ns[6] % 11 := ⟨_, rfl⟩
    have hnjl : js.length = nj := by
      have := congrArg List.length hjs
      rw [List.length_map, List.length_take] at this
      have : nm4.length = 4 := rfl
      omega
    refine q_for (H := G2) s4.b (ei_range (n := ne) (ea_one ((ev_I (num (n := 6) rfl sJ.a (ev_I0 (i := ((0 : Nat) : Int)) (j := 6) (ev_var rfl) ev_c) rfl (by decide)) (ev_I0 (i := ((10 : Nat) : Int)) (j := 1) (siz (n := 3) rfl sJ.a rfl rfl) ev_c) (by decide)).eq (by rw [hne]; simp))) (by omega))
      (fun i σ F F1 => Sep H H1 F F1 ∧ F el = none ∧ ∃ (x1 x2 x3 x4 x5 x6 : Option V) (acc : List V) (es : List EvD), σ = [some vn, some (.int ((0 : Nat) : Int)), some vz, some vi, some (.ref jl), x1, some (.int (gr : Int)), some (.ref el), x2, x3, x4, x5, x6] ∧ F1 el = some (.lst acc) ∧ All2 F acc (es.map pEv) ∧ es.length = i ∧ (∀ d ∈ es, (LogD.mk its gr js []).EvOk d))
      (fun H' H2 s => ?_) ?_ ?_
    · have k := s.keep (s3.b.back hel) (upd_same (H := A3) (o := .lst []))
      exact ⟨s4.trans s, k.1, _, _, _, _, _, _, [], [], rfl, k.2, True.intro, rfl, fun d hd => by cases hd⟩
    · rintro i p u σ' F F1 F' F2 hpi ⟨sF, nF, x1, x2, x3, x4, x5, x6, acc, es, rfl, gF, rF, hes, hev⟩ eF s5 rp
      obtain ⟨m, hm, rfl⟩ := map_get hpi
      have hil : i < ne := by
        have := (List.getElem?_eq_some_iff.mp hm).1
        simpa using this
      have hmi : m = i := by
        have := (List.getElem?_eq_some_iff.mp hm).2
        simpa using this.symm
      subst hmi
      have k5 := s5.keep nF gF
      have rp : u = .int (m : Int) := rp
      subst rp
      have eH := sF.a.trans s5.a
      have hlen : acc.length = m := by
        have h1 := rF.length
        rw [List.length_map] at h1
        omega
      have ri5 := (pL (its.map pS)).mono (eF.trans s5.a) ri2
      have rj5 := (pL (js.map pJ)).mono (eF.trans s5.a) rj
      refine bnd_name F2 s5.b _ ?_
      refine q_asgG s5.b (R := pL [pN (ns.getD (7 + 3 * m + 0) 0), pN (ns.getD (7 + 3 * m + 1) 0), pN (ns.getD (7 + 3 * m + 2) 0)]) (ev_lcA (as := List.range 3) (f := pN) (h := fun j => pN (ns.getD (7 + 3 * m + j) 0)) (ei_range (n := 3) (ea_one ev_c) (by decide)) (by decide) fun j v G3 hj eG rv => ⟨_, bnd_name, rfl, ?_⟩) fun vt G3 A3 s6 rt => ?_
      · have hj3 : j < 3 := List.mem_range.mp hj
        have rv : v = .int (j : Int) := rv
        subst rv
        have e1 : ns.getD (7 + 3 * m + j) 0 = ns[7 + 3 * m + j]'(by omega) := by rw [List.getD_eq_getElem?_getD, List.getElem?_eq_getElem (by omega)]; rfl
        rw [e1]
        exact num (n := 7 + 3 * m + j) (z := ((0 : Nat) : Int) + 7 + 3 * (m : Int) + (j : Int)) rfl (eH.trans eG) (ev_I0 (ev_I0 (ev_I0 (ev_var (R := pI ((0 : Nat) : Int)) rfl) ev_c) (ev_I ev_c (ev_var (R := pI (m : Int)) rfl) (Or.inl (by decide)))) (ev_var (R := pI (j : Int)) rfl)) (by omega) (by omega)
      obtain ⟨va1, vb1, vc1, r1, r2, r3, hb⟩ := bnd_triL (K := K) (i := 8) (j := 9) (k := 10) rt
      refine ⟨_, hb, ?_⟩
      generalize ns.getD (7 + 3 * m + 0) 0 = a at r1
      generalize ns.getD (7 + 3 * m + 1) 0 = b at r2
      generalize ns.getD (7 + 3 * m + 2) 0 = c at r3
      have r1 : va1 = .int (a : Int) := r1
      have r2 : vb1 = .int (b : Int) := r2
      have r3 : vc1 = .int (c : Int) := r3
      subst r1 r2 r3
      have k6 := s6.keep k5.1 k5.2
      have t6 := (sF.trans s5).trans s6
      have hja : a % js.length < js.length := Nat.mod_lt _ (by omega)
      have hib : b % its.length < its.length := Nat.mod_lt _ (by omega)
      have rj6 := (pL (js.map pJ)).mono s6.a rj5
      have ri6 := (pL (its.map pS)).mono s6.a ri5
      refine q_asgV (v := .str js[a % js.length].1) s6.b (ev_ixT' (n := 0) (ps := [pS js[a % js.length].1, pS js[a % js.length].2]) (ev_ixL (i := a % js.length) (ev_var rj6) ((ev_I (i := (a : Int)) (j := (js.length : Int)) (ev_intI (ev_var (R := pI (a : Int)) rfl)) ((ev_len (ev_var rj6)).eq (by simp)) (by omega)).eq (by simp)) (by rw [List.getElem?_map, List.getElem?_eq_getElem hja]; rfl)) rfl rfl) fun F7 e7 e8 => ?_
      have k7 := e8 _ _ k6.2
      have t7 := t6.ext e8
      have hjn : js[a % js.length].1 ∈ js.map Prod.fst := List.mem_map.mpr ⟨_, List.getElem_mem hja, rfl⟩
      have fin : ∀ (d : EvD) (w2 : V) (G5 A5 : Hp), (LogD.mk its gr js []).EvOk d → Sep G3 F7 G5 A5 → (pEv d).p G5 w2 → ∃ L, Ex F L ∧ Ex L (upd A5 el (.lst (acc ++ [w2]))) ∧ Sep H H1 L (upd A5 el (.lst (acc ++ [w2]))) ∧ L el = none ∧ (upd A5 el (.lst (acc ++ [w2]))) el = some (.lst (acc ++ [w2])) ∧ All2 L (acc ++ [w2]) ((es ++ [d]).map pEv) ∧ (es ++ [d]).length = m + 1 ∧ ∀ x ∈ es ++ [d], (LogD.mk its gr js []).EvOk x := by
        intro d w2 G5 A5 hd s9 r9
        have k9 := s9.keep k6.1 k7
        refine ⟨G5, s5.a.trans (s6.a.trans s9.a), s9.b.mut k9.1, (t7.trans s9).mut helH k9.1, k9.1, upd_same, ?_, by rw [List.length_append, hes]; rfl, fun x hx => ?_⟩
        · rw [List.map_append]
          exact (rF.mono (s5.a.trans (s6.a.trans s9.a))).snoc r9
        · rcases List.mem_append.mp hx with z | z
          · exact hev x z
          · have z : x = d := by simpa using z
            rw [z]
            exact hd
      refine s_if (b := decide (c % 9 = 4)) (s6.b.trans e8) ((et_test (ev_eq (x := .int ((c : Int) % 9)) (y := .int 4) (ev_I (i := (c : Int)) (j := 9) (ev_intI (ev_var (R := pI (c : Int)) rfl)) ev_c (by decide)) ev_c rfl)).eq (by simp; omega)) (fun z F8 e9 => ?_) fun z F8 e9 => ?_
      · refine s_app (K := K) (H := G3) (i := 7) (l := el) (R := pEv (.res js[a % js.length].1)) ((s6.b.trans e8).trans e9) k6.1 (e9 _ _ k7) rfl (ev_tup (ea_cons ev_c (ea_one (ev_var rfl)))) (by omega) fun w2 G5 A5 s9 r9 => ?_
        obtain ⟨L, l1, l2, l3, l4, l5, l6, l7, l8⟩ := fin (.res js[a % js.length].1) w2 G5 A5 hjn ⟨s9.a, s9.b, e9.trans s9.c, fun b h1 h2 => s9.d b (fun q => h1 (e9.back q)) h2, s9.e⟩ r9
        exact ⟨L, l1, l2, l3, l4, _, _, _, _, _, _, acc ++ [w2], es ++ [_], rfl, l5, l6, l7, l8⟩
      · refine s_app (K := K) (H := G3) (i := 7) (l := el) (R := pEv (.ans js[a % js.length].1 its[b % its.length] (c / 9 % (gr + 1)))) ((s6.b.trans e8).trans e9) k6.1 (e9 _ _ k7) rfl (ev_tup (ea_cons ev_c (ea_cons (ev_var rfl) (ea_cons (ev_pick (xs := its) (n := b % its.length) (ev_var ri6) (ev_I (i := (b : Int)) (j := (its.length : Int)) (ev_intI (ev_var (R := pI (b : Int)) rfl)) ((ev_len (ev_var ri6)).eq (by simp)) (by omega)) (by simp) hib)
          (ea_one ((ev_I (i := (c : Int) / 9) (j := (gr : Int) + 1) (ev_I (i := (c : Int)) (j := 9) (ev_intI (ev_var (R := pI (c : Int)) rfl)) ev_c ⟨by decide, by decide⟩) (ev_I0 (i := (gr : Int)) (j := 1) (ev_var rfl) ev_c) (by omega)).eq (y := .int ((c / 9 % (gr + 1) : Nat) : Int)) (by simp))))))) (by omega) fun w2 G5 A5 s9 r9 => ?_
        have hg : c / 9 % (gr + 1) ≤ gr := Nat.le_of_lt_succ (Nat.mod_lt _ (by omega))
        obtain ⟨L, l1, l2, l3, l4, l5, l6, l7, l8⟩ := fin (.ans js[a % js.length].1 its[b % its.length] (c / 9 % (gr + 1))) w2 G5 A5 ⟨hjn, List.getElem_mem hib, hg⟩ ⟨s9.a, s9.b, e9.trans s9.c, fun b h1 h2 => s9.d b (fun q => h1 (e9.back q)) h2, s9.e⟩ r9
        exact ⟨L, l1, l2, l3, l4, _, _, _, _, _, _, acc ++ [w2], es ++ [_], rfl, l5, l6, l7, l8⟩
    · rintro σ' F F1 eF eF1 ⟨sF, nF, x1, x2, x3, x4, x5, x6, acc, es, rfl, gF, rF, hes, hev⟩
      rw [List.length_map, List.length_range] at hes
      have sE := sF.own helH nF gF
      refine s_ret (R := pE (fun l : LogD => l.Ok ∧ l.events.length ≤ 10) pLL) sE.b (Ev.imp (ev_tup (ea_cons (ev_var ((pL (its.map pS)).mono (eF.trans (Ex.new (o := .lst acc) nF)) ri2)) (ea_cons (ev_var (R := pN gr) rfl) (ea_cons (ev_var ((pL (js.map pJ)).mono (eF.trans (Ex.new (o := .lst acc) nF)) rj)) (ea_one (ev_var (R := pL (es.map pEv)) ⟨el, acc, rfl, upd_same, rF.mono (Ex.new nF)⟩)))))) fun H' v _ r => ⟨⟨its, gr, js, es⟩, ⟨?_, by show es.length ≤ 10; omega⟩, r⟩) (q.go sE)
      refine ⟨hitok, ?_, hds, by show 1 ≤ gr; omega, by show gr ≤ 9; omega, by show es.length ≤ 120; omega, hev⟩
      show NamesOk (js.map Prod.fst) 8
      rw [hjs]
      exact names_take nm4_ok (by decide) hnj1.1 (by show nj ≤ 4; omega) (by omega)
end
end Rb
set_option Elab.async false
set_option linter.all false
set_option maxRecDepth 100000
/-! The plain law. -/
namespace Rb
open PySem PySem.Spec PyProof.Rows L2
theorem no_expl {c : CaseD} {r : List (Nat × Nat)} (h : IsRing c r) : expl c = false := by
  cases e : expl c with
  | false => rfl
  | true => exact absurd h (not_ring e)
theorem expl_of {c : CaseD} (h : ∀ r, ¬ IsRing c r) : expl c = true := expl_yes.mpr fun ⟨r, z⟩ => h r z
theorem ring_of {c : CaseD} (h : expl c = false) : ∃ r, IsRing c r := Classical.byContradiction fun z => by
  rw [expl_yes.mpr z] at h
  cases h
/-- a log that contradicts itself: no moves help -/
theorem moves_none {l : LogD} (h : expl (mkCase l [] [] none) = false) : leastLists l.movePlaces (fun M => expl (cM l M)) = [] := by
  obtain ⟨r, hr⟩ := ring_of h
  exact least_none fun M => no_expl (ring_none hr (some M))
theorem moves_full {l : LogD} (hl : l.Ok) (h : expl (mkCase l [] [] none) = true) : expl (cM l l.movePlaces) = true := expl_of fun r hr => by
  refine not_ring h (ring_move hr fun k hk => ?_)
  have p := ring_links hr k hk
  cases ho : isFirst (l.driftOf (l.evJ k.1)) k.1 k.2 with
  | true => exact p.inO ho none
  | false =>
    exfalso
    have hd : l.driftOf (l.evJ k.1) ≠ ("stays" : Str) := fun z => by
      unfold isFirst at ho
      rw [z] at ho
      simp at ho
    rcases p.ord with z | z
    · rw [z] at ho
      cases ho
    · have h1 := part_mm.mp z (max k.1 k.2) p.mm (Nat.le_refl _) p.jmax
      have h2 : max k.1 k.2 ∉ l.movePlaces := of_decide_eq_false h1
      refine h2 ((mem_move hl).mpr ⟨p.amax, by rw [p.jmax]; exact hd, min k.1 k.2, p.mm, p.amin, p.jmin.trans p.jmax.symm, ?_⟩)
      rw [p.jmax]
      exact (lot_same (Nat.le_of_lt p.mm)).mpr fun q h1 h2 h3 => ⟨(lot_mm.mp p.lot q h1 h2 h3).1, by simp⟩
theorem moves_ok {l : LogD} (hl : l.Ok) {row : List Nat} (h : row ∈ leastLists l.movePlaces fun M => expl (cM l M)) : okM l row := by
  obtain ⟨h1, _, h3⟩ := least_mem h
  exact ⟨fun q hq => ((mem_move hl).mp (h3 q hq)).1, h1⟩
theorem strikes_full (l : LogD) : expl (mkCase l l.answers [] none) = true := expl_of fun r hr => by
  obtain ⟨k, r', e⟩ := List.exists_cons_of_ne_nil hr.1
  have p := ring_links hr k (by rw [e]; exact List.mem_cons_self)
  exact p.sa (LogD.mem_answers.mpr p.ha)
theorem strikes_ok {l : LogD} {row : List Nat} (h : row ∈ leastLists l.answers fun M => expl (mkCase l M [] none)) : okS l row := (least_mem h).1
theorem resets_full {l : LogD} (hl : l.Ok) : expl (mkCase l [] l.resetPlaces none) = true := expl_of fun r hr => by
  obtain ⟨k, r', e⟩ := List.exists_cons_of_ne_nil hr.1
  have p := ring_links hr k (by rw [e]; exact List.mem_cons_self)
  refine (lot_mm.mp p.lot (max k.1 k.2) p.mm (Nat.le_refl _) p.jmax).2 ((mem_reset hl).mpr ⟨p.amax, min k.1 k.2, p.mm, p.amin, p.jmin.trans p.jmax.symm, ?_⟩)
  rw [p.jmax]
  exact (lot_same (Nat.le_of_lt p.mm)).mpr fun q h1 h2 h3 => ⟨(lot_mm.mp p.lot q h1 h2 h3).1, by simp⟩
theorem resets_ok {l : LogD} {row : List Nat} (h : row ∈ leastLists l.resetPlaces fun M => expl (mkCase l [] M none)) : okR l row := by
  obtain ⟨h1, _, h3⟩ := least_mem h
  exact ⟨h3, h1⟩
/-! ### crossings -/
theorem cross_hit {l : LogD} {j : Str} {c : Nat × Nat} (h : CrossOk l j c) {row : List Nat} (hr : okM l row) : ∃ q ∈ row.filter (fun q => decide (l.evJ q = j)), c.1 < q ∧ q ≤ c.2 := by
  obtain ⟨h1, h2, h3, h4, h5, h6, h7, h8⟩ := h
  refine Classical.byContradiction fun hno => ?_
  have hp : l.partC (some row) j (c.1 + 1) = l.partC (some row) j (c.2 + 1) := (part_same (Nat.le_of_lt h1)).mpr fun q q1 q2 q3 => decide_eq_false fun hq => hno ⟨q, List.mem_filter.mpr ⟨hq, decide_eq_true q3⟩, q1, q2⟩
  rcases Nat.lt_or_gt_of_ne h8 with z | z
  · have p : LinkP l [] [] (some row) c.1 c.2 := ⟨h2, h3, by simp, by simp, h4.trans h5.symm, by rw [h4]; exact h6, .inr (by rw [h4]; exact hp), z⟩
    exact not_ring hr.2 (ring_self p h7)
  · have p : LinkP l [] [] (some row) c.2 c.1 := ⟨h3, h2, by simp, by simp, h5.trans h4.symm, by rw [h5]; exact h6.symm, .inr (by rw [h5]; exact hp.symm), z⟩
    exact not_ring hr.2 (ring_self p h7.symm)
theorem apart_pick {own : List Nat} : ∀ {cs : List (Nat × Nat)}, Apart cs → (∀ c ∈ cs, ∃ q ∈ own, c.1 < q ∧ q ≤ c.2) → ∃ qs : List Nat, qs.length = cs.length ∧ Asc qs ∧ (∀ q ∈ qs, q ∈ own) ∧ ∀ q ∈ qs, ∃ c ∈ cs, c.1 < q
  | [], _, _ => ⟨[], rfl, .nil, fun _ h => (by cases h), fun _ h => (by cases h)⟩
  | c :: cs, h1, h2 => by
    obtain ⟨a1, a2⟩ := List.pairwise_cons.mp h1
    obtain ⟨qs, q1, q2, q3, q4⟩ := apart_pick a2 fun d hd => h2 d (List.mem_cons_of_mem _ hd)
    obtain ⟨q, w1, w2, w3⟩ := h2 c List.mem_cons_self
    refine ⟨q :: qs, by rw [List.length_cons, List.length_cons, q1], List.pairwise_cons.mpr ⟨fun x hx => ?_, q2⟩, fun x hx => ?_, fun x hx => ?_⟩
    · obtain ⟨d, hd, hdx⟩ := q4 x hx
      have := a1 d hd
      omega
    · rcases List.mem_cons.mp hx with z | z
      · rw [z]; exact w1
      · exact q3 x z
    · rcases List.mem_cons.mp hx with z | z
      · exact ⟨c, List.mem_cons_self, by rw [z]; exact w2⟩
      · obtain ⟨d, hd, hdx⟩ := q4 x z
        exact ⟨d, List.mem_cons_of_mem _ hd, hdx⟩
theorem cross_len {l : LogD} {j : Str} {cs : List (Nat × Nat)} (h1 : ∀ c ∈ cs, CrossOk l j c) (h2 : Apart cs) {row : List Nat} (hr : okM l row) : cs.length ≤ (row.filter fun q => decide (l.evJ q = j)).length := by
  obtain ⟨qs, q1, q2, q3, _⟩ := apart_pick h2 fun c hc => cross_hit (h1 c hc) hr
  rw [← q1]
  exact nodup_len (asc_nd q2) q3
/-! ### pairs -/
theorem pair_hit {l : LogD} (hl : l.Ok) (hg : l.grades = 1) {j : Str} (hj : j ∈ l.names) (hd : l.driftOf j ≠ ("stays" : Str)) {c : Nat × Nat} (h : PrOk l j c) {row : List Nat} (hr : okS l row) : c.1 ∈ row ∨ c.2 ∈ row := by
  obtain ⟨h1, h2, h3, h4, h5, h6, h7, h8, h9⟩ := h
  refine Classical.byContradiction fun hno => ?_
  have n1 : c.1 ∉ row := fun z => hno (.inl z)
  have n2 : c.2 ∉ row := fun z => hno (.inr z)
  have g1 := hl.grade h2
  have g2 := hl.grade h3
  rw [hg] at g1 g2
  have hdo : DriftOk (l.driftOf j) := hl.drifts _ (judge_of hj)
  have hdo : l.driftOf j = "rises" ∨ l.driftOf j = "falls" ∨ l.driftOf j = "stays" := by simpa [DriftOk] using hdo
  rcases hdo with z | z | z
  · have hf : firstOf l j = 1 := by
      unfold firstOf
      rw [z, if_pos rfl]
    rw [hf] at h8 h9
    have p : LinkP l row [] none c.1 c.2 := ⟨h2, h3, n1, n2, h4.trans h5.symm, by rw [h4]; exact h6, .inl (by
      rw [h4, z]
      unfold isFirst
      rw [if_pos rfl, decide_eq_true (Nat.le_of_lt h1), Bool.or_true]), by omega⟩
    exact not_ring hr (ring_self p h7)
  · have hf : firstOf l j = 0 := by
      unfold firstOf
      rw [z, if_neg (by decide)]
    rw [hf] at h8 h9
    have p : LinkP l row [] none c.2 c.1 := ⟨h3, h2, n2, n1, h5.trans h4.symm, by rw [h5]; exact h6.symm, .inl (by
      rw [h5, z]
      unfold isFirst
      rw [if_neg (by decide), decide_eq_true (Nat.le_of_lt h1), Bool.or_true]), by omega⟩
    exact not_ring hr (ring_self p h7.symm)
  · exact hd z
theorem pair_pick {row : List Nat} : ∀ {cs : List (Nat × Nat)}, (ends cs).Nodup → (∀ c ∈ cs, c.1 ∈ row ∨ c.2 ∈ row) → ∃ qs : List Nat, qs.length = cs.length ∧ qs.Nodup ∧ (∀ q ∈ qs, q ∈ row) ∧ ∀ q ∈ qs, q ∈ ends cs
  | [], _, _ => ⟨[], rfl, .nil, fun _ h => (by cases h), fun _ h => (by cases h)⟩
  | c :: cs, h1, h2 => by
    have e1 : ends (c :: cs) = [c.1, c.2] ++ ends cs := by
      unfold ends
      rw [List.flatMap_cons]
    rw [e1] at h1
    obtain ⟨_, a2, a3⟩ := List.nodup_append.mp h1
    obtain ⟨qs, q1, q2, q3, q4⟩ := pair_pick a2 fun d hd => h2 d (List.mem_cons_of_mem _ hd)
    have pick : ∀ x, x ∈ [c.1, c.2] → x ∈ row → ∃ qs : List Nat, qs.length = (c :: cs).length ∧ qs.Nodup ∧ (∀ q ∈ qs, q ∈ row) ∧ ∀ q ∈ qs, q ∈ ends (c :: cs) := fun x hx hxr => by
      refine ⟨x :: qs, by rw [List.length_cons, List.length_cons, q1], List.nodup_cons.mpr ⟨fun hm => a3 x hx x (q4 x hm) rfl, q2⟩, fun y hy => ?_, fun y hy => ?_⟩
      · rcases List.mem_cons.mp hy with z | z
        · rw [z]; exact hxr
        · exact q3 y z
      · rw [e1]
        rcases List.mem_cons.mp hy with z | z
        · rw [z]; exact List.mem_append_left _ hx
        · exact List.mem_append_right _ (q4 y z)
    rcases h2 c List.mem_cons_self with z | z
    · exact pick c.1 (by simp) z
    · exact pick c.2 (by simp) z
theorem pair_len {cs : List (Nat × Nat)} (h1 : (ends cs).Nodup) {row : List Nat} (h2 : ∀ c ∈ cs, c.1 ∈ row ∨ c.2 ∈ row) : cs.length ≤ row.length := by
  obtain ⟨qs, q1, q2, q3, _⟩ := pair_pick h1 h2
  rw [← q1]
  exact nodup_len q2 q3
end Rb
set_option Elab.async false
set_option linter.all false
set_option maxRecDepth 100000
set_option maxHeartbeats 3200000
/-! Walks: _law_made; calls of the defs with tables. -/
namespace Rb
open PySem PySem.Spec PyProof.Rows L2 LamX
section
variable {X : Cx} {k j : Nat} {x : Str} {ps : List Str} {dvs : List V} {sp : Sp} {e : Expr} {es : List Expr} {t : TA} {p pos : Pos}
theorem pe_fnT (F : FnT X.prog X.w X.K X.mg X.base k x ps dvs sp) (hr : Room j X.A) (hk : k ≤ j) (hg : Gl X x) (ha : PA X (e :: es) t) (hdb : (x == ("__debug__" : Str)) = false := by decide)
    (he : starEach (e :: es) X.env = (false, eval e X.env) :: starEach es X.env := by rfl) (hpl : (backTo pos (starEach es X.env)).any (·.1) = false := by rfl) :
    PE X (.Call (.Name x p) (e :: es) [] pos) (tCall sp dvs E0 t) := by
  obtain ⟨f, fd, ds, G, hm, kp, hd, hb⟩ := F.ex
  exact pe_call G (hr.mono hk) hg hm kp hb hd pass0 ha hdb he hpl
end
section
variable {K : PySem.W.Frag} {σ : L2.St} {H H1 G : Hp} {ta : TA} {te tb : TE} {D : Ends} {tz : TS} {i : Nat} {α : Type} {Ps : α → List Pr} {pre : α → Prop} {Rs : α → Pr} {T : List (Addr × Str)} {dvs : List V} {as ds : List Pr}
theorem q_callT (a : α) (e : Ex G H1) (nT : NoT G) (hT : Tabs T H1) (h : EvA ta σ G as) (hd : ∀ H, All2 H dvs ds) (hP : Ps a = as ++ ds) (hp : pre a) (k : ∀ v G' H2, Ex G G' → Ex G' H2 → NoT G' → Tabs T H2 → (Rs a).p G' v → tz D (σ.set i (some v)) H2) :
    tSeq (tAsg (tCall (spT T Ps pre Rs) dvs E0 ta) (gName i)) tz D σ H1 :=
  h H1 e _ fun vs K1 H2 s r => ⟨a, K1, s.b, fun b ps z => nT b ps (s.e b ps z), hT.ext s.c, hp, by rw [hP]; exact r.append (hd K1), fun v G' H3 e1 e2 n t r2 => k v G' H3 (s.a.trans e1) e2 n t r2⟩
/-- what is owed, where tables may be written, is owed as ever -/
theorem ret_of {R : Pr} {Q : VK} (nT : NoT G) (hT : Tabs T H1) (q : ∀ v G' H2, Ex G G' → Ex G' H2 → NoT G' → Tabs T H2 → R.p G' v → Q v H2) : Ret G H1 R Q := fun v K1 H2 s r => q v K1 H2 s.a s.b (fun b ps z => nT b ps (s.e b ps z)) (hT.ext s.c) r
theorem ev_lenE {Pp : α → Prop} {f : α → List Pr} (h : Ev te σ H (pE Pp fun x => pL (f x))) : Ev (tCB (rLen K) (tCons te tNil)) σ H (pE Pp fun x => pN (f x).length) := ev_cb (ea_one h) fun H' vs _ hv H1 e1 Q q => by
  obtain ⟨v, rfl, x, hx, a, xs, rfl, ha, hxs⟩ := all1 hv
  refine ⟨a, xs, rfl, .inl (SqL.of (e1 _ _ ha)), q _ _ _ (Sep.refl e1) ⟨x, hx, ?_⟩⟩
  show V.int (xs.length : Int) = .int ((f x).length : Int)
  rw [hxs.length]
theorem et_ltE {Pp : α → Prop} {n : α → Nat} {a : Nat} (ha : Ev te σ H (pN a)) (hb : Ev tb σ H (pE Pp fun x => pN (n x))) (h : ∀ x, Pp x → n x ≤ a) : EvT (tTest (tOp (rI0 fun i j => .bl (decide (i < j))) te tb)) σ H false :=
  et_test (ev_op ha hb fun H' x y _ ex ⟨z, hz, ey⟩ H1 e Q q => by
    refine ⟨(a : Int), (n z : Int), ex, ey, ?_⟩
    have := h z hz
    have e1 : decide ((a : Int) < (n z : Int)) = false := decide_eq_false (by omega)
    show Q (.bl (decide ((a : Int) < (n z : Int)))) H1
    rw [e1]
    exact q.val (Sep.refl e))
end
section
variable {P : Program} {w : World} {K : PySem.W.Frag} {mg : Str → Option Value} {base : Heap} {CL CC : Addr}
abbrev s__law_made : Stmt := topS 63
theorem sc__law_made : FnScope ["_law_log_here", "_law_items", "_law_grades", "_law_judges", "_law_events"] ["_law_log_here"] (defScope s__law_made) := ⟨rfl, rfl, rfl, by decide +kernel, rfl, by decide +kernel, by decide +kernel⟩
abbrev n__law_made : List Str := ["_law_log_here", "_law_items", "_law_grades", "_law_judges", "_law_events"]
abbrev F_law_made (P : Program) (w : World) (K : PySem.W.Frag) (mg : Str → Option Value) (base : Heap) (CL : Addr) : Prop := Fn P w K mg base 5 "_law_made" ["_law_log_here"] (spN (fun l : LogD => [pLL l]) (fun l => l.Ok) fun l => pLog CL l)
theorem w_law_made (Z : Bz K mg CL CC) (D : Df K mg "_law_made" s__law_made [] []) (LK : LogMk P w K mg base CL) : F_law_made P w K mg base CL :=
  fn_mk (k := 4) D sc__law_made (fun _ => rfl) (bnd1 fun _ _ _ _ _ _ _ => rfl) fun f cdv A outer s H1 vs Q X l H hr e hp h q => by
    have sc := sc__law_made
    obtain ⟨vl, rfl, rl⟩ := all1 h
    refine ⟨_, (pss_cons (ps_asg (pv 0) (pgTup K rfl (pgs_cons (pg_name (i := 1) sc.nd rfl (by first | exact Or.inl rfl | exact Or.inr rfl)) (pgs_cons (pg_name (i := 2) sc.nd rfl (by first | exact Or.inl rfl | exact Or.inr rfl)) (pgs_cons (pg_name (i := 3) sc.nd rfl (by first | exact Or.inl rfl | exact Or.inr rfl)) (pgs_cons (pg_name (i := 4) sc.nd rfl (by first | exact Or.inl rfl | exact Or.inr rfl)) pgs_nil))))))
    (pss_one (ps_ret (pe_log LK hr (by decide) (by rfl) Z.Log (pa_cons (pe_callTy (cListOf K) (by rfl) Z.list (by decide +kernel) (pa_cons (pv 1) pa_nil)) (pa_cons (pv 2) (pa_cons (pe_callTy (cListOf K) (by rfl) Z.list (by decide +kernel) (pa_cons (pv 3) pa_nil)) (pa_cons (pe_callTy (cListOf K) (by rfl) Z.list (by decide +kernel) (pa_cons (pv 4) pa_nil)) pa_nil)))))))), ?_⟩
    refine q_asgG e (ev_var (R := pLL l) rl) fun v G A1 s1 r1 => ?_
    obtain ⟨x, y, z, u, h1, h2, h3, h4, hb⟩ := bnd_quad (K := K) (i := 1) (j := 2) (k := 3) (m := 4) r1
    refine ⟨_, hb, ?_⟩
    exact s_ret s1.b (ev_log (ev_listOf (ev_var h1)) (ev_var h2) (ev_listOf (ev_var h3)) (ev_listOf (ev_var h4)) hp) (q.go s1)
end
end Rb
set_option Elab.async false
set_option linter.all false
set_option maxRecDepth 100000
set_option maxHeartbeats 3200000
/-! Walks: _law_moves_right. -/
namespace Rb
open PySem PySem.Spec PyProof.Rows L2 LamX
abbrev rDat (r : List Nat) : PyData := .list (r.map fun n : Nat => PyData.int (n : Int))
abbrev lDat (L : List (List Nat)) : PyData := .list (L.map rDat)
theorem lay_r : ∀ r : List Nat, PyData.canLayAll0 (r.map fun n : Nat => PyData.int (n : Int)) = true
  | [] => rfl
  | n :: r => by simp [PyData.canLayAll0, PyData.canLay0, lay_r r]
theorem lay_l : ∀ L : List (List Nat), PyData.canLayAll0 (L.map rDat) = true
  | [] => rfl
  | r :: L => by simp [PyData.canLayAll0, PyData.canLay0, lay_r r, lay_l L]
theorem dep_r : ∀ r : List Nat, PyData.depthAll (r.map fun n : Nat => PyData.int (n : Int)) ≤ 1
  | [] => by simp [PyData.depthAll]
  | n :: r => by
    have := dep_r r
    simp only [List.map_cons, PyData.depthAll, PyData.depth]
    omega
theorem dep_l : ∀ L : List (List Nat), PyData.depthAll (L.map rDat) ≤ 2
  | [] => by simp [PyData.depthAll]
  | r :: L => by
    have h1 := dep_l L
    have h2 := dep_r r
    simp only [List.map_cons, PyData.depthAll, PyData.depth]
    omega
theorem l_shaped (L : List (List Nat)) : SeqAt.shaped (lDat L) = true := by
  have h1 := dep_l L
  unfold SeqAt.shaped
  rw [Bool.and_eq_true, decide_eq_true_eq]
  refine ⟨by simp only [lDat, PyData.canLay0]; exact lay_l L, ?_⟩
  simp only [lDat, PyData.depth]
  omega
theorem dp_l {K : PySem.W.Frag} (L : List (List Nat)) : DpP K (pL (L.map pNs)) (lDat L) := dpL fun r _ => dpL fun n _ => dpN n
theorem eqv_l0 (L : List (List Nat)) : PyData.eqv (lDat L) (lDat []) = decide (L = []) := by
  cases L <;> simp [lDat, PyData.eqv, PyData.eqvAll]
theorem eqv_l1 (L : List (List Nat)) : PyData.eqv (lDat L) (lDat [[]]) = decide (L = [[]]) := by
  match L with
  | [] => simp [lDat, PyData.eqv, PyData.eqvAll]
  | [[]] => simp [lDat, rDat, PyData.eqv, PyData.eqvAll]
  | (n :: r) :: L => simp [lDat, rDat, PyData.eqv, PyData.eqvAll]
  | [] :: r :: L => simp [lDat, rDat, PyData.eqv, PyData.eqvAll]
section
variable {K : PySem.W.Frag} {σ : L2.St} {H : Hp} {ta : TE} {L : List (List Nat)}
theorem ev_isNil (ha : Ev ta σ H (pL (L.map pNs))) : Ev (tOp (rEqD K) ta (tLst tNil)) σ H (pB (decide (L = []))) := by
  rw [← eqv_l0]
  exact ev_eqD ha (B := pL (([] : List (List Nat)).map pNs)) (ev_lst ea_nil) (dp_l L) (dp_l []) (l_shaped L) (l_shaped [])
theorem ev_isNil1 (ha : Ev ta σ H (pL (L.map pNs))) : Ev (tOp (rEqD K) ta (tLst (tCons (tLst tNil) tNil))) σ H (pB (decide (L = [[]]))) := by
  rw [← eqv_l1]
  exact ev_eqD ha (B := pL ([[]].map pNs)) (ev_lst (ea_one (ev_lst ea_nil))) (dp_l L) (dp_l [[]]) (l_shaped L) (l_shaped [[]])
end
theorem ring_none_iff {c : CaseD} {H : Hp} {v : V} (h : (pRing c).p H v) : decide (v = .non) = expl c := by
  obtain ⟨o, ho, ro⟩ := h
  cases o with
  | none =>
    have ro : v = .non := ro
    have ho : ¬ ∃ r, IsRing c r := ho
    rw [ro, expl_yes.mpr ho]
    rfl
  | some r =>
    obtain ⟨a, xs, ev, _⟩ : (pLks r).p H v := ro
    have ho : IsRing c r ∧ r.length ≤ 51 := ho
    rw [ev, no_expl ho.1]
    rfl
section
variable {P : Program} {w : World} {K : PySem.W.Frag} {mg : Str → Option Value} {base : Heap} {CL CC : Addr}
abbrev F_least_moves (P : Program) (w : World) (K : PySem.W.Frag) (mg : Str → Option Value) (base : Heap) (CL : Addr) (T : List (Addr × Str)) : Prop := FnT P w K mg base 17 "least_moves" ["log", "judge"] [.non] (spT T (fun l : LogD => [pLog CL l, pNo]) (fun l => l.Ok ∧ l.events.length ≤ 10) fun l => pL ((leastLists l.movePlaces fun M => expl (cM l M)).map pNs))
abbrev F_least_strikes (P : Program) (w : World) (K : PySem.W.Frag) (mg : Str → Option Value) (base : Heap) (CL : Addr) (T : List (Addr × Str)) : Prop := FnT P w K mg base 17 "least_strikes" ["log", "places"] [.non] (spT T (fun l : LogD => [pLog CL l, pNo]) (fun l => l.Ok ∧ l.events.length ≤ 10) fun l => pL ((leastLists l.answers fun M => expl (mkCase l M [] none)).map pNs))
abbrev F_least_resets (P : Program) (w : World) (K : PySem.W.Frag) (mg : Str → Option Value) (base : Heap) (CL : Addr) (T : List (Addr × Str)) : Prop := FnT P w K mg base 17 "least_resets" ["log"] [] (spT T (fun l : LogD => [pLog CL l]) (fun l => l.Ok ∧ l.events.length ≤ 10) fun l => pL ((leastLists l.resetPlaces fun M => expl (mkCase l [] M none)).map pNs))
theorem pre3 {l : LogD} (h : l.Ok ∧ l.events.length ≤ 10) : l.events.length ≤ 10 := h.2
abbrev s__law_moves_right : Stmt := topS 65
theorem sc__law_moves_right : FnScope ["_law_log_here", "_law_made_here", "_law_lists", "_law_rings", "_law_row_here", "_law_judge", "_law_drift", "_law_own", "_law_place"] ["_law_log_here", "_law_made_here"] (defScope s__law_moves_right) := ⟨rfl, rfl, rfl, by decide +kernel, rfl, by decide +kernel, by decide +kernel⟩
abbrev n__law_moves_right : List Str := ["_law_log_here", "_law_made_here", "_law_lists", "_law_rings", "_law_row_here", "_law_judge", "_law_drift", "_law_own", "_law_place"]
abbrev F_moves_right (P : Program) (w : World) (K : PySem.W.Frag) (mg : Str → Option Value) (base : Heap) (CL : Addr) (T : List (Addr × Str)) : Prop := FnT P w K mg base 18 "_law_moves_right" ["_law_log_here", "_law_made_here"] [] (spT T (fun l : LogD => [pLL l, pLog CL l]) (fun l => l.Ok ∧ l.events.length ≤ 10) fun _ => pB true)
theorem w_moves_right {T : List (Addr × Str)} (Z : Bz K mg CL CC) (D : Df K mg "_law_moves_right" s__law_moves_right [] []) (f_least_moves : F_least_moves P w K mg base CL T) (CK : CaseMk P w K mg base CL CC) (m_Case_ring : M_ring P w K mg base CC) (f_rings_for_moves : F_rings_for_moves P w K mg base CL) (f_crossings_apart : F_crossings_apart P w K mg base CL) : F_moves_right P w K mg base CL T := by
  obtain ⟨f, fd, F, hm⟩ := D.ex
  refine ⟨f, fd, [], F.ok (k := 17) sc__law_moves_right (fun vs H Q E ⟨l, G, _, _, _, _, h, _⟩ => h.length) fun cdv A outer s H1 vs Q E hr h => ?_, hm, F.kp, .nil, F.bindsN (bnd2 fun _ _ _ _ _ _ _ _ => rfl)⟩
  have sc := sc__law_moves_right
  have hu := hu_of hr
  obtain ⟨l, G, e, nT, hT, hp, h, q⟩ := h
  obtain ⟨vt, vl, rfl, rt, rl⟩ := all2 h
  obtain ⟨hl, hev⟩ := hp
  have hl : l.Ok := hl
  have hev : l.events.length ≤ 10 := hev
  refine ⟨_, PSs.nox ((pss_cons (ps_set (i := 2) sc.nd rfl (Or.inl rfl) (pe_fnT f_least_moves hr (by decide) (by rfl) (pa_cons (pv 1) pa_nil)))
    (pss_cons (ps_if (pt_cmpR op_notN (pe_me0 m_Case_ring Z.c_Case hr (by decide) (pe_case CK hr (by decide) (by rfl) Z.Case (pa_cons (pv 1) pa_nil))) pe_non (nomark _)) (pss_one (ps_ret (pe_cmpR (opEqD K hr.units) (pv 2) (pe_lst pa_nil) (nomark _)))) pss_nil)
    (pss_cons (ps_set (i := 3) sc.nd rfl (Or.inl rfl) (pe_fn f_rings_for_moves hr (by decide) (by rfl) (pa_cons (pv 1) pa_nil)))
    (pss_cons (ps_for PassesOwn.never rfl (piList K (pv 2)) (pg_name (i := 4) sc.nd rfl (by first | exact Or.inl rfl | exact Or.inr rfl)) (pss_cons (ps_if (pt_cmpR op_lt (pe_callB (cLen K) (by rfl) Z.len PySem.boot_len (pa_cons (pv 4) pa_nil)) (pe_callB (cLen K) (by rfl) Z.len PySem.boot_len (pa_cons (pv 3) pa_nil)) (nomark _)) (pss_one (ps_ret pe_bl)) pss_nil)
    (pss_one (ps_for PassesOwn.never rfl (piList K (pe_ix (ixT K) (pv 0) pe_int (fun _ _ => rfl))) (pgTup K rfl (pgs_cons (pg_name (i := 5) sc.nd rfl (by first | exact Or.inl rfl | exact Or.inr rfl)) (pgs_cons (pg_name (i := 6) sc.nd rfl (by first | exact Or.inl rfl | exact Or.inr rfl)) pgs_nil))) (pss_cons (ps_setLc (i := 7) (own := [("_law_place", 8)]) (g := (gName 8)) rfl sc.nd rfl rfl (sw_true rfl rfl rfl (by decide +kernel)) (piList K (pv 4)) (blkOk_by (N := n__law_moves_right) (sc := defScope s__law_moves_right) (by decide +kernel)) (fun _ _ _ _ _ => (pg_name (i := 8) sc.nd rfl (by first | exact Or.inl rfl | exact Or.inr rfl))) (fun _ _ _ _ _ => pts_one (pt_cmpR op_eq (pe_ix (ixT K) (pe_ix (ixL K) (pe_ix (ixT K) (pv 0) pe_int (fun _ _ => rfl)) (pv 8) (fun _ _ => rfl)) pe_int (fun _ _ => rfl)) (pv 5) (nomark _))) (fun _ _ _ _ _ => (pv 8)))
    (pss_one (ps_if (PW.pt (pw_and (pt_cmpR op_ne (pv 6) pe_str (nomark _)) (pw_and1 (pt_cmpR op_lt (pe_callB (cLen K) (by rfl) Z.len PySem.boot_len (pa_cons (pv 7) pa_nil)) (pe_callB (cLen K) (by rfl) Z.len PySem.boot_len (pa_cons (pe_fn f_crossings_apart hr (by decide) (by rfl) (pa_cons (pv 1) (pa_cons (pv 5) pa_nil))) pa_nil)) (nomark _))))) (pss_one (ps_ret pe_bl)) pss_nil)))))))
    (pss_one (ps_ret (pe_and (pe_cmpR op_gt (pe_callB (cLen K) (by rfl) Z.len PySem.boot_len (pa_cons (pv 2) pa_nil)) pe_int (nomark _)) (pe_one (pe_cmpR op_eq (pe_cmpR (opEqD K hr.units) (pv 2) (pe_lst (pa_cons (pe_lst pa_nil) pa_nil)) (nomark _)) (pe_cmpR op_eq (pe_callB (cLen K) (by rfl) Z.len PySem.boot_len (pa_cons (pv 3) pa_nil)) pe_int (nomark _)) (nomark _))))))))))), ?_⟩
  refine q_callT l e nT hT (ea_one (ev_var rl)) (ds := [pNo]) (fun _ => (⟨rfl, True.intro⟩ : pNo.p _ V.non ∧ True)) rfl ⟨hl, hev⟩ fun vL G1 A1 e1 eA nT1 hT1 rL => ?_
  have q1 : Ret G1 A1 (pB true) Q := ret_of nT1 hT1 fun v G' H2 a b c d r => q v G' H2 (e1.trans a) b c d r
  have rt1 := (pLL l).mono e1 rt
  have rl1 := (pLog CL l).mono e1 rl
  generalize hL : (leastLists l.movePlaces fun M => expl (cM l M)) = L at rL
  refine q_if (b := !expl (mkCase l [] [] none)) eA (et_test (ev_notN (ev_meth (as := []) (mkCase l [] [] none) (ev_case (ev_var rl1) hl) (case_ins rfl) ea_nil rfl (mk_ok hl _ _ _)) fun H' v _ r => by rw [ring_none_iff r])) (fun z A2 e2 => ?_) fun z A2 e2 => ?_
  · have hx : expl (mkCase l [] [] none) = false := by simpa using z
    have hL0 : L = [] := by rw [← hL]; exact moves_none hx
    refine s_ret (eA.trans e2) ((ev_isNil (ev_var rL)).eq (by rw [hL0]; rfl)) (q1.ext e2)
  have hx : expl (mkCase l [] [] none) = true := by simpa using z
  unfold tNext
  dsimp only
  refine q_asg (eA.trans e2) (ev_call l (ea_one (ev_var rl1)) ⟨hl, hev, hx⟩) fun vR G3 A3 s3 r3 => ?_
  obtain ⟨rs, hrs, rR⟩ := r3
  have hrs : RgEnd (okM l) (expl (cM l [])) rs := hrs
  have q3 := (q1.ext e2).go s3
  have rt3 := (pLL l).mono s3.a rt1
  have rl3 := (pLog CL l).mono s3.a rl1
  have rL3 := (pL (L.map pNs)).mono s3.a rL
  have rowsOk : ∀ row ∈ L, okM l row ∧ row.length ≤ 10 := fun row hrow => by
    rw [← hL] at hrow
    have h1 := moves_ok hl hrow
    have h2 := (least_mem hrow).2.1
    exact ⟨h1, Nat.le_trans (asc_len h2 h1.1) hev⟩
  refine q_for (H := G3) s3.b (ei_list (ps := L.map pNs) (ev_var rL3)) (fun i σ F F1 => Sep G3 A3 F F1 ∧ ∃ x y z u t, σ = [some vt, some vl, some vL, some vR, x, y, z, u, t]) (fun H' H2 s => ⟨s, _, _, _, _, _, rfl⟩) ?_ ?_
  · rintro i p vrow σ' F F1 F' F2 hpi ⟨sF, x, y, z', u, t, rfl⟩ eF s4 rp
    obtain ⟨row, hrow, rfl⟩ := map_get hpi
    obtain ⟨hok, hrl⟩ := rowsOk row (List.mem_of_getElem? hrow)
    have hle := hrs.2 row hok
    have rR4 := (pL (rs.map pLks)).mono (sF.a.trans s4.a) rR
    refine bnd_name F2 s4.b _ ?_
    refine q_ifN s4.b ((et_test (ev_I0 (i := (row.length : Int)) (j := (rs.length : Int)) ((ev_len (ev_var rp)).eq (by simp)) ((ev_len (ev_var rR4)).eq (by simp)))).eq (decide_eq_false (by omega))) fun F3 e3 => ?_
    have t3 := (sF.trans s4).ext e3
    have rt4 := (pLL l).mono (sF.a.trans s4.a) rt3
    refine s_for (H := F') t3.b (ei_list (ps := l.judges.map pJ) (ev_ixT' (n := 2) (ps := [pL (l.items.map pS), pN l.grades, pL (l.judges.map pJ), pL (l.events.map pEv)]) (ev_var rt4) rfl rfl)) (fun j σ L1 L2 => Sep G3 A3 L1 L2 ∧ Ex F' L1 ∧ ∃ y z u t, σ = [some vt, some vl, some vL, some vR, some vrow, y, z, u, t]) (fun H' H2 s => ⟨t3.trans s, s.a, _, _, _, _, rfl⟩) ?_ ?_
    · rintro j p vj σ' M M1 M' M2 hpj ⟨sM, eFM, y, z', u, t, rfl⟩ eM s5 rp5
      obtain ⟨d, hd, rfl⟩ := map_get hpj
      have hdm := List.mem_of_getElem? hd
      have hdn : d.1 ∈ l.names := List.mem_map.mpr ⟨d, hdm, rfl⟩
      obtain ⟨va, vb, ra, rb, hb⟩ := bnd_pair (K := K) (i := 5) (j := 6) rp5
      refine hb M2 s5.b _ ?_
      have rrow := (pNs row).mono (eFM.trans s5.a) rp
      have rt5 := (pLL l).mono (eFM.trans s5.a) rt4
      have rl5 := (pLog CL l).mono (sM.a.trans s5.a) rl3
      refine q_asg s5.b (ev_lc (as := row) (f := pN) (h := pN) (t := fun p => decide (l.evJ p = d.1)) (ei_list (ev_var rrow)) (by omega) fun p v G6 hpr eG rv => ⟨_, bnd_name, rfl, ?_, fun _ => ev_var rv⟩) fun vo G7 A7 s7 r7 => ?_
      · have hpa := hok.1 p hpr
        have he := LogD.isAns_ev hpa
        have hpl := LogD.ev_lt he
        have rp' : v = .int (p : Int) := rv
        have hidx := ev_ixL (K := K) (σ := [some vt, some vl, some vL, some vR, some vrow, some va, some vb, u, some v]) (i := p) (p := pEv l.events[p]) (ev_ixT' (K := K) (n := 3) (i := 3) (ps := [pL (l.items.map pS), pN l.grades, pL (l.judges.map pJ), pL (l.events.map pEv)]) (ev_var ((pLL l).mono eG rt5) (i := 0) rfl) rfl rfl) (ev_var (R := pN p) rp' (i := 8) rfl) (by rw [List.getElem?_map, List.getElem?_eq_getElem hpl]; rfl)
        have heq : l.events[p] = .ans (l.evJ p) (l.itemAt p) (l.gradeAt p) := (List.getElem?_eq_some_iff.mp he).2
        rw [heq] at hidx
        refine (et_test (ev_eq (x := .str (l.evJ p)) (y := .str d.1) (ev_ixT' (n := 1) (ps := [pS "answer", pS (l.evJ p), pS (l.itemAt p), pN (l.gradeAt p)]) hidx rfl rfl) (ev_var ((pS d.1).mono eG ra)) rfl)).eq (by simp)
      · have r7 : (pNs (row.filter fun p => decide (l.evJ p = d.1))).p G7 vo := r7
        have t7 := (sM.trans s5).trans s7
        refine s_ifN s7.b ((et_and (a := !decide (d.2 = ("stays" : Str))) (b := false) ((et_test (ev_ne (x := .str d.2) (y := .str "stays") (ev_var ((pS d.2).mono s7.a rb)) ev_c rfl)).eq (by simp)) fun _ => et_ltE (n := fun cs => cs.length) ((ev_len (ev_var r7)).eq (y := .int ((row.filter fun p => decide (l.evJ p = d.1)).length : Int)) (by simp)) (Ev.imp (ev_lenE (ev_call (l, d.1) (ea_cons (ev_var ((pLog CL l).mono s7.a rl5)) (ea_one (ev_var ((pS d.1).mono s7.a ra)))) ⟨hl, hdn⟩)) fun H' v _ ⟨cs, hcs, r⟩ => ⟨cs, hcs, by
            have r : v = .int ((cs.map pLk).length : Int) := r
            rw [List.length_map] at r
            exact r⟩) fun cs hcs => cross_len hcs.1 hcs.2 hok).eq (by simp)) fun F8 e8 => ?_
        exact ⟨G7, s5.a.trans s7.a, s7.b.trans e8, t7.ext e8, eFM.trans (s5.a.trans s7.a), _, _, _, _, rfl⟩
    · rintro σ' M M1 eM eM1 ⟨sM, eFM, y, z', u, t, rfl⟩
      exact ⟨M, s4.a.trans eFM, eM1, sM, _, _, _, _, _, rfl⟩
  · rintro σ' F F1 eF eF1 ⟨sF, x, y, z', u, t, rfl⟩
    have hE1 : L ≠ [] := by
      rw [← hL]
      exact least_some (movePlaces_asc hl) (moves_full hl hx)
    have hLp : 0 < L.length := List.length_pos_iff.mpr hE1
    have hE2 : L = [[]] ↔ rs = [] := by
      rw [← hL, least_nil]
      exact hrs.1.symm
    have rL5 := (pL (L.map pNs)).mono sF.a rL3
    have rR5 := (pL (rs.map pLks)).mono sF.a rR
    refine s_ret sF.b ((ev_andV (a := true) (b := true) ((ev_I0 (i := (L.length : Int)) (j := 0) ((ev_len (ev_var rL5)).eq (by simp)) ev_c).eq ?_) fun _ => (ev_eq (x := .bl (decide (L = [[]]))) (y := .bl (decide (rs.length = 0))) (ev_isNil1 (ev_var rL5)) ((ev_eq (x := .int (rs.length : Int)) (y := .int 0) ((ev_len (ev_var rR5)).eq (by simp)) ev_c rfl).eq ?_) rfl).eq ?_).eq rfl) (q3.go sF)
    · have : decide ((0 : Int) < (L.length : Int)) = true := decide_eq_true (by omega)
      exact congrArg V.bl this
    · simp
    · have : decide (L = [[]]) = decide (rs.length = 0) := by
        by_cases hc : rs = []
        · rw [decide_eq_true (hE2.mpr hc), hc]
          rfl
        · rw [decide_eq_false (fun z => hc (hE2.mp z)), decide_eq_false (fun z => hc (List.eq_nil_of_length_eq_zero z))]
      rw [this]
      simp
end
end Rb
set_option Elab.async false
set_option linter.all false
set_option maxRecDepth 100000
set_option maxHeartbeats 3200000
/-! Walks: the law. -/
namespace Rb
open PySem PySem.Spec PyProof.Rows L2 LamX
section
variable {K : PySem.W.Frag} {σ : L2.St} {H H1 G : Hp} {ta : TA} {te tb : TE} {D : Ends} {tu tz : TS} {i : Nat} {α : Type} {Ps : α → List Pr} {pre : α → Prop} {T : List (Addr × Str)} {dvs : List V} {as ds : List Pr}
theorem q_ifNT (a : α) (e : Ex G H1) (nT : NoT G) (hT : Tabs T H1) (h : EvA ta σ G as) (hd : ∀ H, All2 H dvs ds) (hP : Ps a = as ++ ds) (hp : pre a) (k : ∀ G' H2, Ex G G' → Ex G' H2 → NoT G' → Tabs T H2 → tz D σ H2) :
    tSeq (tIfS (tNot (tB (tCall (spT T Ps pre fun _ => pB true) dvs E0 ta))) tu tNext) tz D σ H1 :=
  h H1 e _ fun vs K1 H2 s r => ⟨a, K1, s.b, fun b ps z => nT b ps (s.e b ps z), hT.ext s.c, hp, by rw [hP]; exact r.append (hd K1), fun v G' H3 e1 e2 n t r2 => ⟨true, r2, k G' H3 (s.a.trans e1) e2 n t⟩⟩
theorem ev_addE {Pp : α → Prop} {n : α → Nat} {a : Nat} (ha : Ev te σ H (pN a)) (hb : Ev tb σ H (pE Pp fun x => pN (n x))) : Ev (tOp (rI0 fun i j => .int (i + j)) te tb) σ H (pE Pp fun x => pN (a + n x)) :=
  ev_op ha hb fun H' x y _ ex ⟨z, hz, ey⟩ H1 e Q q => ⟨(a : Int), (n z : Int), ex, ey, q _ _ _ (Sep.refl e) ⟨z, hz, by show V.int ((a : Int) + (n z : Int)) = .int ((a + n z : Nat) : Int); simp⟩⟩
/-- any([len(row) < m for row in L]) where none is -/
theorem any_no {L : List (List Nat)} {f : List Nat → Bool} (h : ∀ row ∈ L, f row = false) : (L.map f).any id = false := by
  rw [List.any_map, List.any_eq_false]
  intro x hx
  simp [h x hx]
end
theorem dec_eq {p q : Prop} [Decidable p] [Decidable q] (h : p ↔ q) : decide p = decide q := by
  by_cases hp : p
  · rw [decide_eq_true hp, decide_eq_true (h.mp hp)]
  · rw [decide_eq_false hp, decide_eq_false fun z => hp (h.mpr z)]
theorem len0 {α : Type} {l : List α} : l.length = 0 ↔ l = [] := List.length_eq_zero_iff
section
variable {P : Program} {w : World} {K : PySem.W.Frag} {mg : Str → Option Value} {base : Heap} {CL CC : Addr}
abbrev s_law : Stmt := topS 66
theorem sc_law : FnScope ["_law_script", "_law_numbers_here", "_law_log_here", "_law_made_here", "_law_pairs", "_law_judge", "_law_drift", "_law_rings", "_law_strikes", "_law_row_here", "_law_parting", "_law_resets"] ["_law_script"] (defScope s_law) := ⟨rfl, rfl, rfl, by decide +kernel, rfl, by decide +kernel, by decide +kernel⟩
abbrev n_law : List Str := ["_law_script", "_law_numbers_here", "_law_log_here", "_law_made_here", "_law_pairs", "_law_judge", "_law_drift", "_law_rings", "_law_strikes", "_law_row_here", "_law_parting", "_law_resets"]
abbrev F_law (P : Program) (w : World) (K : PySem.W.Frag) (mg : Str → Option Value) (base : Heap) (T : List (Addr × Str)) (f : Addr) (fd : FuncData) : Prop := FnOk P w K mg base CX0 19 f fd ["_law_script"] (spT T (fun ns : List Int => [pSc K ns]) (fun _ => True) fun _ => pB true)
theorem w_law {T : List (Addr × Str)} {f : Addr} {fd : FuncData} (Z : Bz K mg CL CC) (F : FunD K "law" "law" (defArgs s_law) (defBody s_law) (defScope s_law) [] [] f fd) (f__law_numbers : F_law_numbers P w K mg base) (f__law_log : F_law_log P w K mg base) (f__law_made : F_law_made P w K mg base CL) (f__law_moves_right : F_moves_right P w K mg base CL T)
    (f_fewest_strikes : F_fewest_strikes P w K mg base CL) (f_rings_apart : F_rings_apart P w K mg base CL) (f_least_strikes : F_least_strikes P w K mg base CL T) (f_rings_for_resets : F_rings_for_resets P w K mg base CL) (f_least_resets : F_least_resets P w K mg base CL T)
    (CK : CaseMk P w K mg base CL CC) (m_Case_ring : M_ring P w K mg base CC) : F_law P w K mg base T f fd := by
  refine F.ok (k := 18) sc_law (fun vs H Q E ⟨l, G, _, _, _, _, h, _⟩ => h.length) fun cdv A outer s H1 vs Q E hr h => ?_
  have sc := sc_law
  have hu := hu_of hr
  obtain ⟨scr, G, e, nT, hT, _, h, q⟩ := h
  obtain ⟨vs0, rfl, rs0⟩ := all1 h
  refine ⟨_, PSs.nox ((pss_cons (ps_set (i := 1) sc.nd rfl (Or.inl rfl) (pe_fn f__law_numbers hr (by decide) (by rfl) (pa_cons (pv 0) (pa_cons pe_int pa_nil))))
    (pss_cons (ps_set (i := 2) sc.nd rfl (Or.inl rfl) (pe_fn f__law_log hr (by decide) (by rfl) (pa_cons (pv 1) (pa_cons pe_int (pa_cons (pe_tup (pa_cons pe_int (pa_cons pe_int (pa_cons pe_int (pa_cons pe_int pa_nil))))) pa_nil)))))
    (pss_cons (ps_set (i := 3) sc.nd rfl (Or.inl rfl) (pe_fn f__law_made hr (by decide) (by rfl) (pa_cons (pv 2) pa_nil)))
    (pss_cons (ps_if (pt_not (pt_val (pe_fnT f__law_moves_right hr (by decide) (by rfl) (pa_cons (pv 2) (pa_cons (pv 3) pa_nil))))) (pss_one (ps_ret pe_bl)) pss_nil)
    (pss_cons (ps_set (i := 4) sc.nd rfl (Or.inr rfl) pe_int)
    (pss_cons (ps_for PassesOwn.never rfl (piList K (pe_ix (ixT K) (pv 2) pe_int (fun _ _ => rfl))) (pgTup K rfl (pgs_cons (pg_name (i := 5) sc.nd rfl (by first | exact Or.inl rfl | exact Or.inr rfl)) (pgs_cons (pg_name (i := 6) sc.nd rfl (by first | exact Or.inl rfl | exact Or.inr rfl)) pgs_nil))) (pss_one (ps_if (PW.pt (pw_and (pt_cmpR op_ne (pv 6) pe_str (nomark _)) (pw_and1 (pt_cmpR op_eq (pe_ix (ixT K) (pv 2) pe_int (fun _ _ => rfl)) pe_int (nomark _))))) (pss_one (ps_set (i := 4) sc.nd rfl (Or.inr rfl) (pe_op op_add (pv 4) (pe_callB (cLen K) (by rfl) Z.len PySem.boot_len (pa_cons (pe_ix (ixT K) (pe_fn f_fewest_strikes hr (by decide) (by rfl) (pa_cons (pv 3) (pa_cons (pv 5) pa_nil))) pe_int (fun _ _ => rfl)) pa_nil))))) pss_nil)))
    (pss_cons (ps_set (i := 7) sc.nd rfl (Or.inr rfl) (pe_fn f_rings_apart hr (by decide) (by rfl) (pa_cons (pv 3) pa_nil)))
    (pss_cons (ps_set (i := 8) sc.nd rfl (Or.inl rfl) (pe_fnT f_least_strikes hr (by decide) (by rfl) (pa_cons (pv 3) pa_nil)))
    (pss_cons (ps_if (PW.pt (pw_or (pt_cmpR op_eq (pe_callB (cLen K) (by rfl) Z.len PySem.boot_len (pa_cons (pv 8) pa_nil)) pe_int (nomark _)) (pw_or (pt_val (pe_callB (crAny K rfl) (by rfl) Z.any (by decide +kernel) (pa_cons (pe_lc (own := [("_law_row_here", 9)]) (g := (gName 9)) rfl sc.nd (piList K (pv 8)) (blkOk_by (N := n_law) (sc := defScope s_law) (by decide +kernel)) (fun _ _ _ _ _ => (pg_name (i := 9) sc.nd rfl (by first | exact Or.inl rfl | exact Or.inr rfl))) (fun _ _ _ _ _ => pts_nil) (fun _ _ _ _ _ => (pe_cmpR op_lt (pe_callB (cLen K) (by rfl) Z.len PySem.boot_len (pa_cons (pv 9) pa_nil)) (pe_callB (call_max2 rfl) (by rfl) Z.max (by decide +kernel) (pa_cons (pv 4) (pa_cons (pe_callB (cLen K) (by rfl) Z.len PySem.boot_len (pa_cons (pv 7) pa_nil)) pa_nil))) (nomark _)))) pa_nil))) (pw_or1 (pt_cmpR op_ne (pe_cmpR (opEqD K hr.units) (pv 8) (pe_lst (pa_cons (pe_lst pa_nil) pa_nil)) (nomark _)) (pe_cmpR op_eq (pe_callB (cLen K) (by rfl) Z.len PySem.boot_len (pa_cons (pv 7) pa_nil)) pe_int (nomark _)) (nomark _)))))) (pss_one (ps_ret pe_bl)) pss_nil)
    (pss_cons (ps_set (i := 10) sc.nd rfl (Or.inr rfl) (pe_fn f_rings_for_resets hr (by decide) (by rfl) (pa_cons (pv 3) pa_nil)))
    (pss_cons (ps_set (i := 11) sc.nd rfl (Or.inl rfl) (pe_fnT f_least_resets hr (by decide) (by rfl) (pa_cons (pv 3) pa_nil)))
    (pss_cons (ps_if (PW.pt (pw_or (pt_cmpR op_eq (pe_callB (cLen K) (by rfl) Z.len PySem.boot_len (pa_cons (pv 11) pa_nil)) pe_int (nomark _)) (pw_or (pt_val (pe_callB (crAny K rfl) (by rfl) Z.any (by decide +kernel) (pa_cons (pe_lc (own := [("_law_row_here", 9)]) (g := (gName 9)) rfl sc.nd (piList K (pv 11)) (blkOk_by (N := n_law) (sc := defScope s_law) (by decide +kernel)) (fun _ _ _ _ _ => (pg_name (i := 9) sc.nd rfl (by first | exact Or.inl rfl | exact Or.inr rfl))) (fun _ _ _ _ _ => pts_nil) (fun _ _ _ _ _ => (pe_cmpR op_lt (pe_callB (cLen K) (by rfl) Z.len PySem.boot_len (pa_cons (pv 9) pa_nil)) (pe_callB (cLen K) (by rfl) Z.len PySem.boot_len (pa_cons (pv 10) pa_nil)) (nomark _)))) pa_nil))) (pw_or1 (pt_cmpR op_ne (pe_cmpR (opEqD K hr.units) (pv 11) (pe_lst (pa_cons (pe_lst pa_nil) pa_nil)) (nomark _)) (pe_cmpR op_eq (pe_callB (cLen K) (by rfl) Z.len PySem.boot_len (pa_cons (pv 10) pa_nil)) pe_int (nomark _)) (nomark _)))))) (pss_one (ps_ret pe_bl)) pss_nil)
    (pss_one (ps_ret (pe_and (pe_cmpR op_eq (pe_cmpR op_isN (pe_me0 m_Case_ring Z.c_Case hr (by decide) (pe_case CK hr (by decide) (by rfl) Z.Case (pa_cons (pv 3) pa_nil))) pe_non (nomark _)) (pe_cmpR op_eq (pe_callB (cLen K) (by rfl) Z.len PySem.boot_len (pa_cons (pv 7) pa_nil)) pe_int (nomark _)) (nomark _)) (pe_one (pe_cmpR op_eq (pe_cmpR op_eq (pe_callB (cLen K) (by rfl) Z.len PySem.boot_len (pa_cons (pv 7) pa_nil)) pe_int (nomark _)) (pe_cmpR op_eq (pe_callB (cLen K) (by rfl) Z.len PySem.boot_len (pa_cons (pv 10) pa_nil)) pe_int (nomark _)) (nomark _))))))))))))))))))), ?_⟩
  refine q_asg e (ev_call scr (ea_cons (ev_var rs0) (ea_one ev_c)) True.intro) fun vn G1 A1 s1 r1 => ?_
  obtain ⟨ns, hns, r1⟩ := r1
  refine q_asg s1.b (ev_call ns (ea_cons (ev_var r1) (ea_cons ev_c (ea_one (ev_tup (ea_cons ev_c (ea_cons ev_c (ea_cons ev_c (ea_one ev_c)))))))) hns) fun vt G2 A2 s2 r2 => ?_
  obtain ⟨l, ⟨hl, hev⟩, rt⟩ := r2
  have hl : l.Ok := hl
  have hev : l.events.length ≤ 10 := hev
  refine q_asg s2.b (ev_call l (ea_one (ev_var rt)) hl) fun vl G3 A3 s3 rl => ?_
  have s13 := (s1.trans s2).trans s3
  have nT3 : NoT G3 := fun b ps z => nT b ps (s13.e b ps z)
  have rt3 := (pLL l).mono s3.a rt
  refine q_ifNT l s13.b nT3 (hT.ext s13.c) (ea_cons (ev_var rt3) (ea_one (ev_var rl))) (ds := []) (fun _ => True.intro) rfl ⟨hl, hev⟩ fun G4 A4 e4 a4 nT4 hT4 => ?_
  have rt4 := (pLL l).mono e4 rt3
  have rl4 := (pLog CL l).mono e4 rl
  refine q_asgV (v := .int ((0 : Nat) : Int)) a4 ev_c fun A5 e5 e6 => ?_
  refine q_for (H := G4) e5 (ei_list (ps := l.judges.map pJ) (ev_ixT' (n := 2) (ps := [pL (l.items.map pS), pN l.grades, pL (l.judges.map pJ), pL (l.events.map pEv)]) (ev_var rt4) rfl rfl))
    (fun i σ F F1 => Sep G4 A5 F F1 ∧ ∃ (x y : Option V) (cs : List (Nat × Nat)), σ = [some vs0, some vn, some vt, some vl, some (.int (cs.length : Int)), x, y, none, none, none, none, none] ∧ (ends cs).Nodup ∧ ∀ c ∈ cs, ∃ d ∈ l.judges.take i, d.2 ≠ ("stays" : Str) ∧ l.grades = 1 ∧ PrOk l d.1 c)
    (fun H' H2 s => ⟨s, _, _, [], rfl, .nil, fun c hc => by cases hc⟩) ?_ ?_
  · rintro i p vj σ' F F1 F' F2 hpi ⟨sF, x, y, cs, rfl, hnd, hcs⟩ eF s5 rp
    obtain ⟨d, hd, rfl⟩ := map_get hpi
    have hil := (List.getElem?_eq_some_iff.mp hd).1
    have hdm := List.mem_of_getElem? hd
    have hdn : d.1 ∈ l.names := List.mem_map.mpr ⟨d, hdm, rfl⟩
    have htk : l.judges.take (i + 1) = l.judges.take i ++ [d] := by rw [List.take_succ_eq_append_getElem hil, (List.getElem?_eq_some_iff.mp hd).2]
    have hnew : ∀ d' ∈ l.judges.take i, d'.1 ≠ d.1 := fun d' hd' z => by
      have h1 : ((l.judges.take (i + 1)).map Prod.fst).Nodup := by
        rw [List.map_take]
        exact List.Nodup.sublist (List.take_sublist _ _) hl.names.nd
      rw [htk, List.map_append] at h1
      exact (List.nodup_append.mp h1).2.2 d'.1 (List.mem_map.mpr ⟨d', hd', rfl⟩) d.1 (by simp) z
    obtain ⟨va, vb, ra, rb, hb⟩ := bnd_pair (K := K) (i := 5) (j := 6) rp
    refine hb F2 s5.b _ ?_
    have rt5 := (pLL l).mono (eF.trans s5.a) rt4
    have rl5 := (pLog CL l).mono (eF.trans s5.a) rl4
    refine s_if (b := !decide (d.2 = ("stays" : Str)) && decide (l.grades = 1)) s5.b (et_and ((et_test (ev_ne (x := .str d.2) (y := .str "stays") (ev_var rb) ev_c rfl)).eq (by simp)) fun _ => (et_test (ev_eq (x := .int (l.grades : Int)) (y := .int 1) (ev_ixT' (n := 1) (ps := [pL (l.items.map pS), pN l.grades, pL (l.judges.map pJ), pL (l.events.map pEv)]) (ev_var rt5) rfl rfl) ev_c rfl)).eq (by simp; omega)) (fun z F3 e3 => ?_) fun z F3 e3 => ?_
    · rw [Bool.and_eq_true] at z
      have z1 : d.2 ≠ ("stays" : Str) := by simpa using z.1
      have z2 : l.grades = 1 := of_decide_eq_true z.2
      refine s_asg (s5.b.trans e3) (ev_addE (a := cs.length) (ev_var rfl) (ev_lenE (f := fun x : List Nat × List (Nat × Nat) => x.2.map pLk) (ev_ixTE (K := K) (n := 1) (qs := fun x : List Nat × List (Nat × Nat) => [pNs x.1, pLks x.2]) (p := fun x => pLks x.2) (ev_call (l, d.1) (ea_cons (ev_var rl5) (ea_one (ev_var ra))) ⟨hl, hdn, hev, by rw [driftOf_eq hl hdm]; exact z1, z2⟩) (fun _ => rfl) rfl))) fun v G6 A6 s6 r6 => ?_
      obtain ⟨x2, ⟨h1, h2⟩, r6⟩ := r6
      have h1 : ∀ c ∈ x2.2, PrOk l d.1 c := h1
      have h2 : (ends x2.2).Nodup := h2
      have r6 : v = .int ((cs.length + (x2.2.map pLk).length : Nat) : Int) := r6
      have hlen : cs.length + (x2.2.map pLk).length = (cs ++ x2.2).length := by rw [List.length_append, List.length_map]
      rw [hlen] at r6
      subst r6
      refine ⟨G6, s5.a.trans s6.a, s6.b, ((sF.trans s5).ext e3).trans s6, _, _, cs ++ x2.2, rfl, ?_, fun c hc => ?_⟩
      · have e1 : ends (cs ++ x2.2) = ends cs ++ ends x2.2 := by
          unfold ends
          rw [List.flatMap_append]
        rw [e1]
        refine List.nodup_append.mpr ⟨hnd, h2, fun a ha b hb eab => ?_⟩
        obtain ⟨c, hc, hca⟩ := mem_ends.mp ha
        obtain ⟨c2, hc2, hcb⟩ := mem_ends.mp hb
        obtain ⟨d', hd', _, _, p⟩ := hcs c hc
        have p2 := h1 c2 hc2
        have j1 : l.evJ a = d'.1 := by
          rcases hca with w | w
          · rw [w]; exact p.2.2.2.1
          · rw [w]; exact p.2.2.2.2.1
        have j2 : l.evJ b = d.1 := by
          rcases hcb with w | w
          · rw [w]; exact p2.2.2.2.1
          · rw [w]; exact p2.2.2.2.2.1
        rw [eab, j2] at j1
        exact hnew d' hd' j1.symm
      · rw [htk]
        rcases List.mem_append.mp hc with w | w
        · obtain ⟨d', hd', q1⟩ := hcs c w
          exact ⟨d', List.mem_append_left _ hd', q1⟩
        · exact ⟨d, by simp, z1, z2, h1 c w⟩
    · refine ⟨F', s5.a, s5.b.trans e3, (sF.trans s5).ext e3, _, _, cs, rfl, hnd, fun c hc => ?_⟩
      obtain ⟨d', hd', q1⟩ := hcs c hc
      exact ⟨d', by rw [htk]; exact List.mem_append_left _ hd', q1⟩
  rintro σ' F F1 eF eF1 ⟨sF, x, y, cs, rfl, hnd, hcs⟩
  have nTF : NoT F := fun b ps z => nT4 b ps (sF.e b ps z)
  have hTF : Tabs T F1 := hT4.ext (e6.trans sF.c)
  have rl5 := (pLog CL l).mono sF.a rl4
  refine q_asg sF.b (ev_call l (ea_one (ev_var rl5)) ⟨hl, hev⟩) fun vR G6 A6 s6 r6 => ?_
  obtain ⟨rs, hrs, rR⟩ := r6
  have hrs : RgEnd (okS l) (expl (mkCase l [] [] none)) rs := hrs
  have nT6 : NoT G6 := fun b ps z => nTF b ps (s6.e b ps z)
  have rl6 := (pLog CL l).mono s6.a rl5
  refine q_callT l s6.b nT6 (hTF.ext s6.c) (ea_one (ev_var rl6)) (ds := [pNo]) (fun _ => (⟨rfl, True.intro⟩ : pNo.p _ V.non ∧ True)) rfl ⟨hl, hev⟩ fun vS G7 A7 e7 a7 nT7 hT7 rS => ?_
  have rl7 := (pLog CL l).mono e7 rl6
  have rR7 := (pL (rs.map pLks)).mono e7 rR
  have hS1 : ∀ row ∈ leastLists l.answers (fun M => expl (mkCase l M [] none)), cs.length ≤ row.length ∧ rs.length ≤ row.length := fun row hrow => by
    have ho := strikes_ok hrow
    refine ⟨pair_len hnd fun c hc => ?_, hrs.2 row ho⟩
    obtain ⟨d, hd, h1, h2, h3⟩ := hcs c hc
    have hd := List.mem_of_mem_take hd
    exact pair_hit hl h2 (List.mem_map.mpr ⟨d, hd, rfl⟩) (by rw [driftOf_eq hl hd]; exact h1) h3 ho
  have hS2 := least_some (E := fun M => expl (mkCase l M [] none)) (answers_asc l) (strikes_full l)
  have hS3 : leastLists l.answers (fun M => expl (mkCase l M [] none)) = [[]] ↔ rs = [] := by
    rw [least_nil]
    exact hrs.1.symm
  have hS4 : (leastLists l.answers (fun M => expl (mkCase l M [] none))).length ≤ 11264 := by
    have h1 := leastTo_len (answers_asc l) (Nat.le_trans l.answers_len hev) (fun M => expl (mkCase l M [] none)) (l.answers.length + 1)
    have h2 : (l.answers.length + 1) * 1024 ≤ 11 * 1024 := Nat.mul_le_mul_right _ (by have := l.answers_len; omega)
    exact Nat.le_trans h1 h2
  generalize leastLists l.answers (fun M => expl (mkCase l M [] none)) = L at rS hS1 hS2 hS3 hS4
  have hSb : decide (L = [[]]) = decide (rs.length = 0) := dec_eq (hS3.trans len0.symm)
  refine q_ifN a7 (et_or (a := false) (b := false) ((et_test (ev_eq (x := .int (L.length : Int)) (y := .int 0) ((ev_len (ev_var rS)).eq (by simp)) ev_c rfl)).eq ?_) fun _ => et_or (a := false) (b := false) ((et_B (ev_any (K := K) (bs := L.map fun row => decide (row.length < max cs.length rs.length)) (Ev.imp (ev_lcA (as := L) (f := pNs) (h := fun row => pB (decide (row.length < max cs.length rs.length))) (ei_list (ev_var rS)) (by omega) fun row v G8 hrow eG rv => ⟨_, bnd_name, rfl, (ev_I0 (i := (row.length : Int)) (j := ((max cs.length rs.length : Nat) : Int)) ((ev_len (ev_var rv)).eq (by simp)) (ev_max2 (ev_var (R := pN cs.length) rfl) ((ev_len (ev_var ((pL (rs.map pLks)).mono eG rR7))).eq (by simp)))).eq (by simp)⟩) fun H' v _ r => by rw [List.map_map]; exact r))).eq ?_)
    fun _ => (et_test (ev_ne (x := .bl (decide (L = [[]]))) (y := .bl (decide (rs.length = 0))) (ev_isNil1 (ev_var rS)) ((ev_eq (x := .int (rs.length : Int)) (y := .int 0) ((ev_len (ev_var rR7)).eq (by simp)) ev_c rfl).eq (by simp)) rfl)).eq ?_) fun A8 e8 => ?_
  · have := List.length_pos_iff.mpr hS2
    exact decide_eq_false fun z => by injection z; omega
  · exact any_no fun row hrow => decide_eq_false (by have := hS1 row hrow; omega)
  · rw [hSb]
    simp
  refine q_asg (a7.trans e8) (ev_call l (ea_one (ev_var rl7)) ⟨hl, hev⟩) fun vP G9 A9 s9 r9 => ?_
  obtain ⟨ts, hts, rP⟩ := r9
  have hts : RgEnd (okR l) (expl (mkCase l [] [] none)) ts := hts
  have nT9 : NoT G9 := fun b ps z => nT7 b ps (s9.e b ps z)
  have rl9 := (pLog CL l).mono s9.a rl7
  refine q_callT l s9.b nT9 (hT7.ext (e8.trans s9.c)) (ea_one (ev_var rl9)) (ds := []) (fun _ => True.intro) rfl ⟨hl, hev⟩ fun vQ GB AB eB aB nTB hTB rQ => ?_
  have rlB := (pLog CL l).mono eB rl9
  have rPB := (pL (ts.map pLks)).mono eB rP
  have rRB := (pL (rs.map pLks)).mono (s9.a.trans eB) rR7
  have hra : ∀ p ∈ l.resetPlaces, l.isAns p = true := fun p hp => ((mem_reset hl).mp hp).1
  have hrl : l.resetPlaces.length ≤ 10 := Nat.le_trans (asc_len (resetPlaces_asc hl) hra) hev
  have hQ1 : ∀ row ∈ leastLists l.resetPlaces (fun M => expl (mkCase l [] M none)), ts.length ≤ row.length := fun row hrow => hts.2 row (resets_ok hrow)
  have hQ2 := least_some (E := fun M => expl (mkCase l [] M none)) (resetPlaces_asc hl) (resets_full hl)
  have hQ3 : leastLists l.resetPlaces (fun M => expl (mkCase l [] M none)) = [[]] ↔ ts = [] := by
    rw [least_nil]
    exact hts.1.symm
  have hQ4 : (leastLists l.resetPlaces (fun M => expl (mkCase l [] M none))).length ≤ 11264 := by
    have h1 := leastTo_len (resetPlaces_asc hl) hrl (fun M => expl (mkCase l [] M none)) (l.resetPlaces.length + 1)
    have h2 : (l.resetPlaces.length + 1) * 1024 ≤ 11 * 1024 := Nat.mul_le_mul_right _ (by omega)
    exact Nat.le_trans h1 h2
  generalize leastLists l.resetPlaces (fun M => expl (mkCase l [] M none)) = L2 at rQ hQ1 hQ2 hQ3 hQ4
  have hQb : decide (L2 = [[]]) = decide (ts.length = 0) := dec_eq (hQ3.trans len0.symm)
  refine q_ifN aB (et_or (a := false) (b := false) ((et_test (ev_eq (x := .int (L2.length : Int)) (y := .int 0) ((ev_len (ev_var rQ)).eq (by simp)) ev_c rfl)).eq ?_) fun _ => et_or (a := false) (b := false) ((et_B (ev_any (K := K) (bs := L2.map fun row => decide (row.length < ts.length)) (Ev.imp (ev_lcA (as := L2) (f := pNs) (h := fun row => pB (decide (row.length < ts.length))) (ei_list (ev_var rQ)) (by omega) fun row v G8 hrow eG rv => ⟨_, bnd_name, rfl, (ev_I0 (i := (row.length : Int)) (j := (ts.length : Int)) ((ev_len (ev_var rv)).eq (by simp)) ((ev_len (ev_var ((pL (ts.map pLks)).mono eG rPB))).eq (by simp))).eq (by simp)⟩) fun H' v _ r => by rw [List.map_map]; exact r))).eq ?_)
    fun _ => (et_test (ev_ne (x := .bl (decide (L2 = [[]]))) (y := .bl (decide (ts.length = 0))) (ev_isNil1 (ev_var rQ)) ((ev_eq (x := .int (ts.length : Int)) (y := .int 0) ((ev_len (ev_var rPB)).eq (by simp)) ev_c rfl).eq (by simp)) rfl)).eq ?_) fun AC eC => ?_
  · have := List.length_pos_iff.mpr hQ2
    exact decide_eq_false fun z => by injection z; omega
  · exact any_no fun row hrow => decide_eq_false (by have := hQ1 row hrow; omega)
  · rw [hQb]
    simp
  have hb1 : expl (mkCase l [] [] none) = decide (rs.length = 0) := by
    by_cases hc : rs = []
    · rw [hrs.1.mp hc, hc]
      rfl
    · rw [decide_eq_false (fun z => hc (len0.mp z))]
      cases e : expl (mkCase l [] [] none) with
      | false => rfl
      | true => exact absurd (hrs.1.mpr e) hc
  have hb2 : decide (rs.length = 0) = decide (ts.length = 0) := dec_eq (by rw [len0, len0, hrs.1, hts.1])
  refine s_ret (R := pB true) (aB.trans eC) ((ev_andV (a := true) (b := true) ((ev_eq (x := .bl (expl (mkCase l [] [] none))) (y := .bl (decide (rs.length = 0))) (ev_isN (ev_meth (as := []) (mkCase l [] [] none) (ev_case (ev_var rlB) hl) (case_ins rfl) ea_nil rfl (mk_ok hl _ _ _)) fun H' v _ r => ring_none_iff r) ((ev_eq (x := .int (rs.length : Int)) (y := .int 0) ((ev_len (ev_var rRB)).eq (by simp)) ev_c rfl).eq (by simp)) rfl).eq ?_)
    fun _ => (ev_eq (x := .bl (decide (rs.length = 0))) (y := .bl (decide (ts.length = 0))) ((ev_eq (x := .int (rs.length : Int)) (y := .int 0) ((ev_len (ev_var rRB)).eq (by simp)) ev_c rfl).eq (by simp)) ((ev_eq (x := .int (ts.length : Int)) (y := .int 0) ((ev_len (ev_var rPB)).eq (by simp)) ev_c rfl).eq (by simp)) rfl).eq ?_).eq rfl) (ret_of nTB (hTB.ext eC) fun v G' H2 a b c d r => q v G' H2 (((((((s13.a.trans e4).trans sF.a).trans s6.a).trans e7).trans s9.a).trans eB).trans a) b c d r)
  · rw [hb1]
    simp
  · rw [hb2]
    simp
end
end Rb
set_option Elab.async false
set_option linter.all false
set_option maxRecDepth 100000
set_option maxHeartbeats 3200000
/-! The head's hook: hookX and the properties' getters. -/
namespace Rb
open PySem PySem.Spec PyProof.Rows L2
structure GD where
  C : Str
  x : Str
  qual : Str
  st : Stmt
def pAd (K : PySem.W.Frag) (d : GD) : Addr := match PySem.W.findIn K (.ref (He.ga K d.C)) d.x with
  | some (some (.ref a)) => a
  | _ => 0
def gAd (K : PySem.W.Frag) (d : GD) : Addr := match PySem.W.recIn K (pAd K d) "property" with
  | some (.ref g :: _) => g
  | _ => 0
def isG (K : PySem.W.Frag) (d : GD) : Bool := match PySem.W.recIn K (pAd K d) "property" with
  | some (.ref _ :: _) => true
  | _ => false
def fnWg (K : PySem.W.Frag) (d : GD) : He.FnW := match K.lookup (gAd K d) with
  | some ⟨_, _, .func fd, _⟩ => some (fd.name, fd.qualname, fd.params, fd.body, fd.scope, fd.globals, fd.closure, fd.builtins)
  | _ => none
def GD.val (d : GD) : He.FnW := some (d.x, d.qual, defArgs d.st, .stmts (defBody d.st), defScope d.st, mainGlobals, [], builtinsNs)
def GD.ok (K : PySem.W.Frag) (d : GD) : Bool := He.eqO (PySem.W.findIn K (.ref (He.ga K d.C)) d.x) (some (some (.ref (pAd K d)))) && (He.eqO (PySem.W.specialIn K (.ref (pAd K d)) "__get__") (some (some (.builtin "property.__get__"))) && (decide (PySem.W.takesIn K (.ref (pAd K d)) = some true) && (isG K d && (PySem.W.keepIn K (.ref (gAd K d)) && (match K.lookup (gAd K d) with
  | some ⟨_, _, .func fd, _⟩ => PySem.W.codeIn K fd.code d.qual && (He.dflB K fd.defaults [] && He.kwdB K fd.kwdefaults [])
  | _ => false)))))
theorem GD.dg {K : PySem.W.Frag} {d : GD} (e : fnWg K d = d.val) (c : d.ok K = true) : Dg K (He.ga K d.C) d.x d.qual d.st := by
  obtain ⟨c1, c⟩ := He.ba c
  obtain ⟨c2, c⟩ := He.ba c
  obtain ⟨c3, c⟩ := He.ba c
  obtain ⟨c4, c⟩ := He.ba c
  obtain ⟨kp, c⟩ := He.ba c
  have hrec : ∃ rest, PySem.W.recIn K (pAd K d) "property" = some (.ref (gAd K d) :: rest) := by
    unfold isG at c4
    unfold gAd
    split at c4
    · rename_i g rest h
      rw [h]
      exact ⟨rest, rfl⟩
    · cases c4
  have hp : PropOf K (He.ga K d.C) d.x (pAd K d) (gAd K d) := ⟨He.eqO_ok c1, He.eqO_ok c2, of_decide_eq_true c3, hrec⟩
  have hF : ∃ fd, FunD K d.x d.qual (defArgs d.st) (defBody d.st) (defScope d.st) [] [] (gAd K d) fd := by
    unfold fnWg at e
    cases q : K.lookup (gAd K d) with
    | none =>
      rw [q] at c
      cases c
    | some o =>
      obtain ⟨oc, od, dt, osl⟩ := o
      rw [q] at c e
      cases dt with
      | func fd =>
        obtain ⟨n1, n2, n3, n4, n5, n6, n7, n8, n9, n10, n11, n12, n13, n14, n15⟩ := fd
        have e2 : (some (n1, n2, n3, n4, n5, n6, n7, n15) : He.FnW) = some (d.x, d.qual, defArgs d.st, .stmts (defBody d.st), defScope d.st, mainGlobals, [], builtinsNs) := e
        simp only [Option.some.injEq, Prod.mk.injEq] at e2
        obtain ⟨h1, h2, h3, h4, h5, h6, h7, h8⟩ := e2
        subst h1 h2 h3 h4 h5 h6 h7 h8
        have c3 : (PySem.W.codeIn K n13 d.qual && (He.dflB K n8 [] && He.kwdB K n9 [])) = true := c
        obtain ⟨k1, k2⟩ := He.ba c3
        obtain ⟨k3, k4⟩ := He.ba k2
        exact ⟨_, ⟨oc, od, n8, n9, n10, n11, n12, n13, n14, osl, rfl, q, k1, He.dflB_ok k3, He.kwdB_ok k4⟩, kp⟩
      | _ => cases c
  obtain ⟨fd, F⟩ := hF
  exact ⟨_, _, fd, F, hp⟩
end Rb
set_option Elab.async false
set_option linter.all false
set_option maxRecDepth 100000
set_option maxHeartbeats 0
/-! The head's data and run. -/
namespace Rb
open PySem PySem.Spec PyProof.Rows L2
abbrev s_law0 : Stmt := s_law
def d_is_name : He.DefD := ⟨("is_name", none), "is_name", "is_name", defArgs s_is_name, defBody s_is_name, defScope s_is_name, [], []⟩
def d_is_drift : He.DefD := ⟨("is_drift", none), "is_drift", "is_drift", defArgs s_is_drift, defBody s_is_drift, defScope s_is_drift, [], []⟩
def d_are_names : He.DefD := ⟨("are_names", none), "are_names", "are_names", defArgs s_are_names, defBody s_are_names, defScope s_are_names, [], []⟩
def d_is_event : He.DefD := ⟨("is_event", none), "is_event", "is_event", defArgs s_is_event, defBody s_is_event, defScope s_is_event, [], []⟩
def d_is_first : He.DefD := ⟨("is_first", none), "is_first", "is_first", defArgs s_is_first, defBody s_is_first, defScope s_is_first, [], []⟩
def d_check_drifts : He.DefD := ⟨("check_drifts", none), "check_drifts", "check_drifts", defArgs s_check_drifts, defBody s_check_drifts, defScope s_check_drifts, [], []⟩
def d_check_answers : He.DefD := ⟨("check_answers", none), "check_answers", "check_answers", defArgs s_check_answers, defBody s_check_answers, defScope s_check_answers, [], []⟩
def d_check_sizes : He.DefD := ⟨("check_sizes", none), "check_sizes", "check_sizes", defArgs s_check_sizes, defBody s_check_sizes, defScope s_check_sizes, [], []⟩
def d_between : He.DefD := ⟨("between", none), "between", "between", defArgs s_between, defBody s_between, defScope s_between, [], []⟩
def d_later_places : He.DefD := ⟨("later_places", none), "later_places", "later_places", defArgs s_later_places, defBody s_later_places, defScope s_later_places, [], []⟩
def d_names_of : He.DefD := ⟨("names_of", none), "names_of", "names_of", defArgs s_names_of, defBody s_names_of, defScope s_names_of, [], []⟩
def d_move_places : He.DefD := ⟨("move_places", none), "move_places", "move_places", defArgs s_move_places, defBody s_move_places, defScope s_move_places, [], []⟩
def d_reset_places : He.DefD := ⟨("reset_places", none), "reset_places", "reset_places", defArgs s_reset_places, defBody s_reset_places, defScope s_reset_places, [], []⟩
def d_check_drifting : He.DefD := ⟨("check_drifting", none), "check_drifting", "check_drifting", defArgs s_check_drifting, defBody s_check_drifting, defScope s_check_drifting, [], []⟩
def d_held_at : He.DefD := ⟨("held_at", none), "held_at", "held_at", defArgs s_held_at, defBody s_held_at, defScope s_held_at, [], []⟩
def d_lists_of : He.DefD := ⟨("lists_of", none), "lists_of", "lists_of", defArgs s_lists_of, defBody s_lists_of, defScope s_lists_of, [], []⟩
def d_crossings : He.DefD := ⟨("crossings", none), "crossings", "crossings", defArgs s_crossings, defBody s_crossings, defScope s_crossings, [], []⟩
def d_crossings_apart : He.DefD := ⟨("crossings_apart", none), "crossings_apart", "crossings_apart", defArgs s_crossings_apart, defBody s_crossings_apart, defScope s_crossings_apart, [], []⟩
def d_strikes_in : He.DefD := ⟨("strikes_in", none), "strikes_in", "strikes_in", defArgs s_strikes_in, defBody s_strikes_in, defScope s_strikes_in, [], []⟩
def d_pairs_in : He.DefD := ⟨("pairs_in", none), "pairs_in", "pairs_in", defArgs s_pairs_in, defBody s_pairs_in, defScope s_pairs_in, [], []⟩
def d_fewest_strikes : He.DefD := ⟨("fewest_strikes", none), "fewest_strikes", "fewest_strikes", defArgs s_fewest_strikes, defBody s_fewest_strikes, defScope s_fewest_strikes, [], []⟩
def d_rings_apart : He.DefD := ⟨("rings_apart", none), "rings_apart", "rings_apart", defArgs s_rings_apart, defBody s_rings_apart, defScope s_rings_apart, [], []⟩
def d_rings_for_resets : He.DefD := ⟨("rings_for_resets", none), "rings_for_resets", "rings_for_resets", defArgs s_rings_for_resets, defBody s_rings_for_resets, defScope s_rings_for_resets, [], []⟩
def d_rings_for_moves : He.DefD := ⟨("rings_for_moves", none), "rings_for_moves", "rings_for_moves", defArgs s_rings_for_moves, defBody s_rings_for_moves, defScope s_rings_for_moves, [], []⟩
def d_least_lists : He.DefD := ⟨("least_lists", none), "least_lists", "least_lists", defArgs s_least_lists, defBody s_least_lists, defScope s_least_lists, [], []⟩
def d__law_row : He.DefD := ⟨("_law_row", none), "_law_row", "_law_row", defArgs s__law_row, defBody s__law_row, defScope s__law_row, [], []⟩
def d__law_numbers : He.DefD := ⟨("_law_numbers", none), "_law_numbers", "_law_numbers", defArgs s__law_numbers, defBody s__law_numbers, defScope s__law_numbers, [], []⟩
def d__law_log : He.DefD := ⟨("_law_log", none), "_law_log", "_law_log", defArgs s__law_log, defBody s__law_log, defScope s__law_log, [], []⟩
def d__law_made : He.DefD := ⟨("_law_made", none), "_law_made", "_law_made", defArgs s__law_made, defBody s__law_made, defScope s__law_made, [], []⟩
def d__law_moves_right : He.DefD := ⟨("_law_moves_right", none), "_law_moves_right", "_law_moves_right", defArgs s__law_moves_right, defBody s__law_moves_right, defScope s__law_moves_right, [], []⟩
def d_nearest : He.DefD := ⟨("nearest", none), "nearest", "nearest", defArgs s_nearest, defBody s_nearest, defScope s_nearest, [], []⟩
def d_least_resets : He.DefD := ⟨("least_resets", none), "least_resets", "least_resets", defArgs s_least_resets, defBody s_least_resets, defScope s_least_resets, [], []⟩
def d_least_strikes : He.DefD := ⟨("least_strikes", none), "least_strikes", "least_strikes", defArgs s_least_strikes, defBody s_least_strikes, defScope s_least_strikes, [], [("places", .non)]⟩
def d_least_moves : He.DefD := ⟨("least_moves", none), "least_moves", "least_moves", defArgs s_least_moves, defBody s_least_moves, defScope s_least_moves, [], [("judge", .non)]⟩
def d_law : He.DefD := ⟨("law", none), "law", "law", defArgs s_law, defBody s_law, defScope s_law, [], []⟩
def d_Case__first_way : He.DefD := ⟨("Case", some "_first_way"), "_first_way", "Case._first_way", defArgs s_Case__first_way, defBody s_Case__first_way, defScope s_Case__first_way, [], []⟩
def d_Case__edges : He.DefD := ⟨("Case", some "_edges"), "_edges", "Case._edges", defArgs s_Case__edges, defBody s_Case__edges, defScope s_Case__edges, [], []⟩
def d_Case_is_explained : He.DefD := ⟨("Case", some "is_explained"), "is_explained", "Case.is_explained", defArgs s_Case_is_explained, defBody s_Case_is_explained, defScope s_Case_is_explained, [], []⟩
def d_Case_ring : He.DefD := ⟨("Case", some "ring"), "ring", "Case.ring", defArgs s_Case_ring, defBody s_Case_ring, defScope s_Case_ring, [], []⟩
def d_Case__gather : He.DefD := ⟨("Case", some "_gather"), "_gather", "Case._gather", defArgs s_Case__gather, defBody s_Case__gather, defScope s_Case__gather, [], []⟩
def d_Log_drift_of : He.DefD := ⟨("Log", some "drift_of"), "drift_of", "Log.drift_of", defArgs s_Log_drift_of, defBody s_Log_drift_of, defScope s_Log_drift_of, [], []⟩
def d_Log_is_answer : He.DefD := ⟨("Log", some "is_answer"), "is_answer", "Log.is_answer", defArgs s_Log_is_answer, defBody s_Log_is_answer, defScope s_Log_is_answer, [], []⟩
def d_Log_answers : He.DefD := ⟨("Log", some "answers"), "answers", "Log.answers", defArgs s_Log_answers, defBody s_Log_answers, defScope s_Log_answers, [], []⟩
def d_Log_answers_of : He.DefD := ⟨("Log", some "answers_of"), "answers_of", "Log.answers_of", defArgs s_Log_answers_of, defBody s_Log_answers_of, defScope s_Log_answers_of, [], []⟩
def d_Log_answer_at : He.DefD := ⟨("Log", some "answer_at"), "answer_at", "Log.answer_at", defArgs s_Log_answer_at, defBody s_Log_answer_at, defScope s_Log_answer_at, [], []⟩
def d_Log_judge_at : He.DefD := ⟨("Log", some "judge_at"), "judge_at", "Log.judge_at", defArgs s_Log_judge_at, defBody s_Log_judge_at, defScope s_Log_judge_at, [], []⟩
def d_Log_item_at : He.DefD := ⟨("Log", some "item_at"), "item_at", "Log.item_at", defArgs s_Log_item_at, defBody s_Log_item_at, defScope s_Log_item_at, [], []⟩
def d_Log_grade_at : He.DefD := ⟨("Log", some "grade_at"), "grade_at", "Log.grade_at", defArgs s_Log_grade_at, defBody s_Log_grade_at, defScope s_Log_grade_at, [], []⟩
def d_Log_span_at : He.DefD := ⟨("Log", some "span_at"), "span_at", "Log.span_at", defArgs s_Log_span_at, defBody s_Log_span_at, defScope s_Log_span_at, [], []⟩
def d_Log_stretch_at : He.DefD := ⟨("Log", some "stretch_at"), "stretch_at", "Log.stretch_at", defArgs s_Log_stretch_at, defBody s_Log_stretch_at, defScope s_Log_stretch_at, [], []⟩
def d_Log_stretch_of : He.DefD := ⟨("Log", some "stretch_of"), "stretch_of", "Log.stretch_of", defArgs s_Log_stretch_of, defBody s_Log_stretch_of, defScope s_Log_stretch_of, [], []⟩
def d_Log_stretches : He.DefD := ⟨("Log", some "stretches"), "stretches", "Log.stretches", defArgs s_Log_stretches, defBody s_Log_stretches, defScope s_Log_stretches, [], []⟩
def d_Case__check : He.DefD := ⟨("Case", some "_check"), "_check", "Case._check", defArgs s_Case__check, defBody s_Case__check, defScope s_Case__check, [], []⟩
def d_Case__are_together : He.DefD := ⟨("Case", some "_are_together"), "_are_together", "Case._are_together", defArgs s_Case__are_together, defBody s_Case__are_together, defScope s_Case__are_together, [], []⟩
def d_Case__are_in_order : He.DefD := ⟨("Case", some "_are_in_order"), "_are_in_order", "Case._are_in_order", defArgs s_Case__are_in_order, defBody s_Case__are_in_order, defScope s_Case__are_in_order, [], []⟩
def d_Case_in_order : He.DefD := ⟨("Case", some "in_order"), "in_order", "Case.in_order", defArgs s_Case_in_order, defBody s_Case_in_order, defScope s_Case_in_order, [], []⟩
def d_Case__ahead : He.DefD := ⟨("Case", some "_ahead"), "_ahead", "Case._ahead", defArgs s_Case__ahead, defBody s_Case__ahead, defScope s_Case__ahead, [], []⟩
def d_Case_links : He.DefD := ⟨("Case", some "links"), "links", "Case.links", defArgs s_Case_links, defBody s_Case_links, defScope s_Case_links, [], []⟩
def d_Case__depths : He.DefD := ⟨("Case", some "_depths"), "_depths", "Case._depths", defArgs s_Case__depths, defBody s_Case__depths, defScope s_Case__depths, [], []⟩
def d_Case__way_on : He.DefD := ⟨("Case", some "_way_on"), "_way_on", "Case._way_on", defArgs s_Case__way_on, defBody s_Case__way_on, defScope s_Case__way_on, [], []⟩
def d_Log_init : He.DefD := ⟨("Log", some "__init__"), "__init__", "Log.__init__", defArgs s_Log___init__, defBody s_Log___init__, defScope s_Log___init__, [], []⟩
def d_Case_init : He.DefD := ⟨("Case", some "__init__"), "__init__", "Case.__init__", defArgs s_Case_init, defBody s_Case_init, defScope s_Case_init, [], [("drifts", .non), ("struck", .non), ("resets", .non), ("moves", .non)]⟩
def fn0 : List He.DefD := [d_is_name, d_is_drift, d_are_names, d_is_event, d_is_first, d_check_drifts, d_check_answers, d_check_sizes, d_between, d_later_places, d_names_of, d_move_places, d_reset_places, d_check_drifting, d_held_at, d_lists_of]
def fn1 : List He.DefD := [d_crossings, d_crossings_apart, d_strikes_in, d_pairs_in, d_fewest_strikes, d_rings_apart, d_rings_for_resets, d_rings_for_moves, d_least_lists, d__law_row, d__law_numbers, d__law_log, d__law_made, d__law_moves_right, d_nearest, d_least_resets]
def fn2 : List He.DefD := [d_least_strikes, d_least_moves, d_law, d_Case__first_way, d_Case__edges, d_Case_is_explained, d_Case_ring, d_Case__gather, d_Log_drift_of, d_Log_is_answer, d_Log_answers, d_Log_answers_of, d_Log_answer_at, d_Log_judge_at, d_Log_item_at, d_Log_grade_at]
def fn3 : List He.DefD := [d_Log_span_at, d_Log_stretch_at, d_Log_stretch_of, d_Log_stretches, d_Case__check, d_Case__are_together, d_Case__are_in_order, d_Case_in_order, d_Case__ahead, d_Case_links, d_Case__depths, d_Case__way_on, d_Log_init, d_Case_init]
def fn : List He.DefD := fn0 ++ fn1 ++ fn2 ++ fn3
def fa0 : List He.Fa := [.free "len", .free "range", .free "max", .free "min", .free "sorted", .free "set", .free "all", .free "any", .free "list", .free "dict", .free "int", .free "abs", .free "enumerate", .str "LETTERS" "abcdefghijklmnopqrstuvwxyz0123456789", .str "RISES" "rises", .str "FALLS" "falls", .str "STAYS" "stays", .str "ANSWER" "answer", .str "RESET" "reset", .int "MOST_ITEMS" 20]
def fa1 : List He.Fa := [.int "MOST_JUDGES" 8, .int "MOST_EVENTS" 120, .int "MOST_GRADE" 9, .int "MOST_PLACES" 10, .int "MOST_ANSWERS" 40, .glo "Log", .glo "Case", .glo "law", .glo "is_name", .glo "is_drift", .glo "are_names", .glo "is_event", .glo "is_first", .glo "check_drifts", .glo "check_answers", .glo "check_sizes", .glo "between", .glo "later_places", .glo "names_of", .glo "move_places"]
def fa2 : List He.Fa := [.glo "reset_places", .glo "check_drifting", .glo "held_at", .glo "lists_of", .glo "crossings", .glo "crossings_apart", .glo "strikes_in", .glo "pairs_in", .glo "fewest_strikes", .glo "rings_apart", .glo "rings_for_resets", .glo "rings_for_moves", .glo "least_lists", .glo "_law_row", .glo "_law_numbers", .glo "_law_log", .glo "_law_made", .glo "_law_moves_right", .glo "nearest", .glo "least_resets"]
def fa3 : List He.Fa := [.glo "least_strikes", .glo "least_moves", .cls "Log", .cls "Case", .mkr "Log", .mkr "Case", .noat "Log" "_items", .noat "Log" "_grades", .noat "Log" "_judges", .noat "Log" "_events", .noat "Case" "_items", .noat "Case" "_grades", .noat "Case" "_drifts", .noat "Case" "_told", .noat "Case" "_lots", .meth "Case" "_first_way", .meth "Case" "_edges", .meth "Case" "is_explained", .meth "Case" "ring", .meth "Case" "_gather"]
def fa4 : List He.Fa := [.meth "Log" "drift_of", .meth "Log" "is_answer", .meth "Log" "answers", .meth "Log" "answers_of", .meth "Log" "answer_at", .meth "Log" "judge_at", .meth "Log" "item_at", .meth "Log" "grade_at", .meth "Log" "span_at", .meth "Log" "stretch_at", .meth "Log" "stretch_of", .meth "Log" "stretches", .meth "Case" "_check", .meth "Case" "_are_together", .meth "Case" "_are_in_order", .meth "Case" "in_order", .meth "Case" "_ahead", .meth "Case" "links", .meth "Case" "_depths", .meth "Case" "_way_on"]
def fa : List He.Fa := fa0 ++ fa1 ++ fa2 ++ fa3 ++ fa4
def g_item_names : GD := ⟨"Log", "item_names", "Log.item_names", s_Log_item_names⟩
def g_grades : GD := ⟨"Log", "grades", "Log.grades", s_Log_grades⟩
def g_judges : GD := ⟨"Log", "judges", "Log.judges", s_Log_judges⟩
def g_events : GD := ⟨"Log", "events", "Log.events", s_Log_events⟩
def gs : List GD := [g_item_names, g_grades, g_judges, g_events]
def tf : List He.Defn := [("least_moves", none), ("least_resets", none), ("least_strikes", none)]
/-- the tables of the three defs stand apart -/
def exT (K : PySem.W.Frag) : Bool := decide ((He.cT K ("least_moves", none)).2 ≠ (He.cT K ("least_resets", none)).2) && (decide ((He.cT K ("least_moves", none)).2 ≠ (He.cT K ("least_strikes", none)).2) && decide ((He.cT K ("least_resets", none)).2 ≠ (He.cT K ("least_strikes", none)).2))
/-- what the walks ask of an object: a def's code and defaults, a class's names, a property's getter -/
def reachY (g : Addr → Option Obj) (a : Addr) : List Addr := match g a with
  | some ⟨_, _, .dict es _, _⟩ => es.toList.flatMap fun e => He.refV e.val
  | some ⟨_, _, .func fd, _⟩ => He.refV fd.code ++ (He.refV fd.defaults ++ He.refV fd.kwdefaults)
  | some ⟨_, _, .cls cd, _⟩ => [cd.ns]
  | some ⟨_, _, .fields vs, _⟩ => (match Nat.blt vs.size 12 with
    | true => vs.toList.flatMap He.refV
    | false => [])
  | _ => []
def asY (g : Addr → Option Obj) : Nat → List Addr → List Addr
  | 0, as => as
  | n + 1, as => as ++ asY g n (as.flatMap (reachY g))
def partY (g : Addr → Option Obj) : PySem.W.Frag := He.frT g (asY g 5 [mainGlobals])
abbrev AlY : Type := He.AlT × (Bool × List He.FnW)
def lookY (g : Addr → Option Obj) (K : PySem.W.Frag) : AlY := (He.obsT fa fn [] K, (exT K && (He.tabsB g tf K && gs.all fun d => d.ok K), gs.map fun d => fnWg K d))
theorem saysY {h : Heap} {w : World} (e1 : He.obsT fa fn [] (partY h.get?) = He.valT fn [] w) (e2 : exT (partY h.get?) = true) (e3 : He.tabsB h.get? tf (partY h.get?) = true) : He.SaysX fa fn [] tf exT w h (partY h.get?) := by
  have at_ : ∀ p ∈ tf, PySem.W.codeHdIn (partY h.get?) (He.cT (partY h.get?) p).1 (He.cT (partY h.get?) p).2 = true ∧ ∃ o, h.get? (He.cT (partY h.get?) p).2 = some o ∧ He.emptyTab o = true := fun p hp => by
    obtain ⟨z1, z2⟩ := He.ba (List.all_eq_true.mp e3 p hp)
    cases y : h.get? (He.cT (partY h.get?) p).2 with
    | none =>
      rw [y] at z2
      cases z2
    | some o =>
      rw [y] at z2
      exact ⟨z1, o, rfl, z2⟩
  refine ⟨e1, e2, fun p hp => (at_ p hp).1, fun p hp => ?_, fun p hp => ?_⟩
  · obtain ⟨_, o, y, z⟩ := at_ p hp
    exact He.frT_none y z
  · obtain ⟨_, o, y, z⟩ := at_ p hp
    rw [y, He.emptyTab_eq z]
def hk : PySem.W.Hook where
  α := AlY
  obs := fun s => lookY s.heap.get? (partY s.heap.get?)
  val := fun w => (He.valT fn [] w, (true, gs.map GD.val))
  says := fun w h => ∃ K : PySem.W.Frag, K.In h ∧ He.SaysX fa fn [] tf exT w h K ∧ (gs.all fun d => d.ok K) = true ∧ (gs.map fun d => fnWg K d) = gs.map GD.val
  of := fun _ s e => by
    obtain ⟨e1, e2⟩ := Prod.mk.inj e
    obtain ⟨e3, e4⟩ := Prod.mk.inj e2
    obtain ⟨a, b⟩ := He.ba e3
    obtain ⟨b, c⟩ := He.ba b
    exact ⟨partY s.heap.get?, He.frT_in, saysY e1 a b, c, e4⟩
  keeps := fun _ _ _ ⟨K, hK, c, d⟩ k => ⟨K, PySem.W.Frag.In.keeps hK k, ⟨c.t, c.more, c.hd, c.out, fun p hp => k _ _ (c.empty p hp)⟩, d⟩
theorem lookY_eq {g : Addr → Option Obj} {s : Shared} (h : ∀ a, g a = s.heap.get? a) : lookY g (partY g) = hk.obs s := by
  have e : g = s.heap.get? := funext h
  rw [e]
  rfl
abbrev hR : PySem.W.OpenRow := PySem.W.OpenLaw.row PySem.Challenge.rw_risingbars_k77_whole_bounds_of_changes
abbrev hq : Program := PySem.W.view hR.prog [66]
def hob (s : PySem.W.SharedT) : AlY := lookY (HandSHeadRun.getT s) (partY (HandSHeadRun.getT s))
theorem hob_eq (s : PySem.W.SharedT) : hob s = hk.obs s.abs := lookY_eq (HandSHeadRun.getT_eq s)
def hn1 : List PySem.Str := ["_wall", "BarError", "InvalidLog", "InvalidDrift", "Unexplained", "NotYesAndNo", "TooLarge", "UnknownJudge", "InvalidPlace", "LETTERS", "RISES", "FALLS"]
def hn2 : List PySem.Str := ["STAYS", "ANSWER", "RESET", "MOST_ITEMS", "MOST_JUDGES", "MOST_EVENTS", "MOST_GRADE", "is_name", "is_drift", "are_names", "is_event", "is_first"]
def hn3 : List PySem.Str := ["Log", "check_drifts", "check_answers", "nearest", "Case", "MOST_PLACES", "MOST_ANSWERS", "check_sizes", "lists_of", "least_lists", "between", "later_places"]
def hn4 : List PySem.Str := ["move_places", "crossings", "crossings_apart", "check_drifting", "held_at", "rings_for_moves", "least_moves", "names_of", "reset_places", "rings_for_resets", "least_resets", "strikes_in"]
def hn5 : List PySem.Str := ["pairs_in", "fewest_strikes", "rings_apart", "least_strikes", "_law_row", "_law_numbers", "_law_log", "_law_made", "_law_places", "_law_moves_right"]
def hnames : List PySem.Str := hn1 ++ (hn2 ++ (hn3 ++ (hn4 ++ hn5)))
theorem opt_two {α β γ δ : Type} {o : Option α} {f : α → β} {g : α → γ} {k : α → δ} {a : β} {b : γ} {c : δ} (h1 : o.map (fun s => (f s, g s)) = some (a, b)) (h2 : o.map k = some c) : o.map (fun s => (f s, g s, k s)) = some (a, b, c) := by
  cases o with
  | none => cases h1
  | some s =>
    obtain ⟨e1, e2⟩ := Prod.mk.inj (Option.some.inj h1)
    have e3 : k s = c := Option.some.inj h2
    show some (f s, g s, k s) = _
    rw [show f s = a from e1, show g s = b from e2, e3]
noncomputable abbrev hend (w : World) (os : OsState) : Option PySem.W.SharedT := HandSHeadRun.endF (HandSHeadRun.stepQ (HandSHeadRun.denQ HandSHeadRun.tabQ) hR.prog w) 6000 hR.prog w os
theorem hrun1 (w : World) (os : OsState) : (hend w os).map (fun s => (HandSHeadRun.looksF hR.prog (PySem.W.boot_heap w.params) s.abs, HandSHeadRun.seenQ hq hnames (importedModules hR.prog.main.body) (fun s => PySem.W.xlAt hq [] s && PySem.W.recOk hR.toRowW.records s) s.abs)) = some (true, PySem.W.openGood hq hnames) := by
  kernel_rfl
theorem hrun2 (w : World) (os : OsState) : (hend w os).map hob = some (hk.val w) := by
  kernel_rfl
theorem hrun (w : World) : HandSHeadRun.RunEq hR hq hk hob 6000 hnames w := fun os => opt_two (hrun1 w os) (hrun2 w os)
end Rb
set_option Elab.async false
set_option linter.all false
set_option maxRecDepth 100000
set_option maxHeartbeats 0
/-! The head's facts, the walks joined. -/
namespace Rb
open PySem PySem.Spec PyProof.Rows L2
theorem dfc_of {K : PySem.W.Frag} {mg : Str → Option Value} {x : Str} {st : Stmt} {dvs : List V} {kws : List (Str × V)} {fd : FuncData} (F : FunD K x x (defArgs st) (defBody st) (defScope st) dvs kws (He.fAd K (x, none)) fd) (hm : mg x = some (.ref (He.ga K x))) :
    DfC K mg x st dvs kws (He.cT K (x, none)).1 := by
  have F' := F
  obtain ⟨oc, od, dV, kV, doc, pm, an, cdv, ct, osl, e, lk, hcd, h1, h2⟩ := F.ex
  obtain ⟨c, ec⟩ := He.codeIn_ref hcd
  have e2 : He.codeOf K (x, none) = c := He.codeOf_eq lk (by rw [e]; exact ec)
  have e3 : (He.cT K (x, none)).1 = c := e2
  rw [e3]
  rw [ec] at e hcd
  exact ⟨_, fd, oc, od, dV, kV, doc, pm, an, ct, osl, e, lk, hcd, F', hm⟩
theorem dg_of {K : PySem.W.Frag} (g1 : (gs.all fun d => d.ok K) = true) (g2 : (gs.map fun d => fnWg K d) = gs.map GD.val) (i : Nat) {d : GD} (h : gs[i]? = some d) : Dg K (He.ga K d.C) d.x d.qual d.st := by
  have e2 : (gs.map fun d => fnWg K d)[i]? = (gs.map GD.val)[i]? := by rw [g2]
  rw [List.getElem?_map, List.getElem?_map, h] at e2
  exact GD.dg (Option.some.inj e2) (List.all_eq_true.mp g1 d (List.mem_of_getElem? h))
/-- the tables and the names that they tell -/
def TT (K : PySem.W.Frag) : List (Addr × Str) := [((He.cT K ("least_moves", none)).2, "least_moves.<locals>.<lambda>"), ((He.cT K ("least_resets", none)).2, "least_resets.<locals>.<lambda>"), ((He.cT K ("least_strikes", none)).2, "least_strikes.<locals>.<lambda>")]
theorem tf_mem (K : PySem.W.Frag) (i : Nat) {p : Addr × Addr} (h : (tf.map (He.cT K))[i]? = some p) : p ∈ tf.map (He.cT K) := List.mem_of_getElem? h
theorem TT_mem (K : PySem.W.Frag) (i : Nat) {p : Addr × Str} (h : (TT K)[i]? = some p) : p ∈ TT K := List.mem_of_getElem? h
theorem TT_tf {K : PySem.W.Frag} {p : Addr × Str} (h : p ∈ TT K) : ∃ q ∈ tf.map (He.cT K), q.2 = p.1 := by
  rcases List.mem_cons.mp h with rfl | h
  · exact ⟨_, tf_mem K 0 rfl, rfl⟩
  rcases List.mem_cons.mp h with rfl | h
  · exact ⟨_, tf_mem K 1 rfl, rfl⟩
  rcases List.mem_cons.mp h with rfl | h
  · exact ⟨_, tf_mem K 2 rfl, rfl⟩
  cases h
/-- the tables stand apart -/
theorem TT_u {K : PySem.W.Frag} (ex : exT K = true) (i : Nat) {P : Addr} {x : Str} (h : (TT K)[i]? = some (P, x)) : ∀ p ∈ TT K, p.1 = P → p.2 = x := by
  obtain ⟨e1, e⟩ := He.ba ex
  obtain ⟨e2, e3⟩ := He.ba e
  have n1 := of_decide_eq_true e1
  have n2 := of_decide_eq_true e2
  have n3 := of_decide_eq_true e3
  intro p hp hz
  unfold TT at h hp
  match i, h with
  | 0, h =>
    cases h
    rcases List.mem_cons.mp hp with rfl | hp
    · rfl
    rcases List.mem_cons.mp hp with rfl | hp
    · exact (n1 hz.symm).elim
    rcases List.mem_cons.mp hp with rfl | hp
    · exact (n2 hz.symm).elim
    cases hp
  | 1, h =>
    cases h
    rcases List.mem_cons.mp hp with rfl | hp
    · exact (n1 hz).elim
    rcases List.mem_cons.mp hp with rfl | hp
    · rfl
    rcases List.mem_cons.mp hp with rfl | hp
    · exact (n3 hz.symm).elim
    cases hp
  | 2, h =>
    cases h
    rcases List.mem_cons.mp hp with rfl | hp
    · exact (n2 hz).elim
    rcases List.mem_cons.mp hp with rfl | hp
    · exact (n3 hz).elim
    rcases List.mem_cons.mp hp with rfl | hp
    · rfl
    cases hp
  | n + 3, h => cases h
theorem bz_of {K : PySem.W.Frag} {h : Heap} {mg : Str → Option Value} (X : K.In h) (G : h.Ns mainGlobals mg) (C : He.SaysD fa fn K) : Bz K mg (He.ga K "Log") (He.ga K "Case") :=
  { len := He.free_ok X G (C.fact 0 (f := .free "len") rfl),
    range := He.free_ok X G (C.fact 1 (f := .free "range") rfl),
    max := He.free_ok X G (C.fact 2 (f := .free "max") rfl),
    min := He.free_ok X G (C.fact 3 (f := .free "min") rfl),
    sorted := He.free_ok X G (C.fact 4 (f := .free "sorted") rfl),
    set := He.free_ok X G (C.fact 5 (f := .free "set") rfl),
    all := He.free_ok X G (C.fact 6 (f := .free "all") rfl),
    any := He.free_ok X G (C.fact 7 (f := .free "any") rfl),
    list := He.free_ok X G (C.fact 8 (f := .free "list") rfl),
    dict := He.free_ok X G (C.fact 9 (f := .free "dict") rfl),
    int := He.free_ok X G (C.fact 10 (f := .free "int") rfl),
    abs := He.free_ok X G (C.fact 11 (f := .free "abs") rfl),
    enumerate := He.free_ok X G (C.fact 12 (f := .free "enumerate") rfl),
    LETTERS := He.str_ok X G (C.fact 13 (f := .str "LETTERS" "abcdefghijklmnopqrstuvwxyz0123456789") rfl),
    RISES := He.str_ok X G (C.fact 14 (f := .str "RISES" "rises") rfl),
    FALLS := He.str_ok X G (C.fact 15 (f := .str "FALLS" "falls") rfl),
    STAYS := He.str_ok X G (C.fact 16 (f := .str "STAYS" "stays") rfl),
    ANSWER := He.str_ok X G (C.fact 17 (f := .str "ANSWER" "answer") rfl),
    RESET := He.str_ok X G (C.fact 18 (f := .str "RESET" "reset") rfl),
    MOST_ITEMS := He.int_ok X G (C.fact 19 (f := .int "MOST_ITEMS" 20) rfl),
    MOST_JUDGES := He.int_ok X G (C.fact 20 (f := .int "MOST_JUDGES" 8) rfl),
    MOST_EVENTS := He.int_ok X G (C.fact 21 (f := .int "MOST_EVENTS" 120) rfl),
    MOST_GRADE := He.int_ok X G (C.fact 22 (f := .int "MOST_GRADE" 9) rfl),
    MOST_PLACES := He.int_ok X G (C.fact 23 (f := .int "MOST_PLACES" 10) rfl),
    MOST_ANSWERS := He.int_ok X G (C.fact 24 (f := .int "MOST_ANSWERS" 40) rfl),
    Log := He.glo_ok X G (C.fact 25 (f := .glo "Log") rfl),
    Case := He.glo_ok X G (C.fact 26 (f := .glo "Case") rfl),
    c_Log := He.cls_ok (C.fact 62 (f := .cls "Log") rfl),
    c_Case := He.cls_ok (C.fact 63 (f := .cls "Case") rfl),
    l_items := He.noat_ok (C.fact 66 (f := .noat "Log" "_items") rfl),
    l_grades := He.noat_ok (C.fact 67 (f := .noat "Log" "_grades") rfl),
    l_judges := He.noat_ok (C.fact 68 (f := .noat "Log" "_judges") rfl),
    l_events := He.noat_ok (C.fact 69 (f := .noat "Log" "_events") rfl),
    c_items := He.noat_ok (C.fact 70 (f := .noat "Case" "_items") rfl),
    c_grades := He.noat_ok (C.fact 71 (f := .noat "Case" "_grades") rfl),
    c_drifts := He.noat_ok (C.fact 72 (f := .noat "Case" "_drifts") rfl),
    c_told := He.noat_ok (C.fact 73 (f := .noat "Case" "_told") rfl),
    c_lots := He.noat_ok (C.fact 74 (f := .noat "Case" "_lots") rfl) }
theorem D_is_name {K : PySem.W.Frag} {h : Heap} {mg : Str → Option Value} (X : K.In h) (G : h.Ns mainGlobals mg) (C : He.SaysD fa fn K) : Df K mg "is_name" s_is_name [] [] := by
  obtain ⟨fd, F⟩ := C.def_ 0 (d := d_is_name) rfl
  exact ⟨_, fd, F, He.glo_ok X G (C.fact 28 (f := .glo "is_name") rfl)⟩
theorem D_is_drift {K : PySem.W.Frag} {h : Heap} {mg : Str → Option Value} (X : K.In h) (G : h.Ns mainGlobals mg) (C : He.SaysD fa fn K) : Df K mg "is_drift" s_is_drift [] [] := by
  obtain ⟨fd, F⟩ := C.def_ 1 (d := d_is_drift) rfl
  exact ⟨_, fd, F, He.glo_ok X G (C.fact 29 (f := .glo "is_drift") rfl)⟩
theorem D_are_names {K : PySem.W.Frag} {h : Heap} {mg : Str → Option Value} (X : K.In h) (G : h.Ns mainGlobals mg) (C : He.SaysD fa fn K) : Df K mg "are_names" s_are_names [] [] := by
  obtain ⟨fd, F⟩ := C.def_ 2 (d := d_are_names) rfl
  exact ⟨_, fd, F, He.glo_ok X G (C.fact 30 (f := .glo "are_names") rfl)⟩
theorem D_is_event {K : PySem.W.Frag} {h : Heap} {mg : Str → Option Value} (X : K.In h) (G : h.Ns mainGlobals mg) (C : He.SaysD fa fn K) : Df K mg "is_event" s_is_event [] [] := by
  obtain ⟨fd, F⟩ := C.def_ 3 (d := d_is_event) rfl
  exact ⟨_, fd, F, He.glo_ok X G (C.fact 31 (f := .glo "is_event") rfl)⟩
theorem D_is_first {K : PySem.W.Frag} {h : Heap} {mg : Str → Option Value} (X : K.In h) (G : h.Ns mainGlobals mg) (C : He.SaysD fa fn K) : Df K mg "is_first" s_is_first [] [] := by
  obtain ⟨fd, F⟩ := C.def_ 4 (d := d_is_first) rfl
  exact ⟨_, fd, F, He.glo_ok X G (C.fact 32 (f := .glo "is_first") rfl)⟩
theorem D_Log_drift_of {K : PySem.W.Frag} (C : He.SaysD fa fn K) : Dm K (He.ga K "Log") "drift_of" "Log.drift_of" s_Log_drift_of := by
  obtain ⟨fd, F⟩ := C.def_ 40 (d := d_Log_drift_of) rfl
  exact ⟨_, fd, F, He.meth_ok (C.fact 80 (f := .meth "Log" "drift_of") rfl)⟩
theorem D_Log_is_answer {K : PySem.W.Frag} (C : He.SaysD fa fn K) : Dm K (He.ga K "Log") "is_answer" "Log.is_answer" s_Log_is_answer := by
  obtain ⟨fd, F⟩ := C.def_ 41 (d := d_Log_is_answer) rfl
  exact ⟨_, fd, F, He.meth_ok (C.fact 81 (f := .meth "Log" "is_answer") rfl)⟩
theorem D_Log_answers {K : PySem.W.Frag} (C : He.SaysD fa fn K) : Dm K (He.ga K "Log") "answers" "Log.answers" s_Log_answers := by
  obtain ⟨fd, F⟩ := C.def_ 42 (d := d_Log_answers) rfl
  exact ⟨_, fd, F, He.meth_ok (C.fact 82 (f := .meth "Log" "answers") rfl)⟩
theorem D_Log_answers_of {K : PySem.W.Frag} (C : He.SaysD fa fn K) : Dm K (He.ga K "Log") "answers_of" "Log.answers_of" s_Log_answers_of := by
  obtain ⟨fd, F⟩ := C.def_ 43 (d := d_Log_answers_of) rfl
  exact ⟨_, fd, F, He.meth_ok (C.fact 83 (f := .meth "Log" "answers_of") rfl)⟩
theorem D_Log_answer_at {K : PySem.W.Frag} (C : He.SaysD fa fn K) : Dm K (He.ga K "Log") "answer_at" "Log.answer_at" s_Log_answer_at := by
  obtain ⟨fd, F⟩ := C.def_ 44 (d := d_Log_answer_at) rfl
  exact ⟨_, fd, F, He.meth_ok (C.fact 84 (f := .meth "Log" "answer_at") rfl)⟩
theorem D_Log_judge_at {K : PySem.W.Frag} (C : He.SaysD fa fn K) : Dm K (He.ga K "Log") "judge_at" "Log.judge_at" s_Log_judge_at := by
  obtain ⟨fd, F⟩ := C.def_ 45 (d := d_Log_judge_at) rfl
  exact ⟨_, fd, F, He.meth_ok (C.fact 85 (f := .meth "Log" "judge_at") rfl)⟩
theorem D_Log_item_at {K : PySem.W.Frag} (C : He.SaysD fa fn K) : Dm K (He.ga K "Log") "item_at" "Log.item_at" s_Log_item_at := by
  obtain ⟨fd, F⟩ := C.def_ 46 (d := d_Log_item_at) rfl
  exact ⟨_, fd, F, He.meth_ok (C.fact 86 (f := .meth "Log" "item_at") rfl)⟩
theorem D_Log_grade_at {K : PySem.W.Frag} (C : He.SaysD fa fn K) : Dm K (He.ga K "Log") "grade_at" "Log.grade_at" s_Log_grade_at := by
  obtain ⟨fd, F⟩ := C.def_ 47 (d := d_Log_grade_at) rfl
  exact ⟨_, fd, F, He.meth_ok (C.fact 87 (f := .meth "Log" "grade_at") rfl)⟩
theorem D_Log_span_at {K : PySem.W.Frag} (C : He.SaysD fa fn K) : Dm K (He.ga K "Log") "span_at" "Log.span_at" s_Log_span_at := by
  obtain ⟨fd, F⟩ := C.def_ 48 (d := d_Log_span_at) rfl
  exact ⟨_, fd, F, He.meth_ok (C.fact 88 (f := .meth "Log" "span_at") rfl)⟩
theorem D_Log_stretch_at {K : PySem.W.Frag} (C : He.SaysD fa fn K) : Dm K (He.ga K "Log") "stretch_at" "Log.stretch_at" s_Log_stretch_at := by
  obtain ⟨fd, F⟩ := C.def_ 49 (d := d_Log_stretch_at) rfl
  exact ⟨_, fd, F, He.meth_ok (C.fact 89 (f := .meth "Log" "stretch_at") rfl)⟩
theorem D_Log_stretch_of {K : PySem.W.Frag} (C : He.SaysD fa fn K) : Dm K (He.ga K "Log") "stretch_of" "Log.stretch_of" s_Log_stretch_of := by
  obtain ⟨fd, F⟩ := C.def_ 50 (d := d_Log_stretch_of) rfl
  exact ⟨_, fd, F, He.meth_ok (C.fact 90 (f := .meth "Log" "stretch_of") rfl)⟩
theorem D_Log_stretches {K : PySem.W.Frag} (C : He.SaysD fa fn K) : Dm K (He.ga K "Log") "stretches" "Log.stretches" s_Log_stretches := by
  obtain ⟨fd, F⟩ := C.def_ 51 (d := d_Log_stretches) rfl
  exact ⟨_, fd, F, He.meth_ok (C.fact 91 (f := .meth "Log" "stretches") rfl)⟩
theorem D_Case__check {K : PySem.W.Frag} (C : He.SaysD fa fn K) : Dm K (He.ga K "Case") "_check" "Case._check" s_Case__check := by
  obtain ⟨fd, F⟩ := C.def_ 52 (d := d_Case__check) rfl
  exact ⟨_, fd, F, He.meth_ok (C.fact 92 (f := .meth "Case" "_check") rfl)⟩
theorem D_Case__are_together {K : PySem.W.Frag} (C : He.SaysD fa fn K) : Dm K (He.ga K "Case") "_are_together" "Case._are_together" s_Case__are_together := by
  obtain ⟨fd, F⟩ := C.def_ 53 (d := d_Case__are_together) rfl
  exact ⟨_, fd, F, He.meth_ok (C.fact 93 (f := .meth "Case" "_are_together") rfl)⟩
theorem D_Case__are_in_order {K : PySem.W.Frag} (C : He.SaysD fa fn K) : Dm K (He.ga K "Case") "_are_in_order" "Case._are_in_order" s_Case__are_in_order := by
  obtain ⟨fd, F⟩ := C.def_ 54 (d := d_Case__are_in_order) rfl
  exact ⟨_, fd, F, He.meth_ok (C.fact 94 (f := .meth "Case" "_are_in_order") rfl)⟩
theorem D_Case_in_order {K : PySem.W.Frag} (C : He.SaysD fa fn K) : Dm K (He.ga K "Case") "in_order" "Case.in_order" s_Case_in_order := by
  obtain ⟨fd, F⟩ := C.def_ 55 (d := d_Case_in_order) rfl
  exact ⟨_, fd, F, He.meth_ok (C.fact 95 (f := .meth "Case" "in_order") rfl)⟩
theorem D_Case__ahead {K : PySem.W.Frag} (C : He.SaysD fa fn K) : Dm K (He.ga K "Case") "_ahead" "Case._ahead" s_Case__ahead := by
  obtain ⟨fd, F⟩ := C.def_ 56 (d := d_Case__ahead) rfl
  exact ⟨_, fd, F, He.meth_ok (C.fact 96 (f := .meth "Case" "_ahead") rfl)⟩
theorem D_Case_links {K : PySem.W.Frag} (C : He.SaysD fa fn K) : Dm K (He.ga K "Case") "links" "Case.links" s_Case_links := by
  obtain ⟨fd, F⟩ := C.def_ 57 (d := d_Case_links) rfl
  exact ⟨_, fd, F, He.meth_ok (C.fact 97 (f := .meth "Case" "links") rfl)⟩
theorem D_nearest {K : PySem.W.Frag} {h : Heap} {mg : Str → Option Value} (X : K.In h) (G : h.Ns mainGlobals mg) (C : He.SaysD fa fn K) : Df K mg "nearest" s_nearest [] [] := by
  obtain ⟨fd, F⟩ := C.def_ 30 (d := d_nearest) rfl
  exact ⟨_, fd, F, He.glo_ok X G (C.fact 58 (f := .glo "nearest") rfl)⟩
theorem D_Case__depths {K : PySem.W.Frag} (C : He.SaysD fa fn K) : Dm K (He.ga K "Case") "_depths" "Case._depths" s_Case__depths := by
  obtain ⟨fd, F⟩ := C.def_ 58 (d := d_Case__depths) rfl
  exact ⟨_, fd, F, He.meth_ok (C.fact 98 (f := .meth "Case" "_depths") rfl)⟩
theorem D_Case__way_on {K : PySem.W.Frag} (C : He.SaysD fa fn K) : Dm K (He.ga K "Case") "_way_on" "Case._way_on" s_Case__way_on := by
  obtain ⟨fd, F⟩ := C.def_ 59 (d := d_Case__way_on) rfl
  exact ⟨_, fd, F, He.meth_ok (C.fact 99 (f := .meth "Case" "_way_on") rfl)⟩
theorem D_Case__first_way {K : PySem.W.Frag} (C : He.SaysD fa fn K) : Dm K (He.ga K "Case") "_first_way" "Case._first_way" s_Case__first_way := by
  obtain ⟨fd, F⟩ := C.def_ 35 (d := d_Case__first_way) rfl
  exact ⟨_, fd, F, He.meth_ok (C.fact 75 (f := .meth "Case" "_first_way") rfl)⟩
theorem D_Case__edges {K : PySem.W.Frag} (C : He.SaysD fa fn K) : Dm K (He.ga K "Case") "_edges" "Case._edges" s_Case__edges := by
  obtain ⟨fd, F⟩ := C.def_ 36 (d := d_Case__edges) rfl
  exact ⟨_, fd, F, He.meth_ok (C.fact 76 (f := .meth "Case" "_edges") rfl)⟩
theorem D_Case_is_explained {K : PySem.W.Frag} (C : He.SaysD fa fn K) : Dm K (He.ga K "Case") "is_explained" "Case.is_explained" s_Case_is_explained := by
  obtain ⟨fd, F⟩ := C.def_ 37 (d := d_Case_is_explained) rfl
  exact ⟨_, fd, F, He.meth_ok (C.fact 77 (f := .meth "Case" "is_explained") rfl)⟩
theorem D_Case_ring {K : PySem.W.Frag} (C : He.SaysD fa fn K) : Dm K (He.ga K "Case") "ring" "Case.ring" s_Case_ring := by
  obtain ⟨fd, F⟩ := C.def_ 38 (d := d_Case_ring) rfl
  exact ⟨_, fd, F, He.meth_ok (C.fact 78 (f := .meth "Case" "ring") rfl)⟩
theorem D_check_drifts {K : PySem.W.Frag} {h : Heap} {mg : Str → Option Value} (X : K.In h) (G : h.Ns mainGlobals mg) (C : He.SaysD fa fn K) : Df K mg "check_drifts" s_check_drifts [] [] := by
  obtain ⟨fd, F⟩ := C.def_ 5 (d := d_check_drifts) rfl
  exact ⟨_, fd, F, He.glo_ok X G (C.fact 33 (f := .glo "check_drifts") rfl)⟩
theorem D_check_answers {K : PySem.W.Frag} {h : Heap} {mg : Str → Option Value} (X : K.In h) (G : h.Ns mainGlobals mg) (C : He.SaysD fa fn K) : Df K mg "check_answers" s_check_answers [] [] := by
  obtain ⟨fd, F⟩ := C.def_ 6 (d := d_check_answers) rfl
  exact ⟨_, fd, F, He.glo_ok X G (C.fact 34 (f := .glo "check_answers") rfl)⟩
theorem D_Case__gather {K : PySem.W.Frag} (C : He.SaysD fa fn K) : Dm K (He.ga K "Case") "_gather" "Case._gather" s_Case__gather := by
  obtain ⟨fd, F⟩ := C.def_ 39 (d := d_Case__gather) rfl
  exact ⟨_, fd, F, He.meth_ok (C.fact 79 (f := .meth "Case" "_gather") rfl)⟩
theorem D_check_sizes {K : PySem.W.Frag} {h : Heap} {mg : Str → Option Value} (X : K.In h) (G : h.Ns mainGlobals mg) (C : He.SaysD fa fn K) : Df K mg "check_sizes" s_check_sizes [] [] := by
  obtain ⟨fd, F⟩ := C.def_ 7 (d := d_check_sizes) rfl
  exact ⟨_, fd, F, He.glo_ok X G (C.fact 35 (f := .glo "check_sizes") rfl)⟩
theorem D_between {K : PySem.W.Frag} {h : Heap} {mg : Str → Option Value} (X : K.In h) (G : h.Ns mainGlobals mg) (C : He.SaysD fa fn K) : Df K mg "between" s_between [] [] := by
  obtain ⟨fd, F⟩ := C.def_ 8 (d := d_between) rfl
  exact ⟨_, fd, F, He.glo_ok X G (C.fact 36 (f := .glo "between") rfl)⟩
theorem D_later_places {K : PySem.W.Frag} {h : Heap} {mg : Str → Option Value} (X : K.In h) (G : h.Ns mainGlobals mg) (C : He.SaysD fa fn K) : Df K mg "later_places" s_later_places [] [] := by
  obtain ⟨fd, F⟩ := C.def_ 9 (d := d_later_places) rfl
  exact ⟨_, fd, F, He.glo_ok X G (C.fact 37 (f := .glo "later_places") rfl)⟩
theorem D_names_of {K : PySem.W.Frag} {h : Heap} {mg : Str → Option Value} (X : K.In h) (G : h.Ns mainGlobals mg) (C : He.SaysD fa fn K) : Df K mg "names_of" s_names_of [] [] := by
  obtain ⟨fd, F⟩ := C.def_ 10 (d := d_names_of) rfl
  exact ⟨_, fd, F, He.glo_ok X G (C.fact 38 (f := .glo "names_of") rfl)⟩
theorem D_move_places {K : PySem.W.Frag} {h : Heap} {mg : Str → Option Value} (X : K.In h) (G : h.Ns mainGlobals mg) (C : He.SaysD fa fn K) : Df K mg "move_places" s_move_places [] [] := by
  obtain ⟨fd, F⟩ := C.def_ 11 (d := d_move_places) rfl
  exact ⟨_, fd, F, He.glo_ok X G (C.fact 39 (f := .glo "move_places") rfl)⟩
theorem D_reset_places {K : PySem.W.Frag} {h : Heap} {mg : Str → Option Value} (X : K.In h) (G : h.Ns mainGlobals mg) (C : He.SaysD fa fn K) : Df K mg "reset_places" s_reset_places [] [] := by
  obtain ⟨fd, F⟩ := C.def_ 12 (d := d_reset_places) rfl
  exact ⟨_, fd, F, He.glo_ok X G (C.fact 40 (f := .glo "reset_places") rfl)⟩
theorem D_check_drifting {K : PySem.W.Frag} {h : Heap} {mg : Str → Option Value} (X : K.In h) (G : h.Ns mainGlobals mg) (C : He.SaysD fa fn K) : Df K mg "check_drifting" s_check_drifting [] [] := by
  obtain ⟨fd, F⟩ := C.def_ 13 (d := d_check_drifting) rfl
  exact ⟨_, fd, F, He.glo_ok X G (C.fact 41 (f := .glo "check_drifting") rfl)⟩
theorem D_held_at {K : PySem.W.Frag} {h : Heap} {mg : Str → Option Value} (X : K.In h) (G : h.Ns mainGlobals mg) (C : He.SaysD fa fn K) : Df K mg "held_at" s_held_at [] [] := by
  obtain ⟨fd, F⟩ := C.def_ 14 (d := d_held_at) rfl
  exact ⟨_, fd, F, He.glo_ok X G (C.fact 42 (f := .glo "held_at") rfl)⟩
theorem D_lists_of {K : PySem.W.Frag} {h : Heap} {mg : Str → Option Value} (X : K.In h) (G : h.Ns mainGlobals mg) (C : He.SaysD fa fn K) : Df K mg "lists_of" s_lists_of [] [] := by
  obtain ⟨fd, F⟩ := C.def_ 15 (d := d_lists_of) rfl
  exact ⟨_, fd, F, He.glo_ok X G (C.fact 43 (f := .glo "lists_of") rfl)⟩
theorem D_crossings {K : PySem.W.Frag} {h : Heap} {mg : Str → Option Value} (X : K.In h) (G : h.Ns mainGlobals mg) (C : He.SaysD fa fn K) : Df K mg "crossings" s_crossings [] [] := by
  obtain ⟨fd, F⟩ := C.def_ 16 (d := d_crossings) rfl
  exact ⟨_, fd, F, He.glo_ok X G (C.fact 44 (f := .glo "crossings") rfl)⟩
theorem D_crossings_apart {K : PySem.W.Frag} {h : Heap} {mg : Str → Option Value} (X : K.In h) (G : h.Ns mainGlobals mg) (C : He.SaysD fa fn K) : Df K mg "crossings_apart" s_crossings_apart [] [] := by
  obtain ⟨fd, F⟩ := C.def_ 17 (d := d_crossings_apart) rfl
  exact ⟨_, fd, F, He.glo_ok X G (C.fact 45 (f := .glo "crossings_apart") rfl)⟩
theorem D_strikes_in {K : PySem.W.Frag} {h : Heap} {mg : Str → Option Value} (X : K.In h) (G : h.Ns mainGlobals mg) (C : He.SaysD fa fn K) : Df K mg "strikes_in" s_strikes_in [] [] := by
  obtain ⟨fd, F⟩ := C.def_ 18 (d := d_strikes_in) rfl
  exact ⟨_, fd, F, He.glo_ok X G (C.fact 46 (f := .glo "strikes_in") rfl)⟩
theorem D_pairs_in {K : PySem.W.Frag} {h : Heap} {mg : Str → Option Value} (X : K.In h) (G : h.Ns mainGlobals mg) (C : He.SaysD fa fn K) : Df K mg "pairs_in" s_pairs_in [] [] := by
  obtain ⟨fd, F⟩ := C.def_ 19 (d := d_pairs_in) rfl
  exact ⟨_, fd, F, He.glo_ok X G (C.fact 47 (f := .glo "pairs_in") rfl)⟩
theorem D_fewest_strikes {K : PySem.W.Frag} {h : Heap} {mg : Str → Option Value} (X : K.In h) (G : h.Ns mainGlobals mg) (C : He.SaysD fa fn K) : Df K mg "fewest_strikes" s_fewest_strikes [] [] := by
  obtain ⟨fd, F⟩ := C.def_ 20 (d := d_fewest_strikes) rfl
  exact ⟨_, fd, F, He.glo_ok X G (C.fact 48 (f := .glo "fewest_strikes") rfl)⟩
theorem D_rings_apart {K : PySem.W.Frag} {h : Heap} {mg : Str → Option Value} (X : K.In h) (G : h.Ns mainGlobals mg) (C : He.SaysD fa fn K) : Df K mg "rings_apart" s_rings_apart [] [] := by
  obtain ⟨fd, F⟩ := C.def_ 21 (d := d_rings_apart) rfl
  exact ⟨_, fd, F, He.glo_ok X G (C.fact 49 (f := .glo "rings_apart") rfl)⟩
theorem D_rings_for_resets {K : PySem.W.Frag} {h : Heap} {mg : Str → Option Value} (X : K.In h) (G : h.Ns mainGlobals mg) (C : He.SaysD fa fn K) : Df K mg "rings_for_resets" s_rings_for_resets [] [] := by
  obtain ⟨fd, F⟩ := C.def_ 22 (d := d_rings_for_resets) rfl
  exact ⟨_, fd, F, He.glo_ok X G (C.fact 50 (f := .glo "rings_for_resets") rfl)⟩
theorem D_rings_for_moves {K : PySem.W.Frag} {h : Heap} {mg : Str → Option Value} (X : K.In h) (G : h.Ns mainGlobals mg) (C : He.SaysD fa fn K) : Df K mg "rings_for_moves" s_rings_for_moves [] [] := by
  obtain ⟨fd, F⟩ := C.def_ 23 (d := d_rings_for_moves) rfl
  exact ⟨_, fd, F, He.glo_ok X G (C.fact 51 (f := .glo "rings_for_moves") rfl)⟩
theorem D_least_resets {K : PySem.W.Frag} {h : Heap} {mg : Str → Option Value} (X : K.In h) (G : h.Ns mainGlobals mg) (C : He.SaysD fa fn K) : DfC K mg "least_resets" s_least_resets [] [] (He.cT K ("least_resets", none)).1 := by
  obtain ⟨fd, F⟩ := C.def_ 31 (d := d_least_resets) rfl
  exact dfc_of F (He.glo_ok X G (C.fact 59 (f := .glo "least_resets") rfl))
theorem D_least_strikes {K : PySem.W.Frag} {h : Heap} {mg : Str → Option Value} (X : K.In h) (G : h.Ns mainGlobals mg) (C : He.SaysD fa fn K) : DfC K mg "least_strikes" s_least_strikes [] [("places", .non)] (He.cT K ("least_strikes", none)).1 := by
  obtain ⟨fd, F⟩ := C.def_ 32 (d := d_least_strikes) rfl
  exact dfc_of F (He.glo_ok X G (C.fact 60 (f := .glo "least_strikes") rfl))
theorem D_least_moves {K : PySem.W.Frag} {h : Heap} {mg : Str → Option Value} (X : K.In h) (G : h.Ns mainGlobals mg) (C : He.SaysD fa fn K) : DfC K mg "least_moves" s_least_moves [] [("judge", .non)] (He.cT K ("least_moves", none)).1 := by
  obtain ⟨fd, F⟩ := C.def_ 33 (d := d_least_moves) rfl
  exact dfc_of F (He.glo_ok X G (C.fact 61 (f := .glo "least_moves") rfl))
theorem D__law_row {K : PySem.W.Frag} {h : Heap} {mg : Str → Option Value} (X : K.In h) (G : h.Ns mainGlobals mg) (C : He.SaysD fa fn K) : Df K mg "_law_row" s__law_row [] [] := by
  obtain ⟨fd, F⟩ := C.def_ 25 (d := d__law_row) rfl
  exact ⟨_, fd, F, He.glo_ok X G (C.fact 53 (f := .glo "_law_row") rfl)⟩
theorem D__law_numbers {K : PySem.W.Frag} {h : Heap} {mg : Str → Option Value} (X : K.In h) (G : h.Ns mainGlobals mg) (C : He.SaysD fa fn K) : Df K mg "_law_numbers" s__law_numbers [] [] := by
  obtain ⟨fd, F⟩ := C.def_ 26 (d := d__law_numbers) rfl
  exact ⟨_, fd, F, He.glo_ok X G (C.fact 54 (f := .glo "_law_numbers") rfl)⟩
theorem D__law_log {K : PySem.W.Frag} {h : Heap} {mg : Str → Option Value} (X : K.In h) (G : h.Ns mainGlobals mg) (C : He.SaysD fa fn K) : Df K mg "_law_log" s__law_log [] [] := by
  obtain ⟨fd, F⟩ := C.def_ 27 (d := d__law_log) rfl
  exact ⟨_, fd, F, He.glo_ok X G (C.fact 55 (f := .glo "_law_log") rfl)⟩
theorem D__law_made {K : PySem.W.Frag} {h : Heap} {mg : Str → Option Value} (X : K.In h) (G : h.Ns mainGlobals mg) (C : He.SaysD fa fn K) : Df K mg "_law_made" s__law_made [] [] := by
  obtain ⟨fd, F⟩ := C.def_ 28 (d := d__law_made) rfl
  exact ⟨_, fd, F, He.glo_ok X G (C.fact 56 (f := .glo "_law_made") rfl)⟩
theorem D__law_moves_right {K : PySem.W.Frag} {h : Heap} {mg : Str → Option Value} (X : K.In h) (G : h.Ns mainGlobals mg) (C : He.SaysD fa fn K) : Df K mg "_law_moves_right" s__law_moves_right [] [] := by
  obtain ⟨fd, F⟩ := C.def_ 29 (d := d__law_moves_right) rfl
  exact ⟨_, fd, F, He.glo_ok X G (C.fact 57 (f := .glo "_law_moves_right") rfl)⟩
theorem D_least_lists {K : PySem.W.Frag} {h : Heap} {mg : Str → Option Value} (X : K.In h) (G : h.Ns mainGlobals mg) (C : He.SaysD fa fn K) : Df K mg "least_lists" s_least_lists [] [] := by
  obtain ⟨fd, F⟩ := C.def_ 24 (d := d_least_lists) rfl
  exact ⟨_, fd, F, He.glo_ok X G (C.fact 52 (f := .glo "least_lists") rfl)⟩
theorem facts {P : Program} {w : World} {K : PySem.W.Frag} {h : Heap} {mg : Str → Option Value} {base : Heap} {fd : FuncData} (X : K.In h) (G : h.Ns mainGlobals mg) (C : He.SaysD fa fn K) (ex : exT K = true) (g1 : (gs.all fun d => d.ok K) = true) (g2 : (gs.map fun d => fnWg K d) = gs.map GD.val)
    (TB : ∀ p ∈ tf.map (He.cT K), LamX.TabB base mg p.1 p.2) (F : FunD K "law" "law" (defArgs s_law) (defBody s_law) (defScope s_law) [] [] (He.ga K "law") fd) : F_law P w K mg base (TT K) (He.ga K "law") fd := by
  have Z := bz_of X G C
  have f_is_name := w_is_name (P := P) (w := w) (base := base) Z (D_is_name X G C) 
  have f_is_drift := w_is_drift (P := P) (w := w) (base := base) Z (D_is_drift X G C) 
  have f_are_names := w_are_names (P := P) (w := w) (base := base) (spn := fun _ _ _ _ => True) Z (D_are_names X G C) f_is_name
  have f_is_event := w_is_event (P := P) (w := w) (base := base) Z (D_is_event X G C) 
  have f_is_first := w_is_first (P := P) (w := w) (base := base) Z (D_is_first X G C) 
  have p_Log_item_names := w_item_names (P := P) (w := w) (base := base) Z (dg_of g1 g2 0 (d := g_item_names) rfl) 
  have p_Log_grades := w_grades (P := P) (w := w) (base := base) Z (dg_of g1 g2 1 (d := g_grades) rfl) 
  have p_Log_judges := w_judges (P := P) (w := w) (base := base) Z (dg_of g1 g2 2 (d := g_judges) rfl) 
  have p_Log_events := w_events (P := P) (w := w) (base := base) Z (dg_of g1 g2 3 (d := g_events) rfl) 
  have m_Log_drift_of := w_drift_of (P := P) (w := w) (base := base) Z (D_Log_drift_of C) 
  have m_Log_is_answer := w_is_answer (P := P) (w := w) (base := base) Z (D_Log_is_answer C) 
  have m_Log_answers := w_answers (P := P) (w := w) (base := base) Z (D_Log_answers C) m_Log_is_answer
  have m_Log_answers_of := w_answers_of (P := P) (w := w) (base := base) Z (D_Log_answers_of C) m_Log_drift_of m_Log_answers
  have m_Log_answer_at := w_answer_at (P := P) (w := w) (base := base) Z (D_Log_answer_at C) m_Log_is_answer
  have m_Log_judge_at := w_judge_at (P := P) (w := w) (base := base) Z (D_Log_judge_at C) m_Log_answer_at
  have m_Log_item_at := w_item_at (P := P) (w := w) (base := base) Z (D_Log_item_at C) m_Log_answer_at
  have m_Log_grade_at := w_grade_at (P := P) (w := w) (base := base) Z (D_Log_grade_at C) m_Log_answer_at
  have m_Log_span_at := w_span_at (P := P) (w := w) (base := base) Z (D_Log_span_at C) 
  have m_Log_stretch_at := w_stretch_at (P := P) (w := w) (base := base) Z (D_Log_stretch_at C) m_Log_answers_of m_Log_span_at
  have m_Log_stretch_of := w_stretch_of (P := P) (w := w) (base := base) Z (D_Log_stretch_of C) m_Log_stretch_at m_Log_judge_at
  have m_Log_stretches := w_stretches (P := P) (w := w) (base := base) Z (D_Log_stretches C) m_Log_answers_of m_Log_stretch_of
  have m_Case__check := w_check (P := P) (w := w) (base := base) Z (D_Case__check C) 
  have m_Case__are_together := w_tog (P := P) (w := w) (base := base) Z (D_Case__are_together C) 
  have m_Case__are_in_order := w_ord (P := P) (w := w) (base := base) Z (D_Case__are_in_order C) f_is_first
  have m_Case_in_order := w_in_order (P := P) (w := w) (base := base) Z (D_Case_in_order C) m_Case__check m_Case__are_in_order
  have m_Case__ahead := w_ahead (P := P) (w := w) (base := base) Z (D_Case__ahead C) m_Case__are_in_order m_Case__are_together
  have m_Case_links := w_links (P := P) (w := w) (base := base) Z (D_Case_links C) m_Case__ahead
  have f_nearest := w_nearest (P := P) (w := w) (base := base) Z (D_nearest X G C) 
  have m_Case__depths := w_depths (P := P) (w := w) (base := base) Z (D_Case__depths C) 
  have m_Case__way_on := w_way_on (P := P) (w := w) (base := base) Z (D_Case__way_on C) 
  have m_Case__first_way := w_first_way (P := P) (w := w) (base := base) Z (D_Case__first_way C) f_nearest m_Case__way_on
  have m_Case__edges := w_edges (P := P) (w := w) (base := base) Z (D_Case__edges C) m_Case_links
  have m_Case_is_explained := w_expl (P := P) (w := w) (base := base) Z (D_Case_is_explained C) m_Case__edges m_Case__depths
  have m_Case_ring := w_ring (P := P) (w := w) (base := base) Z (D_Case_ring C) m_Case__edges m_Case__depths m_Case__first_way
  have f_check_drifts := w_check_drifts (P := P) (w := w) (base := base) Z (D_check_drifts X G C) m_Log_drift_of f_is_drift
  have f_check_answers := w_check_answers (P := P) (w := w) (base := base) Z (D_check_answers X G C) m_Log_is_answer
  have m_Case__gather := w_gather (P := P) (w := w) (base := base) Z (D_Case__gather C) p_Log_events
  have CK : CaseMk P w K mg base (He.ga K "Log") (He.ga K "Case") := by
    obtain ⟨fd, F⟩ := C.def_ 61 (d := d_Case_init) rfl
    exact ⟨⟨_, fd, w_init (P := P) (w := w) (base := base) Z F p_Log_events p_Log_judges p_Log_item_names p_Log_grades f_check_drifts f_check_answers m_Case__gather, F, He.mkr_ok (C.fact 65 (f := .mkr "Case") rfl)⟩⟩
  have LK : LogMk P w K mg base (He.ga K "Log") := by
    obtain ⟨fd, F⟩ := C.def_ 60 (d := d_Log_init) rfl
    exact ⟨⟨_, fd, w_initL (P := P) (w := w) (base := base) Z F f_is_drift f_are_names f_is_event, F.bindsN (bnd5 fun _ _ _ _ _ _ _ _ _ _ _ => rfl), He.mkr_ok (C.fact 64 (f := .mkr "Log") rfl)⟩⟩
  have f_check_sizes := w_check_sizes (P := P) (w := w) (base := base) Z (D_check_sizes X G C) 
  have f_between := w_between (P := P) (w := w) (base := base) Z (D_between X G C) m_Log_judge_at
  have f_later_places := w_later_places (P := P) (w := w) (base := base) Z (D_later_places X G C) m_Log_stretches
  have f_names_of := w_names_of (P := P) (w := w) (base := base) Z (D_names_of X G C) p_Log_judges
  have f_move_places := w_move_places (P := P) (w := w) (base := base) Z (D_move_places X G C) p_Log_judges f_later_places
  have f_reset_places := w_reset_places (P := P) (w := w) (base := base) Z (D_reset_places X G C) f_names_of f_later_places
  have f_check_drifting := w_check_drifting (P := P) (w := w) (base := base) Z (D_check_drifting X G C) m_Log_drift_of p_Log_grades
  have f_held_at := w_held_at (P := P) (w := w) (base := base) Z (D_held_at X G C) m_Log_answers m_Case_in_order f_between
  have f_lists_of := w_lists_of (P := P) (w := w) (base := base) Z (D_lists_of X G C) 
  have f_crossings := w_crossings (P := P) (w := w) (base := base) Z (D_crossings X G C) m_Log_stretches m_Log_item_at m_Log_grade_at
  have f_crossings_apart := w_crossings_apart (P := P) (w := w) (base := base) Z (D_crossings_apart X G C) f_crossings
  have f_strikes_in := w_strikes_in (P := P) (w := w) (base := base) Z (D_strikes_in X G C) m_Log_grade_at
  have f_pairs_in := w_pairs_in (P := P) (w := w) (base := base) Z (D_pairs_in X G C) m_Log_grade_at
  have f_fewest_strikes := w_fewest_strikes (P := P) (w := w) (base := base) Z (D_fewest_strikes X G C) f_check_drifting m_Log_drift_of m_Log_stretches p_Log_item_names m_Log_item_at f_strikes_in f_pairs_in
  have f_rings_apart := w_rings_apart (P := P) (w := w) (base := base) Z (D_rings_apart X G C) CK m_Case_ring
  have f_rings_for_resets := w_rings_for_resets (P := P) (w := w) (base := base) Z (D_rings_for_resets X G C) CK m_Case_ring f_between f_reset_places
  have f_rings_for_moves := w_rings_for_moves (P := P) (w := w) (base := base) Z (D_rings_for_moves X G C) CK m_Case_ring m_Case_is_explained f_held_at
  have f_least_resets := w_least_resets (P := P) (w := w) (base := base) (T := TT K) Z (D_least_resets X G C) (LLs.of (D_least_lists X G C)) (TB _ (tf_mem K 1 rfl)) (TT_mem K 1 rfl) (TT_u ex 1 rfl) f_lists_of f_reset_places f_check_sizes m_Log_answers CK m_Case_is_explained
  have f_least_strikes := w_least_strikes (P := P) (w := w) (base := base) (T := TT K) Z (D_least_strikes X G C) (LLs.of (D_least_lists X G C)) (TB _ (tf_mem K 2 rfl)) (TT_mem K 2 rfl) (TT_u ex 2 rfl) f_lists_of f_check_answers f_check_sizes m_Log_answers CK m_Case_is_explained
  have f_least_moves := w_least_moves (P := P) (w := w) (base := base) (T := TT K) Z (D_least_moves X G C) (LLs.of (D_least_lists X G C)) (TB _ (tf_mem K 0 rfl)) (TT_mem K 0 rfl) (TT_u ex 0 rfl) f_lists_of f_move_places f_check_sizes m_Log_answers CK m_Case_is_explained
  have f__law_row := w_law_row (P := P) (w := w) (base := base) Z (D__law_row X G C) 
  have f__law_numbers := w_law_numbers (P := P) (w := w) (base := base) Z (D__law_numbers X G C) f__law_row
  have f__law_log := w_law_log (P := P) (w := w) (base := base) Z (D__law_log X G C) 
  have f__law_made := w_law_made (P := P) (w := w) (base := base) Z (D__law_made X G C) LK
  have f__law_moves_right := w_moves_right (P := P) (w := w) (base := base) Z (D__law_moves_right X G C) f_least_moves CK m_Case_ring f_rings_for_moves f_crossings_apart
  exact w_law (P := P) (w := w) (base := base) Z F f__law_numbers f__law_log f__law_made f__law_moves_right f_fewest_strikes f_rings_apart f_least_strikes f_rings_for_resets f_least_resets CK m_Case_ring
end Rb
set_option Elab.async false
set_option linter.all false
set_option maxRecDepth 100000
set_option maxHeartbeats 0
/-! The law's promise at the head's heap. -/
namespace Rb
open PySem PySem.Spec PyProof.Rows L2
/-- a heap without its tables -/
def noTab (H : Hp) : Hp := fun b => match H b with
  | some (.tbl _) => none
  | o => o
theorem noTab_ex (H : Hp) : Ex (noTab H) H := fun a o h => by
  unfold noTab at h
  split at h
  · cases h
  · exact h
theorem noTab_n (H : Hp) : NoT (noTab H) := fun b ps h => by
  unfold noTab at h
  split at h
  · cases h
  · rename_i q
    exact q ps h
theorem noTab_of {H : Hp} {b : Addr} {o : HO} (h : H b = some o) (n : ∀ ps, o ≠ .tbl ps) : noTab H b = some o := by
  unfold noTab
  rw [h]
  cases o with
  | tbl ps => exact (n ps rfl).elim
  | _ => rfl
theorem law_at {l : PySem.W.OpenLaw} {w : World} {K : PySem.W.Frag} {h : Heap} {mg : Str → Option Value} {f : Addr} (X : K.In h) (G : h.Ns mainGlobals mg) (hfa : mg ("law" : Str) = some (.ref f)) (c : He.SaysX fa fn [] tf exT w h K) (g1 : (gs.all fun d => d.ok K) = true) (g2 : (gs.map fun d => fnWg K d) = gs.map GD.val) :
    LamX.LawAtS l w K CX0 19 63 "_law_script" mg f h := by
  have C := c.t.d
  have e := hfa.symm.trans (He.glo_ok X G (C.facts (f := .glo "law") (by
    unfold fa fa0 fa1 fa2 fa3 fa4
    simp)))
  have e' : f = He.ga K "law" := Value.ref.inj (Option.some.inj e)
  subst e'
  obtain ⟨fd, F⟩ := C.defs (d := d_law) (by
    unfold fn fn0 fn1 fn2 fn3
    simp)
  have F : FunD K "law" "law" (defArgs s_law) (defBody s_law) (defScope s_law) [] [] (He.ga K "law") fd := F
  have b := FunD.bindsA (ps := ["_law_script"]) F fun _ _ _ _ _ _ us hl => match us, hl with | [_], _ => rfl
  refine ⟨fd, tf.map (He.cT K), spT (TT K) (fun ns : List Int => [pSc K ns]) (fun _ => True) fun _ => pB true, fun p hp => ?_, fun p hp => ?_, fun p hp => ?_, fun s v => b s [v] rfl, fun H a ns hl _ hT hS => ?_, fun base _ _ TB => facts X G C c.more g1 g2 TB F⟩
  · obtain ⟨q, hq, rfl⟩ := List.mem_map.mp hp
    exact c.empty q hq
  · obtain ⟨q, hq, rfl⟩ := List.mem_map.mp hp
    exact c.out q hq
  · obtain ⟨q, hq, rfl⟩ := List.mem_map.mp hp
    exact PySem.W.codeHd_of_K X (c.hd q hq)
  · refine ⟨ns, noTab H, noTab_ex H, noTab_n H, fun p hp => ?_, True.intro, ⟨⟨a, rfl, ?_⟩, True.intro⟩, fun v G' H2 _ _ _ _ r => r⟩
    · obtain ⟨q, hq, e⟩ := TT_tf hp
      exact LamX.TabS.nil (by rw [← e]; exact hT q hq)
    · exact hS.elim (fun r => .inl (r.elim (fun z => .inl (noTab_of z fun _ y => by cases y)) fun ⟨o, z⟩ => .inr ⟨o, noTab_of z fun _ y => by cases y⟩)) .inr
end Rb
open PySem PySem.W PySem.Calls PyProof.Rows
set_option Elab.async false
set_option maxRecDepth 100000 in
set_option maxHeartbeats 0 in
theorem PySem.Challenge.cw_risingbars_k77_whole_bounds_of_changes_holds : PySem.Challenge.rw_risingbars_k77_whole_bounds_of_changes.Holds := by
  w_on; o_law
  refine HandSHeadRun.head_any (r := Rb.hR) (q := Rb.hq) (H := Rb.hk) (ob := Rb.hob) (M := 6000) (loose := Rb.hnames) (d := HandSHeadRun.topDef Rb.hR.prog 66) (kwd := []) Rb.hob_eq
    (by kernel_rfl) (fun s => by kernel_rfl) Rb.hrun (by kernel_rfl) (by kernel_rfl) (by kernel_rfl) (by rfl) (by first | assumption | decide +kernel) (by decide +kernel) ⟨rfl, rfl, rfl, rfl, rfl, by decide +kernel⟩ ?hw ?hc
  case hw => w_witness2
  case hc =>
    refine LamX.walk_ofTsE (l := PySem.Challenge.rw_risingbars_k77_whole_bounds_of_changes) (n := 63) (k := 19) (x := "_law_script") (CX := fun _ => L2.CX0) rfl (by decide) (by kernel_rfl) ⟨rfl, by decide, by decide⟩ ?F (fun _ _ _ _ _ z => z)
    intro w mg fa h Y G hmg0
    obtain ⟨K, KX, c, g1, g2⟩ := Y
    have hmg : mg ("law" : PySem.Str) = some (.ref fa) := by
      have e : (HandSHeadRun.topDef Rb.hR.prog 66).name = ("law" : PySem.Str) := by kernel_rfl
      rw [← e]
      exact hmg0
    exact ⟨K, KX, Rb.law_at KX G hmg c g1 g2⟩
