import PyProof.Rows.All
import Wide.All
import OpenK.AllK
import Wide.FinOn
import Open.SpecLaws
import KE.OsGo
import HandS.ForSpec
import HandS.Comp
import HandS.Iter
import HandS.Walk
import HandS.WideBits
import KE.IntBitsLaws
import HandS.Rev
import KE.KDictList
import PySem.Challenge.RW_waitsums_s07_assign
set_option Elab.async false
set_option linter.all false
set_option maxRecDepth 100000
set_option maxHeartbeats 2000000
set_option Elab.async false
set_option linter.all false
set_option maxRecDepth 100000
set_option maxHeartbeats 2000000
/-! A layer over HandS for programs that only make new data: Rp (how a value of plain Lean lies in the heap), Gr (the known part grows), EvR (an expression comes to a value of plain Lean). -/
namespace Ws
open PySem PySem.Spec PyProof.Rows L2

/-! ### heaps -/
theorem same_new {H : Hp} {p : Addr} {o : HO} (h : H p = none) : Same H (upd H p o) := fun b x e => by
  rw [upd_ne (ne_of_none e h)]
  exact e
/-- from the known part S of H to the known part S' of H': all that was stands, and what is newly known is new -/
structure Gr (S H S' H' : Hp) : Prop where
  ss : Same S S'
  sh : Same S' H'
  hh : Same H H'
  nw : ∀ b, S b = none → S' b ≠ none → H b = none
theorem Gr.refl {S H : Hp} (e : Same S H) : Gr S H S H := ⟨Same.refl _, e, Same.refl _, fun _ h k => absurd h k⟩
theorem Gr.trans {S H S1 H1 S2 H2 : Hp} (a : Gr S H S1 H1) (b : Gr S1 H1 S2 H2) : Gr S H S2 H2 := by
  refine ⟨a.ss.trans b.ss, b.sh, a.hh.trans b.hh, fun x h k => ?_⟩
  by_cases q : S1 x = none
  · exact a.hh.free (b.nw x q k)
  · exact a.nw x h q
theorem Gr.new {S H : Hp} {p : Addr} {o : HO} (e : Same S H) (hp : H p = none) : Gr S H (upd S p o) (upd H p o) := by
  refine ⟨same_new (e.free hp), fun b u h => ?_, same_new hp, fun b h k => ?_⟩
  · by_cases q : b = p
    · subst q
      rw [upd_same] at h ⊢
      exact h
    · rw [upd_ne q] at h ⊢
      exact e b u h
  · by_cases q : b = p
    · subst q
      exact hp
    · rw [upd_ne q] at k
      exact absurd h k
/-- a heap without what stands at p -/
def del (H : Hp) (p : Addr) : Hp := fun b => if b = p then none else H b
theorem del_at {H : Hp} {p : Addr} : del H p p = none := if_pos rfl
theorem del_ne {H : Hp} {p b : Addr} (h : b ≠ p) : del H p b = H b := if_neg h
theorem del_same {H : Hp} {p : Addr} : Same (del H p) H := fun b o h => by
  by_cases q : b = p
  · subst q
    rw [del_at] at h
    cases h
  · rw [del_ne q] at h
    exact h
theorem del_upd {H : Hp} {p : Addr} {o : HO} : del (upd H p o) p = del H p := by
  funext b
  by_cases q : b = p
  · subst q
    rw [del_at, del_at]
  · rw [del_ne q, del_ne q, upd_ne q]
theorem del_none {H : Hp} {p : Addr} (h : H p = none) : del H p = H := by
  funext b
  by_cases q : b = p
  · subst q
    rw [del_at, h]
  · rw [del_ne q]
/-- an open list at p (known to nobody) while the rest grows -/
theorem Gr.hole {A B S H S' H' : Hp} {p : Addr} {o : HO} (a : Gr A B S (del H p)) (hp : H p = some o) (b : Gr S H S' H') : Gr A B S' (del H' p) ∧ H' p = some o := by
  have s0 : S p = none := by
    cases q : S p with
    | none => rfl
    | some u =>
      have := a.sh p u q
      rw [del_at] at this
      cases this
  have s1 : S' p = none := by
    cases q : S' p with
    | none => rfl
    | some u =>
      have := b.nw p s0 (by rw [q]; exact fun z => by cases z)
      rw [hp] at this
      cases this
  refine ⟨⟨a.ss.trans b.ss, fun x u h => ?_, fun x u h => ?_, fun x h k => ?_⟩, b.hh p o hp⟩
  · by_cases q : x = p
    · subst q
      rw [s1] at h
      cases h
    · rw [del_ne q]
      exact b.sh x u h
  · have h1 := a.hh x u h
    by_cases q : x = p
    · subst q
      rw [del_at] at h1
      cases h1
    · rw [del_ne q] at h1 ⊢
      exact b.hh x u h1
  · by_cases q : S x = none
    · have h1 := b.nw x q k
      refine a.hh.free ?_
      by_cases z : x = p
      · subst z
        exact del_at
      · rw [del_ne z]
        exact h1
    · exact a.nw x h q
theorem Gr.hole_same {A B S H : Hp} {p : Addr} (a : Gr A B S (del H p)) : Same S H := a.sh.trans del_same
/-- the open list is closed: it is known from now on -/
theorem Gr.shut {A B S H : Hp} {p : Addr} {o : HO} (a : Gr A B S (del H p)) (hp : H p = some o) (hB : B p = none) : Gr A B (upd S p o) H := by
  have s0 : S p = none := by
    cases q : S p with
    | none => rfl
    | some u =>
      have := a.sh p u q
      rw [del_at] at this
      cases this
  refine ⟨a.ss.trans (same_new s0), fun b u h => ?_, a.hh.trans del_same, fun b h k => ?_⟩
  · by_cases q : b = p
    · subst q
      rw [upd_same] at h
      rw [← h]
      exact hp
    · rw [upd_ne q] at h
      exact a.hole_same b u h
  · by_cases q : b = p
    · subst q
      exact hB
    · rw [upd_ne q] at k
      exact a.nw b h k
theorem Gr.openNew {S H : Hp} {p : Addr} {o : HO} (e : Same S H) (hp : H p = none) : Gr S H S (del (upd H p o) p) := by
  rw [del_upd, del_none hp]
  exact Gr.refl e
theorem Gr.store {A B S H : Hp} {p : Addr} {o : HO} (a : Gr A B S (del H p)) : Gr A B S (del (upd H p o) p) := by
  rw [del_upd]
  exact a

/-! ### how a value lies in the heap -/
structure Rp (α : Type) where
  is : Hp → V → α → Prop
  mono : ∀ {H H' : Hp} {v : V} {x : α}, Same H H' → is H v x → is H' v x
/-- a value that needs no heap -/
def rFlat {α : Type} (f : α → V) : Rp α := ⟨fun _ v x => v = f x, fun _ h => h⟩
abbrev rInt : Rp Int := rFlat V.int
abbrev rBool : Rp Bool := rFlat V.bl
def nV : Option Int → V
  | none => .non
  | some i => .int i
abbrev rNum : Rp (Option Int) := rFlat nV
theorem Paired.same {α : Type} {R : Rp α} {H H' : Hp} (e : Same H H') {vs : List V} {xs : List α} (h : Paired (R.is H) vs xs) : Paired (R.is H') vs xs := L2.Paired.mapP h fun _ _ q => R.mono e q
/-- a list of one's own making -/
def rL {α : Type} (R : Rp α) : Rp (List α) := ⟨fun H v l => ∃ a vs, v = .ref a ∧ H a = some (.lst vs) ∧ Paired (R.is H) vs l, fun e h => by
  obtain ⟨a, vs, h1, h2, h3⟩ := h
  exact ⟨a, vs, h1, e _ _ h2, Paired.same e h3⟩⟩
/-- a list that is only read -/
def rA (K : PySem.W.Frag) {α : Type} (f : α → V) : Rp (List α) := ⟨fun H v l => ∃ a, v = .ref a ∧ SqL K H a (l.map f), fun e h => by
  obtain ⟨a, h1, h2⟩ := h
  exact ⟨a, h1, e.seq h2⟩⟩
/-- a pair -/
def rP {α β : Type} (R : Rp α) (R' : Rp β) : Rp (α × β) := ⟨fun H v x => ∃ t v1 v2, v = .ref t ∧ H t = some (.tup [v1, v2]) ∧ R.is H v1 x.1 ∧ R'.is H v2 x.2, fun e h => by
  obtain ⟨t, v1, v2, h1, h2, h3, h4⟩ := h
  exact ⟨t, v1, v2, h1, e _ _ h2, R.mono e h3, R'.mono e h4⟩⟩
/-- a thing or None -/
def rO {α : Type} (R : Rp α) : Rp (Option α) := ⟨fun H v x => match x with
  | none => v = .non
  | some y => v ≠ .non ∧ R.is H v y, fun {H H' v x} e h => by
  cases x with
  | none => exact h
  | some y => exact ⟨h.1, R.mono e h.2⟩⟩
theorem paired_flat {α : Type} {f : α → V} {H : Hp} : ∀ {vs : List V} {xs : List α}, Paired ((rFlat f).is H) vs xs ↔ vs = xs.map f
  | [], [] => ⟨fun _ => rfl, fun _ => .nil⟩
  | [], _ :: _ => ⟨fun h => (nomatch h), fun h => (nomatch h)⟩
  | _ :: _, [] => ⟨fun h => (nomatch h), fun h => (nomatch h)⟩
  | v :: vs, x :: xs => ⟨fun h => by
      cases h with
      | cons a b =>
        have a : v = f x := a
        rw [a, paired_flat.mp b]
        rfl, fun h => by
      rw [List.map_cons] at h
      injection h with h1 h2
      exact .cons h1 (paired_flat.mpr h2)⟩
theorem rL_flat {α : Type} {f : α → V} {H : Hp} {v : V} {l : List α} : (rL (rFlat f)).is H v l ↔ ∃ a, v = .ref a ∧ H a = some (.lst (l.map f)) := by
  constructor
  · rintro ⟨a, vs, h1, h2, h3⟩
    rw [paired_flat.mp h3] at h2
    exact ⟨a, h1, h2⟩
  · rintro ⟨a, h1, h2⟩
    exact ⟨a, _, h1, h2, paired_flat.mpr rfl⟩
theorem paired_get {α : Type} {F : V → α → Prop} : ∀ {vs : List V} {xs : List α}, Paired F vs xs → ∀ {i : Nat} {x : α}, xs[i]? = some x → ∃ v, vs[i]? = some v ∧ F v x
  | _, _, .nil, i, x, h => by simp at h
  | v :: vs, y :: xs, .cons a b, 0, x, h => by
    have : y = x := Option.some.inj h
    subst this
    exact ⟨v, rfl, a⟩
  | v :: vs, y :: xs, .cons a b, i + 1, x, h => paired_get b (i := i) h
theorem paired_get' {α : Type} {F : V → α → Prop} : ∀ {vs : List V} {xs : List α}, Paired F vs xs → ∀ {i : Nat} {v : V}, vs[i]? = some v → ∃ x, xs[i]? = some x ∧ F v x
  | _, _, .nil, i, x, h => by simp at h
  | v :: vs, y :: xs, .cons a b, 0, x, h => by
    have : v = x := Option.some.inj h
    subst this
    exact ⟨y, rfl, a⟩
  | v :: vs, y :: xs, .cons a b, i + 1, x, h => paired_get' b (i := i) h
theorem paired_len {α : Type} {F : V → α → Prop} : ∀ {vs : List V} {xs : List α}, Paired F vs xs → vs.length = xs.length
  | _, _, .nil => rfl
  | _, _, .cons _ b => by rw [List.length_cons, List.length_cons, paired_len b]

/-! ### what comes to what -/
def EvR {α : Type} (te : TE) (σ : L2.St) (S : Hp) (R : Rp α) (x : α) : Prop := ∀ H, Same S H → ∀ Q : VK, (∀ v S' H', Gr S H S' H' → R.is S' v x → Q v H') → te σ H Q
def EvT (tt : TT) (σ : L2.St) (S : Hp) (b : Bool) : Prop := ∀ H, Same S H → ∀ Q : Bool → Hp → Prop, (∀ S' H', Gr S H S' H' → Q b H') → tt σ H Q
/-- an operation on values -/
def RvR {α : Type} (r : (Hp → VK → Prop)) (S : Hp) (R : Rp α) (x : α) : Prop := ∀ H, Same S H → ∀ Q : VK, (∀ v S' H', Gr S H S' H' → R.is S' v x → Q v H') → r H Q
/-- the known part may be greater -/
theorem Gr.more {S S1 H S' H' : Hp} (e : Same S S1) (e1 : Same S1 H) (g : Gr S H S' H') : ∃ S2, Same S' S2 ∧ Gr S1 H S2 H' := by
  refine ⟨fun b => (S1 b).or (S' b), fun b o h => ?_, fun b o h => ?_, fun b o h => ?_, g.hh, fun b h k => ?_⟩
  · show (S1 b).or (S' b) = some o
    cases q : S1 b with
    | none => exact h
    | some u =>
      have a1 := g.hh b u (e1 b u q)
      have a2 := g.sh b o h
      rw [a1] at a2
      exact a2
  · show (S1 b).or (S' b) = some o
    rw [h]
    rfl
  · have h : (S1 b).or (S' b) = some o := h
    cases q : S1 b with
    | none =>
      rw [q] at h
      exact g.sh b o h
    | some u =>
      rw [q] at h
      cases h
      exact g.hh b _ (e1 b _ q)
  · have k : (S1 b).or (S' b) ≠ none := k
    rw [h] at k
    exact g.nw b (e.free h) k
section
variable {α β γ δ : Type} {K : PySem.W.Frag} {σ : L2.St} {S S' : Hp} {R : Rp α} {R' : Rp β} {R1 : Rp γ} {Rq : Rp δ} {ta tb te tc td : TE} {tt tu : TT} {x : α} {y : β} {z : γ} {u : δ}
theorem EvR.mono (h : EvR te σ S R x) (e : Same S S') : EvR te σ S' R x := fun H e1 Q q => h H (e.trans e1) Q fun v S1 H1 g r => by
  obtain ⟨S2, e2, g2⟩ := g.more e e1
  exact q v S2 H1 g2 (R.mono e2 r)
theorem EvT.mono {b : Bool} (h : EvT tt σ S b) (e : Same S S') : EvT tt σ S' b := fun H e1 Q q => h H (e.trans e1) Q fun S1 H1 g => by
  obtain ⟨S2, _, g2⟩ := g.more e e1
  exact q S2 H1 g2
theorem EvR.is {w : α} (h : EvR te σ S R x) (e : x = w) : EvR te σ S R w := by
  rw [← e]
  exact h
theorem EvT.is {b c : Bool} (h : EvT tt σ S b) (e : b = c) : EvT tt σ S c := by
  rw [← e]
  exact h
theorem EvR.wide (h : EvR te σ S R x) (f : ∀ S v, R.is S v x → R'.is S v y) : EvR te σ S R' y := fun H e Q q => h H e Q fun v S1 H1 g r => q v S1 H1 g (f S1 v r)
theorem ev_var {i : Nat} {v : V} (h : σ[i]? = some (some v)) (r : R.is S v x) : EvR (tVar i) σ S R x := fun H e _ q => ⟨v, h, q v S H (Gr.refl e) r⟩
theorem ev_c {v : V} (r : R.is S v x) : EvR (tC v) σ S R x := fun H e _ q => q v S H (Gr.refl e) r
theorem ev_op {r : R2} {z : γ} (ha : EvR ta σ S R x) (hb : EvR tb σ S R' y) (hr : ∀ S' v w, Same S S' → R.is S' v x → R'.is S' w y → RvR (r v w) S' R1 z) : EvR (tOp r ta tb) σ S R1 z := fun H e Q q =>
  ha H e _ fun v S1 H1 g1 r1 => (hb.mono g1.ss) H1 g1.sh _ fun w S2 H2 g2 r2 => hr S2 v w (g1.ss.trans g2.ss) (R.mono g2.ss r1) r2 H2 g2.sh Q fun t S3 H3 g3 r3 => q t S3 H3 ((g1.trans g2).trans g3) r3
theorem rv_I0 {g : Int → Int → V} {i j : Int} (h : R.is S (g i j) x) : RvR (rI0 g (.int i) (.int j)) S R x := fun H e _ q => ⟨i, j, rfl, rfl, q _ S H (Gr.refl e) h⟩
theorem rv_I {C : Int → Int → Prop} {g : Int → Int → V} {i j : Int} (hc : C i j) (h : R.is S (g i j) x) : RvR (rI C g (.int i) (.int j)) S R x := fun H e _ q => ⟨i, j, rfl, rfl, hc, q _ S H (Gr.refl e) h⟩
/-- two whole numbers -/
theorem ev_I0 {g : Int → Int → V} {i j : Int} (ha : EvR ta σ S rInt i) (hb : EvR tb σ S rInt j) (h : ∀ S, R.is S (g i j) x) : EvR (tOp (rI0 g) ta tb) σ S R x :=
  ev_op ha hb fun S' v w _ hv hw => by
    cases hv
    cases hw
    exact rv_I0 (h S')
theorem ev_I {C : Int → Int → Prop} {g : Int → Int → V} {i j : Int} (ha : EvR ta σ S rInt i) (hb : EvR tb σ S rInt j) (hc : C i j) (h : ∀ S, R.is S (g i j) x) : EvR (tOp (rI C g) ta tb) σ S R x :=
  ev_op ha hb fun S' v w _ hv hw => by
    cases hv
    cases hw
    exact rv_I hc (h S')
theorem ev_eq {v w : V} {b : Bool} (ha : EvR ta σ S R x) (hb : EvR tb σ S R' y) (h : ∀ S v w, R.is S v x → R'.is S w y → scal v w = true ∧ decide (v = w) = b) : EvR (tOp rEq ta tb) σ S rBool b :=
  ev_op ha hb fun S' v w _ hv hw => fun H e Q q => ⟨(h S' v w hv hw).1, q _ S' H (Gr.refl e) (by rw [(h S' v w hv hw).2]; rfl)⟩
theorem ev_isN {b : Bool} (ha : EvR ta σ S R x) (h : ∀ S v, R.is S v x → decide (v = V.non) = b) : EvR (tIsN ta) σ S rBool b := fun H e Q q => ha H e _ fun v S1 H1 g r => q _ S1 H1 g (by rw [h S1 v r]; rfl)
theorem ev_notN {b : Bool} (ha : EvR ta σ S R x) (h : ∀ S v, R.is S v x → (!decide (v = V.non)) = b) : EvR (tNotN ta) σ S rBool b := fun H e Q q => ha H e _ fun v S1 H1 g r => q _ S1 H1 g (by rw [h S1 v r]; rfl)
theorem et_B {b : Bool} (h : EvR te σ S rBool b) : EvT (tB te) σ S b := fun H e _ q => h H e _ fun v S1 H1 g r => ⟨b, r, q S1 H1 g⟩
theorem et_test {b : Bool} (h : EvR te σ S rBool b) : EvT (tTest te) σ S b := fun H e _ q => h H e _ fun v S1 H1 g r => ⟨b, r, q S1 H1 g⟩
theorem et_yes : EvT tYes σ S true := fun H e _ q => q S H (Gr.refl e)
theorem et_not {b : Bool} (h : EvT tt σ S b) : EvT (tNot tt) σ S (!b) := fun H e _ q => h H e _ fun S1 H1 g => q S1 H1 g
theorem et_and {a b : Bool} (h1 : EvT tt σ S a) (h2 : a = true → EvT tu σ S b) : EvT (tAnd tt tu) σ S (a && b) := fun H e Q q => h1 H e _ fun S1 H1 g => by
  cases a with
  | true => exact iteT ((h2 rfl).mono g.ss H1 g.sh Q fun S2 H2 g2 => q S2 H2 (g.trans g2))
  | false => exact iteF (q S1 H1 g)
theorem et_or {a b : Bool} (h1 : EvT tt σ S a) (h2 : a = false → EvT tu σ S b) : EvT (tOr tt tu) σ S (a || b) := fun H e Q q => h1 H e _ fun S1 H1 g => by
  cases a with
  | true => exact iteT (q S1 H1 g)
  | false => exact iteF ((h2 rfl).mono g.ss H1 g.sh Q fun S2 H2 g2 => q S2 H2 (g.trans g2))
theorem ev_andV {a b : Bool} (h1 : EvR ta σ S rBool a) (h2 : a = true → EvR tb σ S rBool b) : EvR (tAndV ta tb) σ S rBool (a && b) := fun H e Q q => h1 H e _ fun v S1 H1 g r => ⟨a, r, by
  cases a with
  | true => exact iteT ((h2 rfl).mono g.ss H1 g.sh Q fun w S2 H2 g2 r2 => q w S2 H2 (g.trans g2) r2)
  | false => exact iteF (q _ S1 H1 g rfl)⟩
/-- an item of a list, of a pair -/
theorem ev_ix {l : List α} {j : Nat} (ha : EvR ta σ S (rL R) l) (hb : EvR tb σ S rInt (j : Int)) (h : l[j]? = some x) : EvR (tOp (rIxL K) ta tb) σ S R x :=
  ev_op ha hb fun S' v w _ hv hw => by
    obtain ⟨a, vs, rfl, h2, h3⟩ := hv
    cases hw
    obtain ⟨v, h4, h5⟩ := paired_get h3 h
    exact fun H e Q q => ⟨a, vs, j, v, rfl, rfl, SqL.of (e _ _ h2), atI_nat h4, q v S' H (Gr.refl e) h5⟩
theorem ev_ixA {f : α → V} {l : List α} {j : Nat} (ha : EvR ta σ S (rA K f) l) (hb : EvR tb σ S rInt (j : Int)) (h : l[j]? = some x) : EvR (tOp (rIxL K) ta tb) σ S (rFlat f) x :=
  ev_op ha hb fun S' v w _ hv hw => by
    obtain ⟨a, rfl, h2⟩ := hv
    cases hw
    exact fun H e Q q => ⟨a, l.map f, j, f x, rfl, rfl, e.seq h2, atI_nat (by rw [List.getElem?_map, h]; rfl), q _ S' H (Gr.refl e) rfl⟩
/-- the last item -/
theorem ev_last {l : List α} {m : Int} (hm : m = -1) (ha : EvR ta σ S (rL R) (l ++ [x])) (hb : EvR tb σ S rInt m) : EvR (tOp (rIxL K) ta tb) σ S R x :=
  ev_op ha hb fun S' v w _ hv hw => by
    subst hm
    obtain ⟨a, vs, rfl, h2, h3⟩ := hv
    cases hw
    obtain ⟨v, h4, h5⟩ := paired_get h3 (i := l.length) (x := x) (by simp)
    have hl := paired_len h3
    have e1 : vs = vs.take l.length ++ [v] := by
      apply List.ext_getElem?
      intro i
      rw [List.length_append] at hl
      have hl2 : vs.length = l.length + 1 := hl
      by_cases hi : i < l.length
      · rw [List.getElem?_append_left (by rw [List.length_take]; omega), List.getElem?_take, if_pos hi]
      · by_cases hi2 : i = l.length
        · subst hi2
          rw [h4, List.getElem?_append_right (by rw [List.length_take]; omega), List.length_take, Nat.min_eq_left (by omega), Nat.sub_self]
          rfl
        · rw [List.getElem?_eq_none (by omega), List.getElem?_eq_none (by rw [List.length_append, List.length_take]; simp; omega)]
    exact fun H e Q q => ⟨a, vs, -1, v, rfl, rfl, SqL.of (e _ _ h2), by rw [e1]; exact atI_last _ _, q v S' H (Gr.refl e) h5⟩
theorem ev_fst {p : α × β} (ha : EvR ta σ S (rP R R') p) (hb : EvR tb σ S rInt 0) : EvR (tOp (rIxT K) ta tb) σ S R p.1 :=
  ev_op ha hb fun S' v w _ hv hw => by
    obtain ⟨t, v1, v2, rfl, h2, h3, h4⟩ := hv
    cases hw
    exact fun H e Q q => ⟨t, _, 0, v1, rfl, rfl, SqT.of (e _ _ h2), atI_nat (j := 0) rfl, q v1 S' H (Gr.refl e) h3⟩
theorem ev_snd {p : α × β} (ha : EvR ta σ S (rP R R') p) (hb : EvR tb σ S rInt 1) : EvR (tOp (rIxT K) ta tb) σ S R' p.2 :=
  ev_op ha hb fun S' v w _ hv hw => by
    obtain ⟨t, v1, v2, rfl, h2, h3, h4⟩ := hv
    cases hw
    exact fun H e Q q => ⟨t, _, 1, v2, rfl, rfl, SqT.of (e _ _ h2), atI_nat (j := 1) rfl, q v2 S' H (Gr.refl e) h4⟩
/-- [], [x], (x, y) -/
theorem ev_lst1 (ha : EvR ta σ S R x) : EvR (tLst (tCons ta tNil)) σ S (rL R) [x] := fun H e Q q => ha H e _ fun v S1 H1 g r => ⟨by show 1 ≤ sizeLine; decide, fun p hp =>
  q (.ref p) _ _ (g.trans (Gr.new g.sh hp)) ⟨p, [v], rfl, upd_same, .cons (R.mono (same_new (g.sh.free hp)) r) .nil⟩⟩
theorem ev_lst2 {w : α} (ha : EvR ta σ S R x) (hb : EvR tb σ S R w) : EvR (tLst (tCons ta (tCons tb tNil))) σ S (rL R) [x, w] := fun H e Q q => ha H e _ fun v S1 H1 g r => (hb.mono g.ss) H1 g.sh _ fun v2 S2 H2 g2 r2 => ⟨by show 2 ≤ sizeLine; decide, fun p hp =>
  q (.ref p) _ _ ((g.trans g2).trans (Gr.new g2.sh hp)) ⟨p, [v, v2], rfl, upd_same, .cons (R.mono (g2.ss.trans (same_new (g2.sh.free hp))) r) (.cons (R.mono (same_new (g2.sh.free hp)) r2) .nil)⟩⟩
theorem ev_lst3 {w w' : α} (ha : EvR ta σ S R x) (hb : EvR tb σ S R w) (hc : EvR tc σ S R w') : EvR (tLst (tCons ta (tCons tb (tCons tc tNil)))) σ S (rL R) [x, w, w'] := fun H e Q q => ha H e _ fun v S1 H1 g r => (hb.mono g.ss) H1 g.sh _ fun v2 S2 H2 g2 r2 => (hc.mono (g.ss.trans g2.ss)) H2 g2.sh _ fun v3 S3 H3 g3 r3 => ⟨by show 3 ≤ sizeLine; decide, fun p hp =>
  have n := same_new (o := HO.lst [v, v2, v3]) (g3.sh.free hp)
  q (.ref p) _ _ (((g.trans g2).trans g3).trans (Gr.new g3.sh hp)) ⟨p, [v, v2, v3], rfl, upd_same, .cons (R.mono ((g2.ss.trans g3.ss).trans n) r) (.cons (R.mono (g3.ss.trans n) r2) (.cons (R.mono n r3) .nil))⟩⟩
theorem ev_tup {p : α × β} (ha : EvR ta σ S R p.1) (hb : EvR tb σ S R' p.2) : EvR (tTup (tCons ta (tCons tb tNil))) σ S (rP R R') p := fun H e Q q => ha H e _ fun v S1 H1 g r => (hb.mono g.ss) H1 g.sh _ fun v2 S2 H2 g2 r2 => ⟨by show 2 ≤ sizeLine; decide, fun p hp =>
  q (.ref p) _ _ ((g.trans g2).trans (Gr.new g2.sh hp)) ⟨p, v, v2, rfl, upd_same, R.mono (g2.ss.trans (same_new (g2.sh.free hp))) r, R'.mono (same_new (g2.sh.free hp)) r2⟩⟩
/-- a call of something built in, by what it makes of its one argument -/
theorem ev_cb1 {r : List V → Hp → VK → Prop} (ha : EvR ta σ S R x) (hr : ∀ S' v, Same S S' → R.is S' v x → RvR (r [v]) S' R' y) : EvR (tCB r (tCons ta tNil)) σ S R' y := fun H e Q q => ha H e _ fun v S1 H1 g r1 => hr S1 v g.ss r1 H1 g.sh Q fun w S2 H2 g2 r2 => q w S2 H2 (g.trans g2) r2
theorem ev_cb2 {r : List V → Hp → VK → Prop} (ha : EvR ta σ S R x) (hb : EvR tb σ S R' y) (hr : ∀ S' v w, Same S S' → R.is S' v x → R'.is S' w y → RvR (r [v, w]) S' R1 z) : EvR (tCB r (tCons ta (tCons tb tNil))) σ S R1 z := fun H e Q q => ha H e _ fun v S1 H1 g r1 => (hb.mono g.ss) H1 g.sh _ fun w S2 H2 g2 r2 =>
  hr S2 v w (g.ss.trans g2.ss) (R.mono g2.ss r1) r2 H2 g2.sh Q fun t S3 H3 g3 r3 => q t S3 H3 ((g.trans g2).trans g3) r3
/-- len -/
def rLen (K : PySem.W.Frag) : List V → Hp → VK → Prop := fun xs H Q => ∃ p ys, xs = [.ref p] ∧ (SqL K H p ys ∨ SqT K H p ys) ∧ Q (.int ys.length) H
theorem ev_len {l : List α} (ha : EvR ta σ S (rL R) l) : EvR (tCB (rLen K) (tCons ta tNil)) σ S rInt (l.length : Int) := ev_cb1 ha fun S' v _ hv => by
  obtain ⟨a, vs, rfl, h2, h3⟩ := hv
  exact fun H e Q q => ⟨a, vs, rfl, .inl (SqL.of (e _ _ h2)), q _ S' H (Gr.refl e) (by rw [paired_len h3]; rfl)⟩
/-- two lists one behind the other -/
theorem ev_cat {l m : List α} (hz : l.length + m.length ≤ 1000000) (ha : EvR ta σ S (rL R) l) (hb : EvR tb σ S (rL R) m) : EvR (tOp rCat ta tb) σ S (rL R) (l ++ m) :=
  ev_op ha hb fun S' v w _ hv hw => by
    obtain ⟨a, vs, rfl, h2, h3⟩ := hv
    obtain ⟨b, ws, rfl, k2, k3⟩ := hw
    refine fun H e Q q => ⟨a, b, vs, ws, rfl, rfl, e _ _ h2, e _ _ k2, ?_, fun p hp => q (.ref p) _ _ (Gr.new e hp) ⟨p, _, rfl, upd_same, ?_⟩⟩
    · rw [paired_len h3, paired_len k3]
      exact Nat.le_trans hz (by decide)
    · have n := same_new (o := HO.lst (vs ++ ws)) (e.free hp)
      have app : ∀ {F : V → α → Prop} {vs ws : List V} {l m : List α}, Paired F vs l → Paired F ws m → Paired F (vs ++ ws) (l ++ m) := by
        intro F vs ws l m h k
        induction h with
        | nil => exact k
        | cons a b ih => exact .cons a ih
      exact app (Paired.same n h3) (Paired.same n k3)
end

/-! ### what is gone through -/
abbrev rNat : Rp Nat := rFlat fun k => V.int (k : Int)
def Src {α : Type} (wi : TI) (σ : L2.St) (S : Hp) (R : Rp α) (l : List α) : Prop := ∀ H, Same S H → ∀ Rk : It → Hp → Prop, (∀ J S' H', Gr S H S' H' →
  Walk J l.length (fun Hx => Same S' Hx) (fun i Hx v Hy => ∀ Sx, Same S' Sx → Same Sx Hx → ∃ Sy x, l[i]? = some x ∧ Gr Sx Hx Sy Hy ∧ R.is Sy v x) → Rk J H') → wi σ H Rk
section
variable {α β : Type} {K : PySem.W.Frag} {σ : L2.St} {S S' : Hp} {R : Rp α} {R' : Rp β} {ta tb te tl : TE} {l : List α} {m : List β}
theorem src_list (h : EvR tl σ S (rL R) l) : Src (iList K tl) σ S R l := fun H e Rk k => h H e _ fun v S1 H1 g r => by
  obtain ⟨a, vs, rfl, h2, h3⟩ := r
  refine ⟨a, rfl, ⟨vs, SqL.of (g.sh _ _ h2)⟩, k _ S1 H1 g ?_⟩
  rw [← paired_len h3]
  refine (walk_list (K := K) (a := a) (xs := vs)).mono (fun Hx q => SqL.of (q _ _ h2)) fun i Hx v Hy hi hG hy Sx q1 q2 => ?_
  obtain ⟨rfl, hv⟩ := hy
  obtain ⟨x, e1, e2⟩ := paired_get' h3 hv
  exact ⟨Sx, x, e1, Gr.refl q2, R.mono q1 e2⟩
theorem src_listA {f : α → V} (h : EvR tl σ S (rA K f) l) : Src (iList K tl) σ S (rFlat f) l := fun H e Rk k => h H e _ fun v S1 H1 g r => by
  obtain ⟨a, rfl, h2⟩ := r
  refine ⟨a, rfl, ⟨_, g.sh.seq h2⟩, k _ S1 H1 g ?_⟩
  have w := (walk_list (K := K) (a := a) (xs := l.map f))
  rw [List.length_map] at w
  refine w.mono (fun Hx q => q.seq h2) fun i Hx v Hy hi hG hy Sx q1 q2 => ?_
  obtain ⟨rfl, hv⟩ := hy
  rw [List.getElem?_map, Option.map_eq_some_iff] at hv
  obtain ⟨x, e1, e2⟩ := hv
  exact ⟨Sx, x, e1, Gr.refl q2, e2.symm⟩
theorem src_range {n : Nat} (hn : n ≤ 1000000) (h : EvR ta σ S rInt (n : Int)) : Src (iRng1 (tCons ta tNil)) σ S rNat (List.range n) := fun H e Rk k => h H e _ fun v S1 H1 g r => by
  cases r
  refine ⟨n, rfl, by omega, by omega, k _ S1 H1 g ?_⟩
  rw [List.length_range]
  refine (walk_range (lo := 0) (n := n)).mono (fun _ _ => trivial) fun i Hx v Hy hi hG hy Sx q1 q2 => ?_
  obtain ⟨rfl, rfl⟩ := hy
  exact ⟨Sx, i, by rw [List.getElem?_range hi], Gr.refl q2, by show V.int (0 + (i : Int)) = V.int (i : Int); rw [Int.zero_add]⟩
theorem src_range2 {a n : Nat} (ha : a ≤ 1000000) (hn : n ≤ 1000000) {hi : Int} (hh : hi = ((a + n : Nat) : Int)) (h1 : EvR ta σ S rInt (a : Int)) (h2 : EvR tb σ S rInt hi) : Src (iRng2 (tCons ta (tCons tb tNil))) σ S rNat (List.range' a n) := fun H e Rk k => h1 H e _ fun v S1 H1 g r => (h2.mono g.ss) H1 g.sh _ fun v2 S2 H2 g2 r2 => by
  cases r
  cases r2
  subst hh
  refine ⟨a, ((a + n : Nat) : Int), rfl, ⟨by omega, by omega, by omega, by omega⟩, k _ S2 H2 (g.trans g2) ?_⟩
  rw [List.length_range', show (((a + n : Nat) : Int) - (a : Int)).toNat = n by omega]
  refine (walk_range (lo := (a : Int)) (n := n)).mono (fun _ _ => trivial) fun i Hx v Hy hi hG hy Sx q1 q2 => ?_
  obtain ⟨rfl, rfl⟩ := hy
  refine ⟨Sx, a + i, ?_, Gr.refl q2, by show V.int ((a : Int) + (i : Int)) = V.int ((a + i : Nat) : Int); rw [Int.natCast_add]⟩
  rw [List.getElem?_range' hi, Nat.one_mul]
theorem src_zip (h1 : EvR ta σ S (rL R) l) (h2 : EvR tb σ S (rL R') m) : Src (iZip K (tCons ta (tCons tb tNil))) σ S (rP R R') (l.zip m) := fun H e Rk k => h1 H e _ fun v S1 H1 g r => (h2.mono g.ss) H1 g.sh _ fun v2 S2 H2 g2 r2 => by
  obtain ⟨a, vs, rfl, a2, a3⟩ := (rL R).mono g2.ss r
  obtain ⟨b, ws, rfl, b2, b3⟩ := r2
  refine ⟨a, b, vs, ws, rfl, SqL.of (g2.sh _ _ a2), SqL.of (g2.sh _ _ b2), k _ S2 H2 (g.trans g2) ?_⟩
  rw [List.length_zip]
  refine (walk_zip (K := K) (a := a) (b := b) (xs := vs) (ys := ws) (by rw [paired_len a3, paired_len b3])).mono (fun Hx q => ⟨SqL.of (q _ _ a2), SqL.of (q _ _ b2)⟩) fun i Hx v Hy hi hG hy Sx q1 q2 => ?_
  obtain ⟨T, x, y, rfl, hT, rfl, hx, hy⟩ := hy
  obtain ⟨x', e1, e2⟩ := paired_get' a3 hx
  obtain ⟨y', f1, f2⟩ := paired_get' b3 hy
  have n := same_new (o := HO.tup [x, y]) (q2.free hT)
  exact ⟨upd Sx T (.tup [x, y]), (x', y'), List.getElem?_zip_eq_some.mpr ⟨e1, f1⟩, Gr.new q2 hT, T, x, y, rfl, upd_same, R.mono (q1.trans n) e2, R'.mono (q1.trans n) f2⟩
theorem src_enum (h1 : EvR ta σ S (rL R) l) : Src (iEnum K (tCons ta tNil)) σ S (rP rNat R) ((List.range l.length).zip l) := fun H e Rk k => h1 H e _ fun v S2 H2 g2 r => by
  obtain ⟨a, vs, rfl, a2, a3⟩ := r
  refine ⟨a, vs, rfl, SqL.of (g2.sh _ _ a2), k _ S2 H2 g2 ?_⟩
  rw [List.length_zip, List.length_range, Nat.min_self, ← paired_len a3]
  refine (walk_enum (K := K) (a := a) (xs := vs)).mono (fun Hx q => SqL.of (q _ _ a2)) fun i Hx v Hy hi hG hy Sx q1 q2 => ?_
  obtain ⟨T, x, y, rfl, hT, rfl, hx, hy⟩ := hy
  have hx : x = .int (i : Nat) := (Option.some.inj hx).symm
  subst hx
  obtain ⟨y', f1, f2⟩ := paired_get' a3 hy
  have n := same_new (o := HO.tup [.int (i : Nat), y]) (q2.free hT)
  exact ⟨upd Sx T (.tup [.int (i : Nat), y]), (i, y'), List.getElem?_zip_eq_some.mpr ⟨by rw [List.getElem?_range]; exact hi, f1⟩, Gr.new q2 hT, T, _, y, rfl, upd_same, rfl, R.mono (q1.trans n) f2⟩
theorem src_rev (h : EvR ta σ S (rL R) l) : Src (iRev K (tCons ta tNil)) σ S R l.reverse := fun H e Rk k => h H e _ fun v S1 H1 g r => by
  obtain ⟨a, vs, rfl, h2, h3⟩ := r
  refine ⟨a, vs, rfl, SqL.of (g.sh _ _ h2), k _ S1 H1 g ?_⟩
  rw [List.length_reverse, ← paired_len h3]
  refine (walk_rev (K := K) (a := a) (xs := vs)).mono (fun Hx q => SqL.of (q _ _ h2)) fun i Hx v Hy hi hG hy Sx q1 q2 => ?_
  obtain ⟨rfl, hv⟩ := hy
  obtain ⟨x, e1, e2⟩ := paired_get' h3 hv
  refine ⟨Sx, x, ?_, Gr.refl q2, R.mono q1 e2⟩
  rw [List.getElem?_reverse (by rw [← paired_len h3]; exact hi), ← paired_len h3]
  exact e1
/-! ### comprehensions -/
theorem take_succ_get {l : List α} {i : Nat} {x : α} (h : l[i]? = some x) : l.take (i + 1) = l.take i ++ [x] := by
  rw [List.take_add_one, h]
  rfl
/-- a new list comes, of which nobody knows yet -/
def EvN {α : Type} (te : TE) (σ : L2.St) (S : Hp) (R : Rp α) (l : List α) : Prop := ∀ H, Same S H → ∀ Q : VK, (∀ p vs S' H', H p = none → Gr S H S' (del H' p) → H' p = some (.lst vs) → Paired (R.is S') vs l → Q (.ref p) H') → te σ H Q
theorem EvN.ev (h : EvN te σ S R l) : EvR te σ S (rL R) l := fun H e Q q => h H e Q fun p vs S' H' hp g e2 pr => by
  have sn : S' p = none := g.sh.free del_at
  exact q (.ref p) _ H' (g.shut e2 hp) ⟨p, vs, rfl, upd_same, Paired.same (same_new sn) pr⟩
/-- any target: Tg tells of the slots behind it -/
theorem en_lc {wi : TI} {g : TG} {tt : TT} {vs : List Nat} {p : α → Bool} {f : α → β} (Tg : L2.St → Hp → α → Prop) (hs : Src wi σ S R l) (hz : l.length ≤ 1000000)
    (hg : ∀ Sx Hx v x (Qk : L2.St → Hp → Prop), Same Sx Hx → R.is Sx v x → (∀ σ2, Tg σ2 Sx x → wipe σ2 vs = wipe σ vs ∧ Qk σ2 Hx) → g v (wipe σ vs) Hx fun σ2 H2 => wipe σ2 vs = wipe σ vs ∧ Qk σ2 H2)
    (ht : ∀ x ∈ l, ∀ σ2 S1, Same S S1 → Tg σ2 S1 x → EvT tt σ2 S1 (p x)) (he : ∀ x ∈ l, p x = true → ∀ σ2 S1, Same S S1 → Tg σ2 S1 x → EvR te σ2 S1 R' (f x))
    (htm : ∀ σ2 S1 S2 x, Same S1 S2 → Tg σ2 S1 x → Tg σ2 S2 x) (hwi : ∀ σ2 Sx x, Tg σ2 Sx x → wipe σ2 vs = wipe σ vs) :
    EvN (tLc wi g tt te vs) σ S R' ((l.filter p).map f) := fun H e Q q => hs H e _ fun J S1 H1 g1 w D hD => by
  refine lc_it w (fun i Hx => ∃ Sx acc, Gr S1 H1 Sx (del Hx D) ∧ Hx D = some (.lst acc) ∧ Paired (R'.is Sx) acc (((l.take i).filter p).map f)) ⟨S1, [], Gr.openNew g1.sh hD, upd_same, .nil⟩ (fun i Hx _ h => ?_) (fun i v Hx Hy hi h hy => ?_) (fun Hx h => ?_)
  · obtain ⟨Sx, acc, a1, a2, a3⟩ := h
    exact a1.ss.trans a1.hole_same
  · obtain ⟨Sx, acc, a1, a2, a3⟩ := h
    obtain ⟨Sy, x, e1, gy, rx⟩ := hy Sx a1.ss a1.hole_same
    obtain ⟨b1, b2⟩ := a1.hole a2 gy
    have hx : x ∈ l := List.mem_of_getElem? e1
    have sS : Same S Sy := (g1.ss.trans a1.ss).trans gy.ss
    refine hg Sy Hy v x _ gy.sh rx fun σ2 tg => ⟨hwi σ2 Sy x tg, ?_⟩
    refine ht x hx σ2 Sy sS tg Hy gy.sh _ fun S3 H3 g3 => ?_
    obtain ⟨c1, c2⟩ := b1.hole b2 g3
    rw [take_succ_get e1, List.filter_append, List.map_append]
    have hlen : acc.length ≤ 1000000 := by
      rw [paired_len a3, List.length_map]
      have := List.length_filter_le p (l.take i)
      rw [List.length_take] at this
      omega
    cases hp : p x with
    | true =>
      refine iteT ?_
      refine he x hx hp σ2 S3 (sS.trans g3.ss) (htm σ2 Sy S3 x g3.ss tg) H3 g3.sh _ fun y S4 H4 g4 r4 => ?_
      obtain ⟨d1, d2⟩ := c1.hole c2 g4
      refine ⟨acc, d2, Nat.lt_of_le_of_lt hlen (by decide), S4, acc ++ [y], d1.store, upd_same, ?_⟩
      rw [show List.filter p [x] = [x] by simp [hp]]
      exact Paired.snoc (Paired.same ((gy.ss.trans g3.ss).trans g4.ss) a3) r4
    | false =>
      refine iteF ⟨S3, acc, c1, c2, ?_⟩
      rw [show List.filter p [x] = [] by simp [hp]]
      rw [List.map_nil, List.append_nil]
      exact Paired.same (gy.ss.trans g3.ss) a3
  · obtain ⟨Sx, acc, a1, a2, a3⟩ := h
    rw [List.take_length] at a3
    exact q D acc Sx Hx (g1.hh.free hD) (g1.trans a1) a2 a3
/-- [f(x) for x in .. if p(x)] -/
theorem ev_lcN {wi : TI} {tt : TT} {vs : List Nat} {j : Nat} (p : α → Bool) (f : α → β) (hs : Src wi σ S R l) (hz : l.length ≤ 1000000) (hw : ∀ v, wipe ((wipe σ vs).set j (some v)) vs = wipe σ vs)
    (ht : ∀ x ∈ l, ∀ v S1, Same S S1 → R.is S1 v x → EvT tt ((wipe σ vs).set j (some v)) S1 (p x)) (he : ∀ x ∈ l, p x = true → ∀ v S1, Same S S1 → R.is S1 v x → EvR te ((wipe σ vs).set j (some v)) S1 R' (f x)) :
    EvR (tLc wi (gName j) tt te vs) σ S (rL R') ((l.filter p).map f) :=
  EvN.ev <| en_lc (fun σ2 Sx x => ∃ v, R.is Sx v x ∧ σ2 = (wipe σ vs).set j (some v)) hs hz (fun Sx Hx v x Qk _ r k => k _ ⟨v, r, rfl⟩)
    (fun x hx σ2 S1 e t => by obtain ⟨v, r, rfl⟩ := t; exact ht x hx v S1 e r) (fun x hx hp σ2 S1 e t => by obtain ⟨v, r, rfl⟩ := t; exact he x hx hp v S1 e r)
    (fun σ2 S1 S2 x e t => by obtain ⟨v, r, h⟩ := t; exact ⟨v, R.mono e r, h⟩) (fun σ2 Sx x t => by obtain ⟨v, r, rfl⟩ := t; exact hw v)
/-- [f(x) for x in ..] -/
theorem ev_lcY {wi : TI} {vs : List Nat} {j : Nat} (f : α → β) (hs : Src wi σ S R l) (hz : l.length ≤ 1000000) (hw : ∀ v, wipe ((wipe σ vs).set j (some v)) vs = wipe σ vs)
    (he : ∀ x ∈ l, ∀ v S1, Same S S1 → R.is S1 v x → EvR te ((wipe σ vs).set j (some v)) S1 R' (f x)) : EvR (tLc wi (gName j) tYes te vs) σ S (rL R') (l.map f) := by
  have h := ev_lcN (tt := tYes) (te := te) (R' := R') (fun _ => true) f hs hz hw (fun _ _ _ _ _ _ => et_yes) (fun x hx _ v S1 e r => he x hx v S1 e r)
  rw [List.filter_eq_self.mpr (fun _ _ => rfl)] at h
  exact h
theorem en_lcY {wi : TI} {vs : List Nat} {j : Nat} (f : α → β) (hs : Src wi σ S R l) (hz : l.length ≤ 1000000) (hw : ∀ v, wipe ((wipe σ vs).set j (some v)) vs = wipe σ vs)
    (he : ∀ x ∈ l, ∀ v S1, Same S S1 → R.is S1 v x → EvR te ((wipe σ vs).set j (some v)) S1 R' (f x)) : EvN (tLc wi (gName j) tYes te vs) σ S R' (l.map f) := by
  have h := en_lc (tt := tYes) (te := te) (R' := R') (p := fun _ => true) (f := f) (g := gName j) (vs := vs) (fun σ2 Sx x => ∃ v, R.is Sx v x ∧ σ2 = (wipe σ vs).set j (some v)) hs hz (fun Sx Hx v x Qk _ r k => k _ ⟨v, r, rfl⟩)
    (fun _ _ _ _ _ _ => et_yes) (fun x hx hp σ2 S1 e t => by obtain ⟨v, r, rfl⟩ := t; exact he x hx v S1 e r)
    (fun σ2 S1 S2 x e t => by obtain ⟨v, r, h⟩ := t; exact ⟨v, R.mono e r, h⟩) (fun σ2 Sx x t => by obtain ⟨v, r, rfl⟩ := t; exact hw v)
  rw [List.filter_eq_self.mpr (fun _ _ => rfl)] at h
  exact h
/-- [f(x, y) for x, y in ..] -/
theorem ev_lcP {γ : Type} {R1 : Rp γ} {l : List (α × γ)} {wi : TI} {vs : List Nat} {j j2 : Nat} (f : α × γ → β) (hs : Src wi σ S (rP R R1) l) (hz : l.length ≤ 1000000) (hw : ∀ v w, wipe (((wipe σ vs).set j (some v)).set j2 (some w)) vs = wipe σ vs)
    (he : ∀ x ∈ l, ∀ v w S1, Same S S1 → R.is S1 v x.1 → R1.is S1 w x.2 → EvR te (((wipe σ vs).set j (some v)).set j2 (some w)) S1 R' (f x)) : EvR (tLc wi (gTup K 2 (gCons (gName j) (gCons (gName j2) gNil))) tYes te vs) σ S (rL R') (l.map f) := by
  have h := EvN.ev <| en_lc (tt := tYes) (te := te) (R' := R') (p := fun _ => true) (f := f) (g := gTup K 2 (gCons (gName j) (gCons (gName j2) gNil))) (vs := vs) (fun σ2 Sx x => ∃ v w, R.is Sx v x.1 ∧ R1.is Sx w x.2 ∧ σ2 = ((wipe σ vs).set j (some v)).set j2 (some w)) hs hz
    (fun Sx Hx v x Qk e r k => by
      obtain ⟨t, v1, v2, rfl, h2, h3, h4⟩ := r
      exact ⟨t, [v1, v2], rfl, SqT.of (e _ _ h2), rfl, v1, [v2], rfl, v2, [], rfl, rfl, k _ ⟨v1, v2, h3, h4, rfl⟩⟩)
    (fun _ _ _ _ _ _ => et_yes) (fun x hx hp σ2 S1 e t => by obtain ⟨v, w, r, r2, rfl⟩ := t; exact he x hx v w S1 e r r2)
    (fun σ2 S1 S2 x e t => by obtain ⟨v, w, r, r2, h⟩ := t; exact ⟨v, w, R.mono e r, R1.mono e r2, h⟩) (fun σ2 Sx x t => by obtain ⟨v, w, r, r2, rfl⟩ := t; exact hw v w)
  rw [List.filter_eq_self.mpr (fun _ _ => rfl)] at h
  exact h
/-! ### loops -/
/-- nothing is written: Pv by the turn, the slots and what is known -/
theorem for_src {A B H : Hp} {wi : TI} {g : TG} {tu : TS} {D : Ends} (Pv : Nat → L2.St → Hp → Prop) (hs : Src wi σ S R l) (gA : Gr A B S H) (h0 : ∀ S1, Same S S1 → Pv 0 σ S1)
    (hm : ∀ i σ' S1 S2, Same S1 S2 → Pv i σ' S1 → Pv i σ' S2)
    (hstep : ∀ S0, Same S S0 → ∀ i x σ' S1 H1 v, l[i]? = some x → Gr A B S1 H1 → Same S0 S1 → Pv i σ' S1 → R.is S1 v x →
      g v σ' H1 fun σ2 H2 => tu { D with nx := fun σ3 H3 => ∃ S3, Gr A B S3 H3 ∧ Same S0 S3 ∧ Pv (i + 1) σ3 S3, ct := fun σ3 H3 => ∃ S3, Gr A B S3 H3 ∧ Same S0 S3 ∧ Pv (i + 1) σ3 S3, bk := D.nx } σ2 H2)
    (hd : ∀ σ' S1 H1, Gr A B S1 H1 → Same S S1 → Pv l.length σ' S1 → D.nx σ' H1) : tFor wi g tu D σ H := by
  refine hs H gA.sh _ fun J S1 H1 g1 w => ?_
  refine for_it w (fun i σ' Hx => ∃ Sx, Gr A B Sx Hx ∧ Same S1 Sx ∧ Pv i σ' Sx) ⟨S1, gA.trans g1, Same.refl _, h0 S1 g1.ss⟩ (fun i σ' Hx _ h => ?_) (fun i v σ' Hx Hy hi h hy => ?_) (fun σ' Hx h => ?_)
  · obtain ⟨Sx, a1, a2, a3⟩ := h
    exact a2.trans a1.sh
  · obtain ⟨Sx, a1, a2, a3⟩ := h
    obtain ⟨Sy, x, e1, gy, rx⟩ := hy Sx a2 a1.sh
    exact hstep S1 g1.ss i x σ' Sy Hy v e1 (a1.trans gy) (a2.trans gy.ss) (hm i σ' Sx Sy gy.ss a3) rx
  · obtain ⟨Sx, a1, a2, a3⟩ := h
    exact hd σ' Sx Hx a1 (g1.ss.trans a2) a3
/-- a list of the def's own stands open at p -/
theorem for_open {A B H : Hp} {wi : TI} {g : TG} {tu : TS} {D : Ends} {p : Addr} {us : List V} (Pv : Nat → L2.St → Hp → List V → Prop) (hs : Src wi σ S R l) (gA : Gr A B S (del H p)) (hp : H p = some (.lst us)) (h0 : ∀ S1, Same S S1 → Pv 0 σ S1 us)
    (hm : ∀ i σ' S1 S2 vs, Same S1 S2 → Pv i σ' S1 vs → Pv i σ' S2 vs)
    (hstep : ∀ S0, Same S S0 → ∀ i x σ' S1 H1 vs v, l[i]? = some x → Gr A B S1 (del H1 p) → H1 p = some (.lst vs) → Same S0 S1 → Pv i σ' S1 vs → R.is S1 v x →
      g v σ' H1 fun σ2 H2 => tu { D with nx := fun σ3 H3 => ∃ S3 vs3, Gr A B S3 (del H3 p) ∧ H3 p = some (.lst vs3) ∧ Same S0 S3 ∧ Pv (i + 1) σ3 S3 vs3, ct := fun σ3 H3 => ∃ S3 vs3, Gr A B S3 (del H3 p) ∧ H3 p = some (.lst vs3) ∧ Same S0 S3 ∧ Pv (i + 1) σ3 S3 vs3, bk := D.nx } σ2 H2)
    (hd : ∀ σ' S1 H1 vs, Gr A B S1 (del H1 p) → H1 p = some (.lst vs) → Same S S1 → Pv l.length σ' S1 vs → D.nx σ' H1) : tFor wi g tu D σ H := by
  refine hs H gA.hole_same _ fun J S1 H1 g1 w => ?_
  obtain ⟨q1, q2⟩ := gA.hole hp g1
  refine for_it w (fun i σ' Hx => ∃ Sx vs, Gr A B Sx (del Hx p) ∧ Hx p = some (.lst vs) ∧ Same S1 Sx ∧ Pv i σ' Sx vs) ⟨S1, us, q1, q2, Same.refl _, h0 S1 g1.ss⟩ (fun i σ' Hx _ h => ?_) (fun i v σ' Hx Hy hi h hy => ?_) (fun σ' Hx h => ?_)
  · obtain ⟨Sx, vs, a1, a0, a2, a3⟩ := h
    exact a2.trans a1.hole_same
  · obtain ⟨Sx, vs, a1, a0, a2, a3⟩ := h
    obtain ⟨Sy, x, e1, gy, rx⟩ := hy Sx a2 a1.hole_same
    obtain ⟨b1, b2⟩ := a1.hole a0 gy
    exact hstep S1 g1.ss i x σ' Sy Hy vs v e1 b1 b2 (a2.trans gy.ss) (hm i σ' Sx Sy vs gy.ss a3) rx
  · obtain ⟨Sx, vs, a1, a0, a2, a3⟩ := h
    exact hd σ' Sx Hx vs a1 a0 (g1.ss.trans a2) a3
end

/-! ### promises -/
/-- what a def gives back: any value in which x lies, nothing changed -/
def Gives {α : Type} (S H : Hp) (R : Rp α) (x : α) (Q : VK) : Prop := ∀ v S' H', Gr S H S' H' → R.is S' v x → Q v H'
section
variable {α β γ δ ε : Type}
def sp1 (R1 : Rp α) (R : Rp ε) (pre : α → Prop) (f : α → ε) : Sp := fun vs H Q _ => ∃ v1 x1 S, vs = [v1] ∧ Same S H ∧ R1.is S v1 x1 ∧ pre x1 ∧ Gives S H R (f x1) Q
def sp2 (R1 : Rp α) (R2 : Rp β) (R : Rp ε) (pre : α → β → Prop) (f : α → β → ε) : Sp := fun vs H Q _ => ∃ v1 x1 v2 x2 S, vs = [v1, v2] ∧ Same S H ∧ R1.is S v1 x1 ∧ R2.is S v2 x2 ∧ pre x1 x2 ∧ Gives S H R (f x1 x2) Q
def sp3 (R1 : Rp α) (R2 : Rp β) (R3 : Rp γ) (R : Rp ε) (pre : α → β → γ → Prop) (f : α → β → γ → ε) : Sp := fun vs H Q _ => ∃ v1 x1 v2 x2 v3 x3 S, vs = [v1, v2, v3] ∧ Same S H ∧ R1.is S v1 x1 ∧ R2.is S v2 x2 ∧ R3.is S v3 x3 ∧ pre x1 x2 x3 ∧ Gives S H R (f x1 x2 x3) Q
def sp4 (R1 : Rp α) (R2 : Rp β) (R3 : Rp γ) (R4 : Rp δ) (R : Rp ε) (pre : α → β → γ → δ → Prop) (f : α → β → γ → δ → ε) : Sp := fun vs H Q _ => ∃ v1 x1 v2 x2 v3 x3 v4 x4 S, vs = [v1, v2, v3, v4] ∧ Same S H ∧ R1.is S v1 x1 ∧ R2.is S v2 x2 ∧ R3.is S v3 x3 ∧ R4.is S v4 x4 ∧ pre x1 x2 x3 x4 ∧ Gives S H R (f x1 x2 x3 x4) Q
variable {σ : L2.St} {S : Hp} {R1 : Rp α} {R2 : Rp β} {R3 : Rp γ} {R4 : Rp δ} {R : Rp ε} {t1 t2 t3 t4 : TE} {E : XK} {x1 : α} {x2 : β} {x3 : γ} {x4 : δ}
theorem ev_call1 {pre : α → Prop} {f : α → ε} (h1 : EvR t1 σ S R1 x1) (hp : pre x1) {y : ε} (hy : f x1 = y := by rfl) : EvR (tCall (sp1 R1 R pre f) [] E (tCons t1 tNil)) σ S R y := fun H e Q q =>
  h1 H e _ fun v1 S1 H1 g1 r1 => ⟨v1, x1, S1, rfl, g1.sh, r1, hp, fun v S' H' g r => q v S' H' (g1.trans g) (hy ▸ r)⟩
theorem ev_call2 {pre : α → β → Prop} {f : α → β → ε} (h1 : EvR t1 σ S R1 x1) (h2 : EvR t2 σ S R2 x2) (hp : pre x1 x2) {y : ε} (hy : f x1 x2 = y := by rfl) : EvR (tCall (sp2 R1 R2 R pre f) [] E (tCons t1 (tCons t2 tNil))) σ S R y := fun H e Q q =>
  h1 H e _ fun v1 S1 H1 g1 r1 => (h2.mono g1.ss) H1 g1.sh _ fun v2 S2 H2 g2 r2 => ⟨v1, x1, v2, x2, S2, rfl, g2.sh, R1.mono g2.ss r1, r2, hp, fun v S' H' g r => q v S' H' ((g1.trans g2).trans g) (hy ▸ r)⟩
theorem ev_call3 {pre : α → β → γ → Prop} {f : α → β → γ → ε} (h1 : EvR t1 σ S R1 x1) (h2 : EvR t2 σ S R2 x2) (h3 : EvR t3 σ S R3 x3) (hp : pre x1 x2 x3) {y : ε} (hy : f x1 x2 x3 = y := by rfl) : EvR (tCall (sp3 R1 R2 R3 R pre f) [] E (tCons t1 (tCons t2 (tCons t3 tNil)))) σ S R y := fun H e Q q =>
  h1 H e _ fun v1 S1 H1 g1 r1 => (h2.mono g1.ss) H1 g1.sh _ fun v2 S2 H2 g2 r2 => (h3.mono (g1.ss.trans g2.ss)) H2 g2.sh _ fun v3 S3 H3 g3 r3 => ⟨v1, x1, v2, x2, v3, x3, S3, rfl, g3.sh, R1.mono (g2.ss.trans g3.ss) r1, R2.mono g3.ss r2, r3, hp, fun v S' H' g r => q v S' H' (((g1.trans g2).trans g3).trans g) (hy ▸ r)⟩
theorem ev_call4 {pre : α → β → γ → δ → Prop} {f : α → β → γ → δ → ε} (h1 : EvR t1 σ S R1 x1) (h2 : EvR t2 σ S R2 x2) (h3 : EvR t3 σ S R3 x3) (h4 : EvR t4 σ S R4 x4) (hp : pre x1 x2 x3 x4) {y : ε} (hy : f x1 x2 x3 x4 = y := by rfl) : EvR (tCall (sp4 R1 R2 R3 R4 R pre f) [] E (tCons t1 (tCons t2 (tCons t3 (tCons t4 tNil))))) σ S R y := fun H e Q q =>
  h1 H e _ fun v1 S1 H1 g1 r1 => (h2.mono g1.ss) H1 g1.sh _ fun v2 S2 H2 g2 r2 => (h3.mono (g1.ss.trans g2.ss)) H2 g2.sh _ fun v3 S3 H3 g3 r3 => (h4.mono ((g1.ss.trans g2.ss).trans g3.ss)) H3 g3.sh _ fun v4 S4 H4 g4 r4 =>
    ⟨v1, x1, v2, x2, v3, x3, v4, x4, S4, rfl, g4.sh, R1.mono ((g2.ss.trans g3.ss).trans g4.ss) r1, R2.mono (g3.ss.trans g4.ss) r2, R3.mono g4.ss r3, r4, hp, fun v S' H' g r => q v S' H' ((((g1.trans g2).trans g3).trans g4).trans g) (hy ▸ r)⟩
end
/-! ### statements -/
section
variable {α β γ : Type} {K : PySem.W.Frag} {σ : L2.St} {A B S H : Hp} {R : Rp α} {R' : Rp β} {te ta tb : TE} {tt tu : TT} {x : α} {y : β} {D : Ends} {t u tw : TS} {l : List α}
theorem q_asg {i : Nat} (h : EvR te σ S R x) (gA : Gr A B S H) (k : ∀ v S1 H1, Gr A B S1 H1 → Same S S1 → R.is S1 v x → u D (σ.set i (some v)) H1) : tSeq (tAsg te (gName i)) u D σ H := h H gA.sh _ fun v S1 H1 g r => k v S1 H1 (gA.trans g) g.ss r
theorem s_asg {i : Nat} (h : EvR te σ S R x) (gA : Gr A B S H) (k : ∀ v S1 H1, Gr A B S1 H1 → Same S S1 → R.is S1 v x → D.nx (σ.set i (some v)) H1) : tAsg te (gName i) D σ H := h H gA.sh _ fun v S1 H1 g r => k v S1 H1 (gA.trans g) g.ss r
theorem s_if {b : Bool} (h : EvT tt σ S b) (gA : Gr A B S H) (h1 : b = true → ∀ S1 H1, Gr A B S1 H1 → Same S S1 → t D σ H1) (h2 : b = false → ∀ S1 H1, Gr A B S1 H1 → Same S S1 → tw D σ H1) : tIfS tt t tw D σ H := h H gA.sh _ fun S1 H1 g => by
  cases b with
  | true => exact iteT (h1 rfl S1 H1 (gA.trans g) g.ss)
  | false => exact iteF (h2 rfl S1 H1 (gA.trans g) g.ss)
theorem s_when {b : Bool} (h : EvT tt σ S b) (gA : Gr A B S H) (h1 : b = true → ∀ S1 H1, Gr A B S1 H1 → Same S S1 → t D σ H1) (h2 : b = false → ∀ S1 H1, Gr A B S1 H1 → Same S S1 → D.nx σ H1) : tIfS tt t tNext D σ H := s_if h gA h1 h2
theorem q_when {b : Bool} (h : EvT tt σ S b) (gA : Gr A B S H) (h1 : b = true → ∀ S1 H1, Gr A B S1 H1 → Same S S1 → t { D with nx := u D } σ H1) (h2 : b = false → ∀ S1 H1, Gr A B S1 H1 → Same S S1 → u D σ H1) : tSeq (tIfS tt t tNext) u D σ H := s_if (D := { D with nx := u D }) h gA h1 h2
theorem s_ret (h : EvR te σ S R x) (gA : Gr A B S H) (k : ∀ v S1 H1, Gr A B S1 H1 → R.is S1 v x → D.rt v H1) : tRet te D σ H := h H gA.sh _ fun v S1 H1 g r => k v S1 H1 (gA.trans g) r
theorem q_for {wi : TI} {g : TG} (Pv : Nat → L2.St → Hp → Prop) (hs : Src wi σ S R l) (gA : Gr A B S H) (h0 : ∀ S1, Same S S1 → Pv 0 σ S1) (hm : ∀ i σ' S1 S2, Same S1 S2 → Pv i σ' S1 → Pv i σ' S2)
    (hstep : ∀ S0, Same S S0 → ∀ i x σ' S1 H1 v, l[i]? = some x → Gr A B S1 H1 → Same S0 S1 → Pv i σ' S1 → R.is S1 v x →
      g v σ' H1 fun σ2 H2 => t { D with nx := fun σ3 H3 => ∃ S3, Gr A B S3 H3 ∧ Same S0 S3 ∧ Pv (i + 1) σ3 S3, ct := fun σ3 H3 => ∃ S3, Gr A B S3 H3 ∧ Same S0 S3 ∧ Pv (i + 1) σ3 S3, bk := u D } σ2 H2)
    (hd : ∀ σ' S1 H1, Gr A B S1 H1 → Same S S1 → Pv l.length σ' S1 → u D σ' H1) : tSeq (tFor wi g t) u D σ H := for_src (D := { D with nx := u D }) Pv hs gA h0 hm hstep hd
theorem q_forO {wi : TI} {g : TG} {p : Addr} {us : List V} (Pv : Nat → L2.St → Hp → List V → Prop) (hs : Src wi σ S R l) (gA : Gr A B S (del H p)) (hp : H p = some (.lst us)) (h0 : ∀ S1, Same S S1 → Pv 0 σ S1 us)
    (hm : ∀ i σ' S1 S2 vs, Same S1 S2 → Pv i σ' S1 vs → Pv i σ' S2 vs)
    (hstep : ∀ S0, Same S S0 → ∀ i x σ' S1 H1 vs v, l[i]? = some x → Gr A B S1 (del H1 p) → H1 p = some (.lst vs) → Same S0 S1 → Pv i σ' S1 vs → R.is S1 v x →
      g v σ' H1 fun σ2 H2 => t { D with nx := fun σ3 H3 => ∃ S3 vs3, Gr A B S3 (del H3 p) ∧ H3 p = some (.lst vs3) ∧ Same S0 S3 ∧ Pv (i + 1) σ3 S3 vs3, ct := fun σ3 H3 => ∃ S3 vs3, Gr A B S3 (del H3 p) ∧ H3 p = some (.lst vs3) ∧ Same S0 S3 ∧ Pv (i + 1) σ3 S3 vs3, bk := u D } σ2 H2)
    (hd : ∀ σ' S1 H1 vs, Gr A B S1 (del H1 p) → H1 p = some (.lst vs) → Same S S1 → Pv l.length σ' S1 vs → u D σ' H1) : tSeq (tFor wi g t) u D σ H := for_open (D := { D with nx := u D }) Pv hs gA hp h0 hm hstep hd
/-- x = [] -/
theorem q_nil {i : Nat} (gA : Gr A B S H) (k : ∀ p H1, H p = none → Gr A B S (del H1 p) → H1 p = some (.lst []) → u D (σ.set i (some (.ref p))) H1) : tSeq (tAsg (tLst tNil) (gName i)) u D σ H := ⟨Nat.zero_le _, fun p hp => k p _ hp (by
  rw [del_upd, del_none hp]
  exact gA) upd_same⟩
/-- found.append(e), found open at p -/
theorem s_app {p : Addr} {vs : List V} (gA : Gr A B S (del H p)) (hp : H p = some (.lst vs)) (hz : vs.length ≤ 1000000) {i : Nat} (hi : σ[i]? = some (some (.ref p))) (h : EvR te σ S R x)
    (k : ∀ v S1 H1, Gr A B S1 (del H1 p) → H1 p = some (.lst (vs ++ [v])) → Same S S1 → R.is S1 v x → D.nx σ H1) : tDrop (tBM K "list" rAppend (tVar i) (tCons te tNil)) D σ H := by
  refine ⟨.ref p, hi, .inl ⟨rfl, _, SqL.of hp⟩, ?_⟩
  refine h H gA.hole_same _ fun v S1 H1 g r => ?_
  obtain ⟨b1, b2⟩ := gA.hole hp g
  exact ⟨p, vs, v, rfl, rfl, b2, Nat.lt_of_le_of_lt hz (by decide), k v S1 _ b1.store upd_same g.ss r⟩
/-- found.extend(e) -/
theorem s_ext {p : Addr} {vs : List V} {m : List α} (gA : Gr A B S (del H p)) (hp : H p = some (.lst vs)) (hz : vs.length + m.length ≤ 1000000) {i : Nat} (hi : σ[i]? = some (some (.ref p))) (h : EvR te σ S (rL R) m)
    (k : ∀ ws S1 H1, Gr A B S1 (del H1 p) → H1 p = some (.lst (vs ++ ws)) → Same S S1 → Paired (R.is S1) ws m → D.nx σ H1) : tDrop (tBM K "list" rExtend (tVar i) (tCons te tNil)) D σ H := by
  refine ⟨.ref p, hi, .inl ⟨rfl, _, SqL.of hp⟩, ?_⟩
  refine h H gA.hole_same _ fun v S1 H1 g r => ?_
  obtain ⟨b1, b2⟩ := gA.hole hp g
  obtain ⟨b, ws, rfl, h2, h3⟩ := r
  exact ⟨p, b, vs, ws, rfl, rfl, b2, g.sh _ _ h2, by rw [paired_len h3]; exact Nat.le_trans hz (by decide), k ws S1 _ b1.store upd_same g.ss h3⟩
/-! ### numbers or nothing -/
theorem nV_non (x : Option Int) : decide (nV x = V.non) = x.isNone := by
  cases x with
  | none => rfl
  | some i => exact decide_eq_false (fun h => nomatch h)
theorem et_none {x : Option Int} (h : EvR ta σ S rNum x) : EvT (tB (tIsN ta)) σ S x.isNone := et_B (ev_isN h fun S v r => by
  cases r
  exact nV_non x)
theorem et_some {x : Option Int} (h : EvR ta σ S rNum x) : EvT (tB (tNotN ta)) σ S x.isSome := et_B (ev_notN h fun S v r => by
  cases r
  rw [nV_non]
  cases x <;> rfl)
theorem rO_non {o : Option α} {S : Hp} {v : V} (r : (rO R).is S v o) : decide (v = V.non) = o.isNone := by
  cases o with
  | none => exact decide_eq_true r
  | some y => exact decide_eq_false r.1
theorem et_noneO {o : Option α} (h : EvR ta σ S (rO R) o) : EvT (tB (tIsN ta)) σ S o.isNone := et_B (ev_isN h fun S v r => rO_non r)
theorem et_someO {o : Option α} (h : EvR ta σ S (rO R) o) : EvT (tB (tNotN ta)) σ S o.isSome := et_B (ev_notN h fun S v r => by
  rw [rO_non r]
  cases o <;> rfl)
theorem ev_add {i j : Int} (ha : EvR ta σ S rInt i) (hb : EvR tb σ S rInt j) : EvR (tOp (rI0 fun i j => .int (i + j)) ta tb) σ S rInt (i + j) := ev_I0 ha hb fun _ => rfl
theorem ev_sub {i j : Int} (ha : EvR ta σ S rInt i) (hb : EvR tb σ S rInt j) : EvR (tOp (rI0 fun i j => .int (i - j)) ta tb) σ S rInt (i - j) := ev_I0 ha hb fun _ => rfl
theorem ev_mul {i j : Int} (hc : (-(2 ^ 64) < i ∧ i < 2 ^ 64) ∨ (-(2 ^ 64) < j ∧ j < 2 ^ 64)) (ha : EvR ta σ S rInt i) (hb : EvR tb σ S rInt j) : EvR (tOp (rI CMul fun i j => .int (i * j)) ta tb) σ S rInt (i * j) := ev_I ha hb hc fun _ => rfl
/-- l[a:b] of a list that is only read -/
theorem cut_nat (xs : List V) (a b : Nat) : cutV xs (some (a : Int)) (some (b : Int)) = (xs.drop a).take (b - a) := by
  unfold cutV
  rw [HT.sIx_nat, HT.sIx_nat]
  by_cases h : a ≤ xs.length
  · rw [Nat.min_eq_left h]
    by_cases h2 : b ≤ xs.length
    · rw [Nat.min_eq_left h2]
    · rw [Nat.min_eq_right (by omega), List.take_of_length_le (by rw [List.length_drop]; omega), List.take_of_length_le (by rw [List.length_drop]; omega)]
  · rw [List.drop_of_length_le (show xs.length ≤ min a xs.length by omega), List.drop_of_length_le (by omega)]
    simp
theorem ev_slice {f : α → V} {a b : Nat} {i j : Int} (hi : i = (a : Int)) (hj : j = (b : Int)) (h : EvR te σ S (rA K f) l) (ha : EvR ta σ S rInt i) (hb : EvR tb σ S rInt j) : EvR (tSl (rSlL K) te (tPart ta) (tPart tb)) σ S (rL (rFlat f)) ((l.drop a).take (b - a)) := fun H e Q q =>
  h H e _ fun v S1 H1 g r => (ha.mono g.ss) H1 g.sh _ fun v1 S2 H2 g2 r2 => by
    cases r2
    refine ⟨i, rfl, (hb.mono (g.ss.trans g2.ss)) H2 g2.sh _ fun v2 S3 H3 g3 r3 => ?_⟩
    cases r3
    refine ⟨j, rfl, ?_⟩
    obtain ⟨c, rfl, h2⟩ := r
    refine ⟨c, _, rfl, (g2.ss.trans (g3.ss.trans g3.sh)).seq h2, fun p hp => q (.ref p) _ _ (((g.trans g2).trans g3).trans (Gr.new g3.sh hp)) ?_⟩
    refine rL_flat.mpr ⟨p, rfl, ?_⟩
    rw [upd_same, hi, hj, cut_nat, List.map_take, List.map_drop]
end
section
variable {α β γ : Type} {K : PySem.W.Frag} {σ : L2.St} {A B S H : Hp} {R : Rp α} {R' : Rp β} {te ta tb tc : TE} {tt tu : TT} {x : α} {y : β} {D : Ends} {t u tw : TS} {l : List α}
theorem ev_neg {i : Int} (h : EvR ta σ S rInt i) : EvR (tUn (rU fun i => .int (-i)) ta) σ S rInt (-i) := fun H e Q q => h H e _ fun v S1 H1 g r => ⟨i, r, q _ S1 H1 g rfl⟩
theorem ev_bits {i : Int} (h : EvR ta σ S rInt i) : EvR (tBits ta) σ S rInt ((Builtin.Int.intBits i : Nat) : Int) := fun H e Q q => h H e _ fun v S1 H1 g r => ⟨i, r, q _ S1 H1 g rfl⟩
/-- y = [..], the list is open from then on -/
theorem q_new {i : Nat} (h : EvN te σ S R l) (gA : Gr A B S H) (k : ∀ p vs S1 H1, B p = none → Gr A B S1 (del H1 p) → H1 p = some (.lst vs) → Same S S1 → Paired (R.is S1) vs l → u D (σ.set i (some (.ref p))) H1) : tSeq (tAsg te (gName i)) u D σ H := h H gA.sh _ fun p vs S1 H1 hp g e2 pr => k p vs S1 H1 (gA.hh.free hp) (gA.trans g) e2 g.ss pr
/-- row[j] = v, row open at p -/
theorem s_setL {p : Addr} {vs : List V} (gA : Gr A B S (del H p)) (hp : H p = some (.lst vs)) {i j : Nat} (hi : σ[i]? = some (some (.ref p))) (h : EvR te σ S R x) (hj : EvR tb σ S rInt (j : Int)) (hlt : j < vs.length)
    (k : ∀ v S1 H1, Gr A B S1 (del H1 p) → H1 p = some (.lst (vs.set j v)) → Same S S1 → R.is S1 v x → D.nx σ H1) : tAsg te (gSub (tVar i) tb rSetL) D σ H := by
  refine h H gA.hole_same _ fun v S1 H1 g r => ?_
  obtain ⟨b1, b2⟩ := gA.hole hp g
  refine ⟨.ref p, hi, (hj.mono g.ss) H1 g.sh _ fun w S2 H2 g2 r2 => ?_⟩
  obtain ⟨c1, c2⟩ := b1.hole b2 g2
  refine ⟨p, vs, (j : Int), j, rfl, r2, c2, ?_, k v S2 _ c1.store upd_same (g.ss.trans g2.ss) (R.mono g2.ss r)⟩
  unfold ixN
  rw [if_pos (by omega), if_pos (by omega), Int.toNat_natCast]
theorem q_setL {p : Addr} {vs : List V} (gA : Gr A B S (del H p)) (hp : H p = some (.lst vs)) {i j : Nat} (hi : σ[i]? = some (some (.ref p))) (h : EvR te σ S R x) (hj : EvR tb σ S rInt (j : Int)) (hlt : j < vs.length)
    (k : ∀ v S1 H1, Gr A B S1 (del H1 p) → H1 p = some (.lst (vs.set j v)) → Same S S1 → R.is S1 v x → u D σ H1) : tSeq (tAsg te (gSub (tVar i) tb rSetL)) u D σ H := s_setL (D := { D with nx := u D }) gA hp hi h hj hlt k
/-- range(n - 1, -1, -1) -/
theorem src_down {n : Nat} (hn : n ≤ 1000000) {a b c : Int} (ea : a = (n : Int) - 1) (eb : b = -1) (ec : c = -1) (h1 : EvR ta σ S rInt a) (h2 : EvR tb σ S rInt b) (h3 : EvR tc σ S rInt c) :
    Src (iRng3 (tCons ta (tCons tb (tCons tc tNil)))) σ S rNat ((List.range n).map fun i => n - 1 - i) := fun H e Rk k => h1 H e _ fun v S1 H1 g r => (h2.mono g.ss) H1 g.sh _ fun v2 S2 H2 g2 r2 => (h3.mono (g.ss.trans g2.ss)) H2 g2.sh _ fun v3 S3 H3 g3 r3 => by
  cases r
  cases r2
  cases r3
  subst ea eb ec
  refine ⟨(n : Int) - 1, -1, -1, n, rfl, ?_, k _ S3 H3 ((g.trans g2).trans g3) ?_⟩
  · have q := RgC.neg (i := (n : Int) - 1) (j := -1) (by omega) (by omega) (by omega) (by omega)
    rw [show ((n : Int) - 1 - -1).toNat = n by omega] at q
    exact q
  · rw [List.length_map, List.length_range]
    refine (walk_rangeC (lo := (n : Int) - 1) (c := -1) (n := n)).mono (fun _ _ => trivial) fun i Hx v Hy hi hG hy Sx q1 q2 => ?_
    obtain ⟨rfl, rfl⟩ := hy
    refine ⟨Sx, n - 1 - i, by rw [List.getElem?_map, List.getElem?_range hi]; rfl, Gr.refl q2, ?_⟩
    show V.int ((n : Int) - 1 + (i : Int) * -1) = V.int ((n - 1 - i : Nat) : Int)
    congr 1
    omega
end
section
variable {α β γ : Type} {K : PySem.W.Frag} {σ : L2.St} {A B S H : Hp} {R : Rp α} {R' : Rp β} {te ta tb tc : TE} {tt tu : TT} {x : α} {y : β} {D : Ends} {t u tw : TS} {l : List α}
theorem ev_any {bs : List Bool} (h : EvR ta σ S (rL rBool) bs) : EvR (tCB (rAny K) (tCons ta tNil)) σ S rBool (bs.any id) := ev_cb1 h fun S' v _ hv => by
  obtain ⟨p, rfl, h2⟩ := rL_flat.mp hv
  exact fun H e Q q => ⟨p, bs, rfl, SqL.of (e _ _ h2), q _ S' H (Gr.refl e) rfl⟩
theorem ev_sum {ns : List Int} (h : EvR ta σ S (rL rInt) ns) : EvR (tCB (rSum K) (tCons ta tNil)) σ S rInt ns.sum := ev_cb1 h fun S' v _ hv => by
  obtain ⟨p, rfl, h2⟩ := rL_flat.mp hv
  exact fun H e Q q => ⟨p, ns, rfl, SqL.of (e _ _ h2), q _ S' H (Gr.refl e) rfl⟩
/-- x = [e], open -/
theorem q_lst1 {i : Nat} (h : EvR te σ S R x) (gA : Gr A B S H) (k : ∀ p v S1 H1, B p = none → Gr A B S1 (del H1 p) → H1 p = some (.lst [v]) → Same S S1 → R.is S1 v x → u D (σ.set i (some (.ref p))) H1) : tSeq (tAsg (tLst (tCons te tNil)) (gName i)) u D σ H := h H gA.sh _ fun v S1 H1 g r => ⟨by show 1 ≤ sizeLine; decide, fun p hp => k p v S1 _ ((gA.trans g).hh.free hp) (by
  rw [del_upd, del_none hp]
  exact gA.trans g) upd_same g.ss r⟩
theorem paired_snoc {F : V → α → Prop} {vs : List V} {l : List α} {x : α} (h : Paired F vs (l ++ [x])) : ∃ ws v, vs = ws ++ [v] ∧ Paired F ws l ∧ F v x := by
  induction l generalizing vs with
  | nil =>
    cases h with
    | cons a b =>
      cases b
      exact ⟨[], _, rfl, .nil, a⟩
  | cons y l ih =>
    cases h with
    | cons a b =>
      obtain ⟨ws, v, rfl, h1, h2⟩ := ih b
      exact ⟨_ :: ws, v, rfl, .cons a h1, h2⟩
end
section
variable {α β γ : Type} {K : PySem.W.Frag} {σ : L2.St} {A B S H : Hp} {R : Rp α} {R' : Rp β} {te ta tb tc : TE} {tt tu : TT} {x : α} {y : β} {D : Ends} {t u tw : TS} {l : List α}
/-- a, b = a pair -/
theorem g_pair {p : α × β} {v : V} {i j : Nat} {k : L2.St → Hp → Prop} (e : Same S H) (r : (rP R R').is S v p) (h : ∀ v1 v2, R.is S v1 p.1 → R'.is S v2 p.2 → k ((σ.set i (some v1)).set j (some v2)) H) : gTup K 2 (gCons (gName i) (gCons (gName j) gNil)) v σ H k := by
  obtain ⟨t, w1, w2, rfl, h2, h3, h4⟩ := r
  exact ⟨t, [w1, w2], rfl, SqT.of (e _ _ h2), rfl, w1, [w2], rfl, w2, [], rfl, rfl, h w1 w2 h3 h4⟩
theorem rP_ne {p : α × β} {v : V} (r : (rP R R').is S v p) : v ≠ .non := by
  obtain ⟨t, w1, w2, rfl, _⟩ := r
  exact fun h => nomatch h
theorem rO_pair {p : α × β} {v : V} (r : (rP R R').is S v p) : (rO (rP R R')).is S v (some p) := ⟨rP_ne r, r⟩
theorem ev_abs {i : Int} (h : EvR ta σ S rInt i) : EvR (tCB (fun xs H Q => ∃ i, xs = [.int i] ∧ Q (.int (if i < 0 then -i else i)) H) (tCons ta tNil)) σ S rNat i.natAbs := ev_cb1 h fun S' v _ hv => by
  cases hv
  refine fun H e Q q => ⟨i, rfl, q _ S' H (Gr.refl e) ?_⟩
  show V.int (if i < 0 then -i else i) = V.int ((i.natAbs : Nat) : Int)
  congr 1
  split <;> omega
theorem ev_max {i j : Nat} (h1 : EvR ta σ S rNat i) (h2 : EvR tb σ S rNat j) : EvR (tCB (fun xs H Q => ∃ i j, xs = [.int i, .int j] ∧ Q (.int (if j > i then j else i)) H) (tCons ta (tCons tb tNil))) σ S rNat (max i j) := ev_cb2 h1 h2 fun S' v w _ hv hw => by
  cases hv
  cases hw
  refine fun H e Q q => ⟨i, j, rfl, q _ S' H (Gr.refl e) ?_⟩
  show V.int (if (j : Int) > (i : Int) then (j : Int) else (i : Int)) = V.int ((max i j : Nat) : Int)
  congr 1
  split <;> omega
theorem ev_min {i j : Nat} (h1 : EvR ta σ S rNat i) (h2 : EvR tb σ S rNat j) : EvR (tCB (fun xs H Q => ∃ i j, xs = [.int i, .int j] ∧ Q (.int (if j < i then j else i)) H) (tCons ta (tCons tb tNil))) σ S rNat (min i j) := ev_cb2 h1 h2 fun S' v w _ hv hw => by
  cases hv
  cases hw
  refine fun H e Q q => ⟨i, j, rfl, q _ S' H (Gr.refl e) ?_⟩
  show V.int (if (j : Int) < (i : Int) then (j : Int) else (i : Int)) = V.int ((min i j : Nat) : Int)
  congr 1
  split <;> omega
abbrev rM : Rp (Int × Nat) := rP rInt rNat
theorem EvR.int {n : Nat} (h : EvR te σ S rNat n) : EvR te σ S rInt (n : Int) := h
theorem EvR.num {i : Int} (h : EvR te σ S rInt i) : EvR te σ S rNum (some i) := h
theorem EvR.of_num {i : Int} {o : Option Int} (h : EvR te σ S rNum o) (e : o = some i) : EvR te σ S rInt i := by
  rw [e] at h
  exact h
end
section
variable {α β γ : Type} {K : PySem.W.Frag} {σ : L2.St} {A B S H : Hp} {R : Rp α} {R' : Rp β} {te ta tb tc : TE} {tt tu : TT} {x : α} {y : β} {D : Ends} {t u tw : TS} {l : List α}
theorem q_app {p : Addr} {vs : List V} (gA : Gr A B S (del H p)) (hp : H p = some (.lst vs)) (hz : vs.length ≤ 1000000) {i : Nat} (hi : σ[i]? = some (some (.ref p))) (h : EvR te σ S R x)
    (k : ∀ v S1 H1, Gr A B S1 (del H1 p) → H1 p = some (.lst (vs ++ [v])) → Same S S1 → R.is S1 v x → u D σ H1) : tSeq (tDrop (tBM K "list" rAppend (tVar i) (tCons te tNil))) u D σ H := s_app (D := { D with nx := u D }) gA hp hz hi h k
theorem rL_cast {l : List Nat} {S : Hp} {v : V} (r : (rL rNat).is S v l) : (rL rInt).is S v (l.map fun n : Nat => (n : Int)) := by
  obtain ⟨p, e, h⟩ := rL_flat.mp r
  exact rL_flat.mpr ⟨p, e, by rw [h, List.map_map]; rfl⟩
/-- an assignment while a list stands open at p -/
theorem q_asgO {p : Addr} {vs : List V} {i : Nat} (gA : Gr A B S (del H p)) (hp : H p = some (.lst vs)) (h : EvR te σ S R x) (k : ∀ v S1 H1, Gr A B S1 (del H1 p) → H1 p = some (.lst vs) → Same S S1 → R.is S1 v x → u D (σ.set i (some v)) H1) : tSeq (tAsg te (gName i)) u D σ H := h H gA.hole_same _ fun v S1 H1 g r => by
  obtain ⟨b1, b2⟩ := gA.hole hp g
  exact k v S1 H1 b1 b2 g.ss r
theorem s_asgO {p : Addr} {vs : List V} {i : Nat} (gA : Gr A B S (del H p)) (hp : H p = some (.lst vs)) (h : EvR te σ S R x) (k : ∀ v S1 H1, Gr A B S1 (del H1 p) → H1 p = some (.lst vs) → Same S S1 → R.is S1 v x → D.nx (σ.set i (some v)) H1) : tAsg te (gName i) D σ H := h H gA.hole_same _ fun v S1 H1 g r => by
  obtain ⟨b1, b2⟩ := gA.hole hp g
  exact k v S1 H1 b1 b2 g.ss r
/-- if, while a list stands open at p -/
theorem s_whenO {p : Addr} {vs : List V} {b : Bool} (gA : Gr A B S (del H p)) (hp : H p = some (.lst vs)) (h : EvT tt σ S b) (h1 : b = true → ∀ S1 H1, Gr A B S1 (del H1 p) → H1 p = some (.lst vs) → Same S S1 → t D σ H1) (h2 : b = false → ∀ S1 H1, Gr A B S1 (del H1 p) → H1 p = some (.lst vs) → Same S S1 → D.nx σ H1) : tIfS tt t tNext D σ H := h H gA.hole_same _ fun S1 H1 g => by
  obtain ⟨b1, b2⟩ := gA.hole hp g
  cases b with
  | true => exact iteT (h1 rfl S1 H1 b1 b2 g.ss)
  | false => exact iteF (h2 rfl S1 H1 b1 b2 g.ss)
end
/-! ### comprehensions within comprehensions; calls of defs of the module -/
theorem lookup_in {F : Str × NameKind → Str × NameKind} (h1 : ∀ p, (F p).1 = p.1) (h2 : ∀ p, (F p).2 = p.2 ∨ (F p).2 = .cell) {x : Str} : ∀ {names : List (Str × NameKind)}, names.lookup x = some .cell ∨ names.lookup x = some .free →
    (names.map F).lookup x = some .cell ∨ (names.map F).lookup x = some .free
  | [], h => by simp at h
  | p :: r, h => by
    have ih := @lookup_in F h1 h2 x r
    have e : F p = (p.1, (F p).2) := by rw [← h1 p]
    rw [List.map_cons, e]
    obtain ⟨n, k⟩ := p
    cases hx : x == n with
    | true =>
      simp only [List.lookup_cons, hx] at h ⊢
      rcases h2 (n, k) with q | q
      · rw [q]
        exact h
      · rw [q]
        exact .inl rfl
    | false =>
      simp only [List.lookup_cons, hx] at h ⊢
      exact ih h
theorem blkOk_in {N : List Str} {sc scope : Scope} {own : List (Str × Nat)} {cl : List (Str × Addr)} {C : Addr} {env : Env} (h : BlkOk N sc scope own) : BlkOk N (compEnvC sc cl C env).scope scope own := by
  refine ⟨h.kind, h.uniq, h.ix, fun y hy e => lookup_in (fun p => ?_) (fun p => ?_) (h.free y hy e), h.own⟩
  · dsimp only
    split <;> rfl
  · dsimp only
    split
    · exact .inr rfl
    · exact .inl rfl
/-- a def of the module that may be called -/
structure Cal (P : Program) (w : World) (K : PySem.W.Frag) (mg : Str → Option Value) (base : Heap) (x : Str) (k : Nat) (ps : List Str) (sp : Sp) : Prop where
  ex : ∃ f fd, FnOk P w K mg base CX0 k f fd ps sp ∧ mg x = some (.ref f) ∧ PySem.W.keepIn K (.ref f) = true ∧ Binds K fd ps []
theorem pe_cal {X : Cx} {x : Str} {k : Nat} {ps : List Str} {sp : Sp} {p pos : Pos} {e : Expr} {es : List Expr} {t : TA} (C : Cal X.prog X.w X.K X.mg X.base x k ps sp) (hr : Room k X.A) (hg : Gl X x) (ha : PA X (e :: es) t) (hdb : (x == ("__debug__" : Str)) = false := by decide)
    (he : starEach (e :: es) X.env = (false, eval e X.env) :: starEach es X.env := by rfl) (hpl : (backTo pos (starEach es X.env)).any (·.1) = false := by rfl) : PE X (.Call (.Name x p) (e :: es) [] pos) (tCall sp [] E0 t) := by
  obtain ⟨f, fd, F, hm, hk, hb⟩ := C.ex
  exact pe_call F hr hg hm hk hb .nil pass0 ha hdb he hpl
end Ws

set_option Elab.async false
set_option linter.all false
set_option maxRecDepth 100000
set_option maxHeartbeats 2000000
/-! list(reversed(l)), l a list: a new list. -/
namespace Ws
open PySem PySem.Spec PyProof.Rows L2
section
variable {prog : Program} {w : World} {A : Around} {E : Value → Shared → Prop} {s : Shared} {it l S : Addr} {items : Array Value}
/-- what is left when the items of a reversed list have gone into the list at S -/
abbrev RevIn (s : Shared) (it S : Addr) (items : Array Value) (k : Heap → Nat → Array Value → Nat → Prop) : Prop :=
  ∀ h' tk acc c, (∀ b o, b ≠ S → b ≠ it → s.heap.get? b = some o → h'.get? b = some o) → h'.get? S = some { cls := .type "list", dict := none, data := .seq acc c, slots := #[] } → ItemsOf (fun i v => items[items.size - 1 - i]? = some v) acc items.size → k h' tk acc c
theorem extend_rev {res : Value} {c0 : Nat} {R : Result → Shared → Prop} (hh : A.handled = none) (hi : s.heap.IsRevIter it l ((items.size : Int) - 1)) (hl : s.heap.IsList l items) (hne : l ≠ it) (hn : items.size ≤ sizeLine) (hSi : S ≠ it) (hSl : S ≠ l)
    (hS : s.heap.get? S = some { cls := .type "list", data := .seq #[] c0 }) (hR : RevIn s it S items fun h' tk acc c => R (.ok (.ret res)) { s with heap := h', toks := tk }) :
    wpAny (model prog w) A.in1 (Builtin.List.listExtendWith (.ref S) (.ref it) res)
      (fun fin s' => match fin with
        | .done f => R (.ok f) s'
        | .again c' => c'.quiet = true ∧ codeAny (model prog w) A c' R s') (fun e s' => R (.error e) s') s := by
  have hT : s.TypeIs (.ref it) "list_reverseiterator" := hi.typeIs
  have nf : S ∉ [it, l] := fun z => by
    rcases List.mem_cons.mp z with z | z
    · exact hSi z
    · exact hSl (List.mem_singleton.mp z)
  have same : Builtin.List.listSameRef (.ref S) (.ref it) = false := by simp [Builtin.List.listSameRef, hSi]
  have at0 : ((items.size : Nat) : Int) - 1 - ((0 : Nat) : Int) = (items.size : Int) - 1 := by omega
  unfold Builtin.List.listExtendWith
  refine wpAny_bind (wpAny_typeOf hT ?_)
  rw [if_neg (by rw [same]; decide)]
  refine wpAny_bind (wpAny_pyIter_revIter hi (wpAny_bind (wpAny_holding ?_)))
  unfold Builtin.List.listLengthHint
  refine wpAny_bind (wpAny_specialOf hT RT.nolen_lri ?_)
  show wpAny _ A.in1 (specialOf (Value.ref it) (Str.ofString "__length_hint__") >>= _) _ _ _
  refine wpAny_bind (wpAny_specialOf hT RT.hint_lri ?_)
  generalize eid : ("list_reverseiterator.__length_hint__" : String) = id0
  wp_delta
  rw [show splitId id0 = some ("list_reverseiterator", "__length_hint__") from by subst eid; decide +kernel]
  subst eid
  refine wpAny_bind (wpAny_isInstance (b := true) hT (by rw [isSubtype_type]; kernel_rfl) (wpAny_pure ?_))
  rw [if_neg (by decide)]
  refine wpAny_pure ⟨plainId_quiet F.plain_extend_loop _, ?_⟩
  refine codeAny_extend_loopS (Walks.listRev (prog := prog) (w := w) (A := A.in1) hh it l hne items).toS hn S nf res items.size 0 _ _ _ rfl (Nat.zero_le _) ⟨Nat.zero_le _, by rw [at0]; exact hi, hl⟩ hS (ItemsOf.nil _) fun s' acc c hm hS' hacc => ?_
  rw [Moved.eq_with hm]
  refine hR s'.heap s'.toks acc c (fun b o h1 h2 e => hm.heap b o (fun z => ?_) e) hS' hacc
  rcases List.mem_cons.mp z with z | z
  · exact h1 z
  · exact h2 (List.mem_singleton.mp z)
theorem init_rev {R : Result → Shared → Prop} (hh : A.handled = none) (hi : s.heap.IsRevIter it l ((items.size : Int) - 1)) (hl : s.heap.IsList l items) (hne : l ≠ it) (hn : items.size ≤ sizeLine) (hSi : S ≠ it) (hSl : S ≠ l)
    (hS : s.heap.get? S = some { cls := .type "list", data := .seq #[] }) (hR : RevIn s it S items fun h' tk acc c => R (.ok (.ret .none)) { s with heap := h', toks := tk }) :
    wpAny (model prog w) A.in1 (Builtin.«list.__init__» ⟨[.ref S, .ref it], []⟩)
      (fun fin s' => match fin with
        | .done f => R (.ok f) s'
        | .again c' => c'.quiet = true ∧ codeAny (model prog w) A c' R s') (fun e s' => R (.error e) s') s := by
  show wpAny _ _ (do
    let old ← Builtin.List.listItems (.ref S)
    Builtin.List.listUpdate (.ref S) (fun _ => #[])
    letGo old.toList.reverse
    Builtin.List.listExtendWith (.ref S) (.ref it) .none) _ _ s
  refine wpAny_bind ?_
  unfold Builtin.List.listItems
  refine wpAny_bind (wpAny_seqItems hS rfl (wpAny_pure ?_))
  have hS2 := Heap.get?_update_self (Obj.mapSeq (fun _ => (#[] : Array Value))) hS rfl
  have other : ∀ b o, b ≠ S → s.heap.get? b = some o → (s.heap.update S (Obj.mapSeq (fun _ => (#[] : Array Value)))).get? b = some o := fun b o hb e => (Heap.get?_update_other _ _ (Ne.symm hb)).trans e
  refine wpAny_bind (wpAny_updateSeq hS rfl (wpAny_bind (wpAny_letGo ?_)))
  refine extend_rev hh (hi.at fun o e => other it o hSi.symm e) ?_ hne hn hSi hSl hS2 fun h' tk acc c hk hS' hacc => hR h' tk acc c (fun b o h1 h2 e => hk b o h1 h2 (other b o h1 e)) hS' hacc
  obtain ⟨o, e, r⟩ := id hl
  exact ⟨o, other l o hSl.symm e, r⟩
theorem call_list_rev {Q : Value → Shared → Prop} (hh : A.handled = none) (hi : s.heap.IsRevIter it l ((items.size : Int) - 1)) (hl : s.heap.IsList l items) (hne : l ≠ it) (hn : items.size ≤ sizeLine)
    (hQ : ∀ h' tk acc c, (∀ b o, b ≠ it → s.heap.get? b = some o → h'.get? b = some o) → h'.get? s.heap.objs.size = some { cls := .type "list", dict := none, data := .seq acc c, slots := #[] } → ItemsOf (fun i v => items[items.size - 1 - i]? = some v) acc items.size → Q (.ref s.heap.objs.size) { s with heap := h', toks := tk }) :
    wpAny (model prog w) A (call (.type "list") [.ref it]) Q E s := by
  obtain ⟨oi, ei, _⟩ := id hi
  obtain ⟨ol, el, _⟩ := id hl
  refine callType_codes (Q₁ := fun obj t => obj = .ref s.heap.objs.size ∧ t = { s with heap := s.heap.push { cls := .type "list", data := .seq #[] } }) PySem.F.called_list (PySem.F.typeCall_list_1 _) PySem.F.entry_list_init (code_list_new _ ⟨rfl, rfl⟩) fun obj t h => ?_
  obtain ⟨rfl, rfl⟩ := h
  have new : (s.heap.push { cls := .type "list", data := .seq #[] }).get? s.heap.objs.size = some { cls := .type "list", data := .seq #[] } := Heap.get?_push_size _ rfl
  refine ⟨⟨_, new, rfl⟩, PySem.F.args_list_init_2 _ _, init_rev (A := A.in1) hh (hi.at fun o e => Heap.get?_push_of_some _ e) (hl.push _) hne hn (Nat.ne_of_gt (Heap.lt_size ei)) (Nat.ne_of_gt (Heap.lt_size el)) new fun h' tk acc c hk hS' hacc => ?_⟩
  exact ⟨rfl, hQ h' tk acc c (fun b o hb e => hk b o (Nat.ne_of_lt (Heap.lt_size e)) hb (Heap.get?_push_of_some _ e)) hS' hacc⟩
end
/-- list(reversed(x)), x a list: a new list -/
def tLstRev (K : PySem.W.Frag) (te : TE) : TE := fun σ H Q => te σ H fun v H1 => ∃ (a : Addr) (xs : List V), v = .ref a ∧ SqL K H1 a xs ∧ ∀ q, H1 q = none → Q (.ref q) (upd H1 q (.lst xs.reverse))
theorem pe_listRev {X : Cx} {e : Expr} {te : TE} {p p2 pos pos2 : Pos} (hc : X.calm = true) (hg : Gl X "list") (hm : X.mg "list" = none) (hg2 : Gl X "reversed") (hm2 : X.mg "reversed" = none) (he : PE X e te)
    (n1 : starEach [e] X.env = (false, eval e X.env) :: starEach [] X.env := by rfl)
    (n2 : starEach [.Call (.Name "reversed" p2) [e] [] pos2] X.env = (false, eval (.Call (.Name "reversed" p2) [e] [] pos2) X.env) :: starEach [] X.env := by rfl) :
    PE X (.Call (.Name "list" p) [.Call (.Name "reversed" p2) [e] [] pos2] [] pos) (tLstRev X.K te) := by
  refine ⟨fun pins s σ H Q I h => ?_⟩
  refine Call_ (ld_blt I hg hm boot_list (PyProof.Rows.callWith_type1 (args_cons (Call_ (ld_blt I hg2 hm2 PyProof.Rows.boot_reversed (PyProof.Rows.callWith_type1 (args_cons (thn (he.run pins s σ H _ I h) fun u t ⟨v, H1, I1, r1, q1⟩ => args_nil ?_) n1) n1 rfl))) n2) n2 rfl))
  obtain ⟨a, xs, rfl, hq, q⟩ := q1
  obtain rfl : u = Value.ref a := r1
  obtain ⟨its, rv, pl, hz⟩ := I1.list hq
  have hl := pl.isList
  obtain ⟨ol, eol, _⟩ := id hl
  refine call_reversed_list hl (args_nil ?_)
  have fp := I1.fpOk (H' := H1) (b := t.heap.objs.size) (Nat.le_refl _) (I1.hok.fresh (Nat.le_refl _))
  have I2 : Inv X pins σ H1 { t with heap := t.heap.push (revObj a ((its.toArray.size : Int) - 1)) } := I1.kept (t' := t.toks) fun b o z => Heap.get?_push_of_some _ z
  have hn : its.toArray.size ≤ sizeLine := by
    rw [List.size_toArray, ← rv.length]
    exact hz
  refine call_list_rev (s := { t with heap := t.heap.push (revObj a ((its.toArray.size : Int) - 1)) }) (I1.ok.hd hc) ⟨_, Heap.get?_push_size _ rfl, rfl, rfl⟩ (hl.push _) (Nat.ne_of_lt (Heap.lt_size eol)) hn fun h' tk acc c hk hS hacc => ?_
  obtain ⟨f0, f1, f2, f3, f4, f5⟩ := fp
  -- first the new list is laid, then the iterator has turned
  have hs2 : (t.heap.push (revObj a ((its.toArray.size : Int) - 1))).objs.size = t.heap.objs.size + 1 := Heap.size_push _ _
  have I3 := I2.laid (t' := tk) (h' := (t.heap.push (revObj a ((its.toArray.size : Int) - 1))).push { cls := .type "list", dict := none, data := .seq acc c, slots := #[] }) (o := .lst xs.reverse) (fun b o z => Heap.get?_push_of_some _ z) (Nat.le_refl _)
    (show ObjOk X.prog X.w _ _ _ (.lst xs.reverse) from ⟨by rw [List.length_reverse]; exact hz, acc.toList, c, RT.vals_rev rv hacc, by rw [Array.toArray_toList]; exact Heap.get?_push_size _ rfl⟩)
  have f0' : upd H1 (t.heap.push (revObj a ((its.toArray.size : Int) - 1))).objs.size (.lst xs.reverse) t.heap.objs.size = none := by
    rw [upd_ne (show t.heap.objs.size ≠ _ by rw [hs2]; exact Nat.ne_of_lt (Nat.lt_succ_self _))]
    exact f0
  refine ⟨.ref _, _, I3.turned (t' := tk) (h' := h') (fun b o hb z => ?_) f0' f1 f3 f4 f5, rfl, q _ (I2.hok.fresh (Nat.le_refl _))⟩
  by_cases hD : b = (t.heap.push (revObj a ((its.toArray.size : Int) - 1))).objs.size
  · subst hD
    rw [Heap.get?_push_size _ rfl] at z
    rw [← z]
    exact hS
  · refine hk b o hb ?_
    rw [← Heap.get?_push_ne _ b _ hD]
    exact z
end Ws

set_option Elab.async false
namespace WsM
open Rb23

/-! ### numbers or nothing, in order -/
def Le : Num → Num → Prop
  | none, _ => True
  | some x, some y => x ≤ y
  | some _, none => False

theorem Le.refl : ∀ a, Le a a
  | none => trivial
  | some _ => Int.le_refl _
theorem Le.trans : ∀ {a b c}, Le a b → Le b c → Le a c
  | none, _, _, _, _ => trivial
  | some _, some _, some _, h, k => Int.le_trans h k
  | some _, some _, none, _, k => k.elim
  | some _, none, _, h, _ => h.elim
theorem Le.antisymm : ∀ {a b}, Le a b → Le b a → a = b
  | none, none, _, _ => rfl
  | none, some _, _, k => k.elim
  | some _, none, h, _ => h.elim
  | some _, some _, h, k => congrArg some (Int.le_antisymm h k)
theorem Le.of_some {x : Int} : ∀ {b : Num}, Le (some x) b → ∃ y, b = some y ∧ x ≤ y
  | some y, h => ⟨y, rfl, h⟩
  | none, h => h.elim
theorem Le.some_iff {x y : Int} : Le (some x) (some y) ↔ x ≤ y := Iff.rfl
theorem le_top_left : ∀ a b, Le a (top a b)
  | none, _ => trivial
  | some _, none => Int.le_refl _
  | some x, some y => Int.le_max_left x y
theorem le_top_right : ∀ a b, Le b (top a b)
  | none, b => Le.refl b
  | some _, none => trivial
  | some x, some y => Int.le_max_right x y
theorem top_le : ∀ {a b c}, Le a c → Le b c → Le (top a b) c
  | none, _, _, _, k => k
  | some _, none, _, h, _ => h
  | some _, some _, some _, h, k => Int.max_le.mpr ⟨h, k⟩
  | some _, some _, none, h, _ => h.elim
theorem top_cases : ∀ a b, top a b = a ∨ top a b = b
  | none, _ => .inr rfl
  | some _, none => .inl rfl
  | some x, some y => by
    show some (max x y) = some x ∨ some (max x y) = some y
    rw [Option.some.injEq, Option.some.injEq]
    omega
theorem top_none_left (a : Num) : top none a = a := rfl
theorem top_none_right : ∀ a : Num, top a none = a
  | none => rfl
  | some _ => rfl

theorem foldl_top_le {c : Num} : ∀ (l : List Num) (a : Num), Le a c → (∀ x ∈ l, Le x c) → Le (l.foldl top a) c
  | [], _, h, _ => h
  | x :: l, a, h, k => foldl_top_le l (top a x) (top_le h (k x (List.mem_cons_self ..))) fun y hy => k y (List.mem_cons_of_mem _ hy)
theorem le_foldl_top : ∀ (l : List Num) (a : Num), Le a (l.foldl top a) ∧ ∀ x ∈ l, Le x (l.foldl top a)
  | [], a => ⟨Le.refl a, fun _ h => by cases h⟩
  | x :: l, a => by
    have h := le_foldl_top l (top a x)
    refine ⟨Le.trans (le_top_left a x) h.1, fun y hy => ?_⟩
    rcases List.mem_cons.mp hy with rfl | hy
    · exact Le.trans (le_top_right a y) h.1
    · exact h.2 y hy
theorem foldl_top_mem : ∀ (l : List Num) (a : Num), l.foldl top a = a ∨ l.foldl top a ∈ l
  | [], _ => .inl rfl
  | x :: l, a => by
    rcases foldl_top_mem l (top a x) with h | h
    · rcases top_cases a x with e | e
      · left
        show l.foldl top (top a x) = a
        rw [h, e]
      · right
        show l.foldl top (top a x) ∈ x :: l
        rw [h, e]
        exact List.mem_cons_self ..
    · right
      exact List.mem_cons_of_mem _ h
theorem best_le {l : List Num} {c : Num} (h : ∀ x ∈ l, Le x c) : Le (best l) c := foldl_top_le l none trivial h
theorem le_best {l : List Num} {x : Num} (h : x ∈ l) : Le x (best l) := (le_foldl_top l none).2 x h
theorem best_mem {l : List Num} {x : Int} (h : best l = some x) : some x ∈ l := by
  rcases foldl_top_mem l none with e | e
  · have : best l = none := e
    rw [this] at h
    cases h
  · have e' : best l ∈ l := e
    rw [h] at e'
    exact e'

theorem plus_some {a b : Num} {s : Int} : plus a b = some s ↔ ∃ x y, a = some x ∧ b = some y ∧ s = x + y := by
  cases a <;> cases b <;> simp [plus, eq_comm]
theorem plus_zero : ∀ a : Num, plus a (some 0) = a
  | none => rfl
  | some x => congrArg some (Int.add_zero x)
theorem zero_plus : ∀ a : Num, plus (some 0) a = a
  | none => rfl
  | some x => congrArg some (Int.zero_add x)
theorem plus_none_right : ∀ a : Num, plus a none = none
  | none => rfl
  | some _ => rfl
theorem plus_assoc : ∀ a b c : Num, plus (plus a b) c = plus a (plus b c)
  | none, _, _ => rfl
  | some _, none, _ => rfl
  | some _, some _, none => rfl
  | some x, some y, some z => congrArg some (Int.add_assoc x y z)
theorem plus_comm : ∀ a b : Num, plus a b = plus b a
  | none, none => rfl
  | none, some _ => rfl
  | some _, none => rfl
  | some x, some y => congrArg some (Int.add_comm x y)
theorem plus_mono : ∀ {a b c d : Num}, Le a b → Le c d → Le (plus a c) (plus b d)
  | none, _, _, _, _, _ => trivial
  | some _, none, _, _, h, _ => h.elim
  | some _, some _, none, _, _, _ => trivial
  | some _, some _, some _, none, _, k => k.elim
  | some _, some _, some _, some _, h, k => Int.add_le_add h k

/-- x is the greatest of what P tells, nothing where P tells none -/
def IsSup (P : Int → Prop) (x : Num) : Prop := (∀ s, x = some s → P s) ∧ ∀ s, P s → Le (some s) x
theorem IsSup.unique {P : Int → Prop} : ∀ {x y : Num}, IsSup P x → IsSup P y → x = y
  | none, none, _, _ => rfl
  | none, some s, h, k => (h.2 s (k.1 s rfl)).elim
  | some s, none, h, k => (k.2 s (h.1 s rfl)).elim
  | some s, some t, h, k => congrArg some (Int.le_antisymm (k.2 s (h.1 s rfl)) (h.2 t (k.1 t rfl)))
theorem IsSup.congr {P Q : Int → Prop} {x : Num} (h : IsSup P x) (e : ∀ s, P s ↔ Q s) : IsSup Q x :=
  ⟨fun s z => (e s).mp (h.1 s z), fun s z => h.2 s ((e s).mpr z)⟩

/-! ### matrices -/
def Sq (n : Nat) (m : Mat) : Prop := m.length = n ∧ ∀ r ∈ m, r.length = n
theorem entry_made {n i j : Nat} {f : Nat → Nat → Num} (hi : i < n) (hj : j < n) : entry (made n f) i j = f i j := by
  simp [entry, made, hi, hj]
theorem entry_made_out {n i j : Nat} {f : Nat → Nat → Num} (h : ¬ (i < n ∧ j < n)) : entry (made n f) i j = none := by
  unfold entry made
  by_cases hi : i < n
  · have hj : ¬ j < n := fun z => h ⟨hi, z⟩
    simp [hi, hj]
  · simp [hi]
theorem made_sq (n : Nat) (f : Nat → Nat → Num) : Sq n (made n f) := by
  constructor
  · simp [made]
  · intro r hr
    simp only [made, List.mem_map, List.mem_range] at hr
    obtain ⟨i, _, rfl⟩ := hr
    simp
theorem entry_get {m : Mat} {i : Nat} (hi : i < m.length) (j : Nat) : entry m i j = (m[i]).getD j none := by
  have e : m.getD i [] = m[i] := by rw [List.getD_eq_getElem?_getD, List.getElem?_eq_getElem hi]; rfl
  unfold entry
  rw [e]
theorem entry_get_none {m : Mat} {i : Nat} (hi : ¬ i < m.length) (j : Nat) : entry m i j = none := by
  have e : m.getD i [] = [] := by rw [List.getD_eq_getElem?_getD, List.getElem?_eq_none (by omega)]; rfl
  unfold entry
  rw [e]
  rfl
theorem entry_out {n : Nat} {m : Mat} (h : Sq n m) {i j : Nat} {s : Int} (e : entry m i j = some s) : i < n ∧ j < n := by
  by_cases hi : i < m.length
  · have hr := h.2 (m[i]) (List.getElem_mem hi)
    rw [entry_get hi] at e
    by_cases hj : j < (m[i]).length
    · exact ⟨by rw [← h.1]; exact hi, by rw [← hr]; exact hj⟩
    · rw [List.getD_eq_getElem?_getD, List.getElem?_eq_none (by omega)] at e
      cases e
  · rw [entry_get_none hi] at e
    cases e
theorem made_congr {n : Nat} {f g : Nat → Nat → Num} (h : ∀ i j, i < n → j < n → f i j = g i j) : made n f = made n g := by
  unfold made
  apply List.map_congr_left
  intro i hi
  apply List.map_congr_left
  intro j hj
  exact h i j (List.mem_range.mp hi) (List.mem_range.mp hj)
theorem row_entry {n : Nat} {r : List Num} (h : r.length = n) : (List.range n).map (fun j => r.getD j none) = r := by
  apply List.ext_getElem
  · simp [h]
  · intro i h1 h2
    simp [h2]
theorem made_entry {n : Nat} {m : Mat} (h : Sq n m) : made n (entry m) = m := by
  unfold made
  apply List.ext_getElem
  · simp [h.1]
  · intro i h1 h2
    have hr := h.2 (m[i]) (List.getElem_mem h2)
    simp only [List.getElem_map, List.getElem_range]
    have : entry m i = fun j => (m[i]).getD j none := by
      funext j
      exact entry_get h2 j
    rw [this]
    exact row_entry hr
theorem mat_ext {n : Nat} {a b : Mat} (ha : Sq n a) (hb : Sq n b) (h : ∀ i j, i < n → j < n → entry a i j = entry b i j) : a = b := by
  rw [← made_entry ha, ← made_entry hb]
  exact made_congr h

/-! ### walks: the things gone to, one after the other -/
def pw (f : Nat → Nat → Num) : Nat → List Nat → Num
  | _, [] => some 0
  | i, v :: vs => plus (f i v) (pw f v vs)
def lst : Nat → List Nat → Nat
  | i, [] => i
  | _, v :: vs => lst v vs
theorem lst_append : ∀ (i : Nat) (vs ws : List Nat), lst i (vs ++ ws) = lst (lst i vs) ws
  | _, [], _ => rfl
  | _, v :: vs, ws => lst_append v vs ws
theorem pw_append {f : Nat → Nat → Num} : ∀ (i : Nat) (vs ws : List Nat), pw f i (vs ++ ws) = plus (pw f i vs) (pw f (lst i vs) ws)
  | i, [], ws => (zero_plus _).symm
  | i, v :: vs, ws => by
    show plus (f i v) (pw f v (vs ++ ws)) = plus (plus (f i v) (pw f v vs)) (pw f (lst v vs) ws)
    rw [pw_append v vs ws, plus_assoc]
theorem lst_mem : ∀ (i : Nat) (v : Nat) (vs : List Nat), lst i (v :: vs) ∈ v :: vs
  | _, v, [] => by simp [lst]
  | _, v, w :: vs => by
    show lst w vs ∈ _
    exact List.mem_cons_of_mem _ (lst_mem v w vs)
/-- f tells nothing outside of n -/
def Bd (n : Nat) (f : Nat → Nat → Num) : Prop := ∀ i j s, f i j = some s → i < n ∧ j < n
theorem Bd.of {n : Nat} {m : Mat} (h : Sq n m) : Bd n (entry m) := fun _ _ _ e => entry_out h e
theorem pw_bd {n : Nat} {f : Nat → Nat → Num} (h : Bd n f) : ∀ {vs : List Nat} {i : Nat} {s : Int}, pw f i vs = some s → ∀ v ∈ vs, v < n
  | v :: vs, i, s, e, u, hu => by
    obtain ⟨x, y, e1, e2, _⟩ := plus_some.mp e
    rcases List.mem_cons.mp hu with rfl | hu
    · exact (h _ _ _ e1).2
    · exact pw_bd h e2 u hu
/-- there is a walk of length k from i to j with the sum s -/
def Wk (f : Nat → Nat → Num) (k i j : Nat) (s : Int) : Prop := ∃ vs : List Nat, vs.length = k ∧ lst i vs = j ∧ pw f i vs = some s
theorem Wk.append {f : Nat → Nat → Num} {k l i j h : Nat} {s t : Int} (a : Wk f k i j s) (b : Wk f l j h t) : Wk f (k + l) i h (s + t) := by
  obtain ⟨vs, e1, e2, e3⟩ := a
  obtain ⟨ws, f1, f2, f3⟩ := b
  refine ⟨vs ++ ws, by simp [e1, f1], by rw [lst_append, e2, f2], ?_⟩
  rw [pw_append, e3, e2, f3]
  rfl
theorem Wk.split {f : Nat → Nat → Num} {k l i h : Nat} {s : Int} (a : Wk f (k + l) i h s) : ∃ j x y, Wk f k i j x ∧ Wk f l j h y ∧ s = x + y := by
  obtain ⟨vs, e1, e2, e3⟩ := a
  have e := List.take_append_drop k vs
  rw [← e, pw_append] at e3
  rw [← e, lst_append] at e2
  obtain ⟨x, y, h1, h2, h3⟩ := plus_some.mp e3
  exact ⟨lst i (vs.take k), x, y, ⟨vs.take k, by rw [List.length_take]; omega, rfl, h1⟩, ⟨vs.drop k, by rw [List.length_drop]; omega, e2, h2⟩, h3⟩
theorem Wk.lt {n : Nat} {f : Nat → Nat → Num} (hb : Bd n f) {k i j : Nat} {s : Int} (hi : i < n) (a : Wk f k i j s) : j < n := by
  obtain ⟨vs, e1, e2, e3⟩ := a
  cases vs with
  | nil => rw [← e2]; exact hi
  | cons v vs =>
    rw [← e2]
    exact pw_bd hb e3 _ (lst_mem i v vs)
theorem Wk.zero {f : Nat → Nat → Num} {i j : Nat} {s : Int} : Wk f 0 i j s ↔ i = j ∧ s = 0 := by
  constructor
  · rintro ⟨vs, e1, e2, e3⟩
    have : vs = [] := List.length_eq_zero_iff.mp e1
    subst this
    exact ⟨e2, (Option.some.inj e3).symm⟩
  · rintro ⟨rfl, rfl⟩
    exact ⟨[], rfl, rfl, rfl⟩
theorem Wk.one {f : Nat → Nat → Num} {i j : Nat} {s : Int} : Wk f 1 i j s ↔ f i j = some s := by
  constructor
  · rintro ⟨vs, e1, e2, e3⟩
    match vs, e1 with
    | [v], _ =>
      have e2 : v = j := e2
      subst e2
      have e3 : plus (f i v) (some 0) = some s := e3
      rw [plus_zero] at e3
      exact e3
  · intro e
    exact ⟨[j], rfl, rfl, (plus_zero _).trans e⟩

/-! ### products and powers -/
theorem mul_sup {n : Nat} {a b : Mat} {P Q : Nat → Nat → Int → Prop} {i j : Nat} (hi : i < n) (hj : j < n) (ha : ∀ k, k < n → IsSup (P i k) (entry a i k)) (hb : ∀ k, k < n → IsSup (Q k j) (entry b k j)) :
    IsSup (fun s => ∃ k x y, k < n ∧ P i k x ∧ Q k j y ∧ s = x + y) (entry (mul n a b) i j) := by
  unfold mul
  rw [entry_made hi hj]
  constructor
  · intro s e
    have m := best_mem e
    obtain ⟨k, hk, e⟩ := List.mem_map.mp m
    rw [List.mem_range] at hk
    obtain ⟨x, y, e1, e2, e3⟩ := plus_some.mp e
    exact ⟨k, x, y, hk, (ha k hk).1 x e1, (hb k hk).1 y e2, e3⟩
  · rintro s ⟨k, x, y, hk, p, q, rfl⟩
    refine Le.trans ?_ (le_best (List.mem_map.mpr ⟨k, List.mem_range.mpr hk, rfl⟩))
    exact plus_mono (a := some x) (c := some y) ((ha k hk).2 x p) ((hb k hk).2 y q)
theorem mul_sq (n : Nat) (a b : Mat) : Sq n (mul n a b) := made_sq n _
theorem one_sq (n : Nat) : Sq n (one n) := made_sq n _
theorem pow_sq (n : Nat) (a : Mat) : ∀ k, Sq n (pow n a k)
  | 0 => one_sq n
  | _ + 1 => mul_sq n _ _
theorem one_sup {n : Nat} {f : Nat → Nat → Num} {i j : Nat} (hi : i < n) (hj : j < n) : IsSup (Wk f 0 i j) (entry (one n) i j) := by
  unfold one
  rw [entry_made hi hj]
  constructor
  · intro s e
    by_cases h : i = j
    · rw [if_pos h] at e
      exact Wk.zero.mpr ⟨h, (Option.some.inj e).symm⟩
    · rw [if_neg h] at e
      cases e
  · intro s w
    obtain ⟨rfl, rfl⟩ := Wk.zero.mp w
    rw [if_pos rfl]
    exact Le.refl _
theorem entry_sup (f : Nat → Nat → Num) (i j : Nat) : IsSup (Wk f 1 i j) (f i j) :=
  ⟨fun _ e => Wk.one.mpr e, fun s w => by rw [Wk.one.mp w]; exact Le.refl _⟩
/-- a product of what is greatest of walks of length k and l is greatest of walks of length k + l -/
theorem mul_wk {n : Nat} {f : Nat → Nat → Num} (hf : Bd n f) {a b : Mat} {k l : Nat} (ha : ∀ i j, i < n → j < n → IsSup (Wk f k i j) (entry a i j)) (hb : ∀ i j, i < n → j < n → IsSup (Wk f l i j) (entry b i j)) {i j : Nat} (hi : i < n) (hj : j < n) :
    IsSup (Wk f (k + l) i j) (entry (mul n a b) i j) := by
  refine (mul_sup (P := Wk f k) (Q := Wk f l) hi hj (fun h hh => ha i h hi hh) (fun h hh => hb h j hh hj)).congr fun s => ?_
  constructor
  · rintro ⟨h, x, y, _, p, q, rfl⟩
    exact p.append q
  · intro w
    obtain ⟨h, x, y, p, q, e⟩ := w.split
    exact ⟨h, x, y, p.lt hf hi, p, q, e⟩
theorem pow_wk {n : Nat} {a : Mat} (h : Sq n a) : ∀ (k : Nat) {i j : Nat}, i < n → j < n → IsSup (Wk (entry a) k i j) (entry (pow n a k) i j)
  | 0, _, _, hi, hj => one_sup hi hj
  | k + 1, _, _, hi, hj => mul_wk (Bd.of h) (fun _ _ p q => pow_wk h k p q) (fun i j _ _ => entry_sup (entry a) i j) hi hj
theorem pow_add {n : Nat} {a : Mat} (h : Sq n a) (k l : Nat) : mul n (pow n a k) (pow n a l) = pow n a (k + l) :=
  mat_ext (mul_sq n _ _) (pow_sq n a _) fun _ _ hi hj => IsSup.unique (mul_wk (Bd.of h) (fun _ _ p q => pow_wk h k p q) (fun _ _ p q => pow_wk h l p q) hi hj) (pow_wk h (k + l) hi hj)
theorem pow_one {n : Nat} {a : Mat} (h : Sq n a) : pow n a 1 = a :=
  mat_ext (pow_sq n a 1) h fun i j hi hj => IsSup.unique (pow_wk h 1 hi hj) (entry_sup (entry a) i j)
theorem mul_pow {n : Nat} {a : Mat} (k : Nat) : mul n (pow n a k) a = pow n a (k + 1) := rfl
/-- the powers, from 0 on -/
theorem powers_eq (n : Nat) (a : Mat) (k : Nat) : powers n a k = (List.range (k + 1)).map (pow n a) := by
  have key : ∀ k, (List.range k).foldl (fun (x : List Mat × Mat) (_ : Nat) => let m := mul n x.2 a; (m :: x.1, m)) ([one n], one n) = (((List.range (k + 1)).map (pow n a)).reverse, pow n a k) := by
    intro k
    induction k with
    | zero => rfl
    | succ k ih =>
      rw [List.range_succ, List.foldl_append, ih]
      show (pow n a (k + 1) :: ((List.range (k + 1)).map (pow n a)).reverse, pow n a (k + 1)) = _
      rw [List.range_succ (n := k + 1), List.map_append, List.reverse_append]
      rfl
  unfold powers
  rw [key k]
  exact List.reverse_reverse _
theorem powers_last (n : Nat) (a : Mat) (k : Nat) : (powers n a k).getLastD [] = pow n a k := by
  rw [powers_eq, List.range_succ, List.map_append]
  simp
end WsM

set_option Elab.async false
namespace WsM
open Rb23

/-! ### used columns, a bit for each -/
def free (m j : Nat) : Bool := m / 2 ^ j % 2 == 0
theorem bits_lt : ∀ (n : Fin 9) (m : Fin 256) (j : Fin 8), m.val < 2 ^ n.val → j.val < n.val → free m.val j.val = true → m.val + 2 ^ j.val < 2 ^ n.val := by decide +kernel
theorem bits_put : ∀ (m : Fin 256) (j k : Fin 8), free m.val j.val = true → free (m.val + 2 ^ j.val) k.val = (!(k.val == j.val) && free m.val k.val) := by decide +kernel
theorem free_lt {n m j : Nat} (hn : n ≤ 8) (hm : m < 2 ^ n) (hj : j < n) (h : free m j = true) : m + 2 ^ j < 2 ^ n := by
  have h256 : 2 ^ n ≤ 2 ^ 8 := Nat.pow_le_pow_right (by decide) hn
  exact bits_lt ⟨n, by omega⟩ ⟨m, by omega⟩ ⟨j, by omega⟩ hm hj h
theorem free_put {n m j k : Nat} (hn : n ≤ 8) (hm : m < 2 ^ n) (hj : j < n) (hk : k < n) (h : free m j = true) : free (m + 2 ^ j) k = (!(k == j) && free m k) := by
  have h256 : 2 ^ n ≤ 2 ^ 8 := Nat.pow_le_pow_right (by decide) hn
  exact bits_put ⟨m, by omega⟩ ⟨j, by omega⟩ ⟨k, by omega⟩ h

/-! ### the program's tables and columns -/
/-- the greatest sum from row i on, f rows, with the used columns m -/
def tv (n : Nat) (a : Mat) : Nat → Nat → Nat → Num
  | 0, _, _ => some 0
  | f + 1, i, m => best (((List.range n).filter (free m)).map fun j => plus (entry a i j) (tv n a f (i + 1) (m + 2 ^ j)))
/-- the free columns by which the greatest sum is reached -/
def hits (n : Nat) (a : Mat) (f i m : Nat) : List Nat := ((List.range n).filter (free m)).filter fun j => decide (plus (entry a i j) (tv n a f (i + 1) (m + 2 ^ j)) = tv n a (f + 1) i m)
def cols (n : Nat) (a : Mat) : Nat → Nat → Nat → List Nat
  | 0, _, _ => []
  | f + 1, i, m => ((hits n a f i m).headD 0) :: cols n a f (i + 1) (m + 2 ^ ((hits n a f i m).headD 0))
/-- there is one -/
theorem hits_ne {n : Nat} {a : Mat} {f i m : Nat} {s : Int} (h : tv n a (f + 1) i m = some s) : ∃ j l, hits n a f i m = j :: l ∧ j < n ∧ free m j = true ∧ plus (entry a i j) (tv n a f (i + 1) (m + 2 ^ j)) = some s := by
  have e : best (((List.range n).filter (free m)).map fun j => plus (entry a i j) (tv n a f (i + 1) (m + 2 ^ j))) = some s := h
  obtain ⟨j, hj, e1⟩ := List.mem_map.mp (best_mem e)
  have hm : j ∈ hits n a f i m := List.mem_filter.mpr ⟨hj, decide_eq_true (by rw [h]; exact e1)⟩
  cases q : hits n a f i m with
  | nil =>
    rw [q] at hm
    cases hm
  | cons k l =>
    have hk : k ∈ hits n a f i m := by
      rw [q]
      exact List.mem_cons_self ..
    have h1 := List.mem_filter.mp hk
    have h2 := List.mem_filter.mp h1.1
    have h3 := of_decide_eq_true h1.2
    rw [h] at h3
    exact ⟨k, l, rfl, List.mem_range.mp h2.1, h2.2, h3⟩

/-! ### the specification's choices -/
abbrev Ch := List Nat × Int
def comb : Option Ch → Option Ch → Option Ch
  | none, y => y
  | some x, none => some x
  | some x, some y => if x.2 < y.2 then some y else some x
def fbStep (b : Option Ch) (x : Ch) : Option Ch := match b with
  | none => some x
  | some y => if y.2 < x.2 then some x else some y
theorem firstBest_eq (l : List Ch) : firstBest l = l.foldl fbStep none := rfl
theorem comb_none : ∀ x, comb x none = x
  | none => rfl
  | some _ => rfl
theorem fb_foldl : ∀ (l : List Ch) (b : Option Ch), l.foldl fbStep b = comb b (l.foldl fbStep none)
  | [], b => (comb_none b).symm
  | x :: l, b => by
    show l.foldl fbStep (fbStep b x) = comb b (l.foldl fbStep (some x))
    rw [fb_foldl l (fbStep b x), fb_foldl l (some x)]
    cases b with
    | none => rfl
    | some y =>
      cases z : l.foldl fbStep none with
      | none =>
        rw [comb_none, comb_none]
        rfl
      | some w =>
        show comb (if y.2 < x.2 then some x else some y) (some w) = comb (some y) (if x.2 < w.2 then some w else some x)
        by_cases h1 : y.2 < x.2
        · rw [if_pos h1]
          by_cases h2 : x.2 < w.2
          · rw [if_pos h2]
            show (if x.2 < w.2 then some w else some x) = if y.2 < w.2 then some w else some y
            rw [if_pos h2, if_pos (by omega)]
          · rw [if_neg h2]
            show (if x.2 < w.2 then some w else some x) = if y.2 < x.2 then some x else some y
            rw [if_neg h2, if_pos h1]
        · rw [if_neg h1]
          by_cases h2 : x.2 < w.2
          · rw [if_pos h2]
          · rw [if_neg h2]
            show (if y.2 < w.2 then some w else some y) = if y.2 < x.2 then some x else some y
            rw [if_neg h1, if_neg (by omega)]
theorem fb_append (l k : List Ch) : firstBest (l ++ k) = comb (firstBest l) (firstBest k) := by
  rw [firstBest_eq, List.foldl_append, fb_foldl]
  rfl
theorem fb_map {g : Ch → Ch} {d : Int} (hg : ∀ x, (g x).2 = d + x.2) : ∀ (l : List Ch) (b : Option Ch), (l.map g).foldl fbStep (b.map g) = (l.foldl fbStep b).map g
  | [], _ => rfl
  | x :: l, b => by
    show (l.map g).foldl fbStep (fbStep (b.map g) (g x)) = (l.foldl fbStep (fbStep b x)).map g
    rw [← fb_map hg l (fbStep b x)]
    congr 1
    cases b with
    | none => rfl
    | some y =>
      show (if (g y).2 < (g x).2 then some (g x) else some (g y)) = (if y.2 < x.2 then some x else some y).map g
      rw [hg, hg]
      by_cases h : y.2 < x.2
      · rw [if_pos h, if_pos (by omega)]
        rfl
      · rw [if_neg h, if_neg (by omega)]
        rfl
def val (o : Option Ch) : Num := o.map (·.2)
theorem val_comb : ∀ x y, val (comb x y) = top (val x) (val y)
  | none, _ => rfl
  | some _, none => rfl
  | some x, some y => by
    show val (if x.2 < y.2 then some y else some x) = some (max x.2 y.2)
    by_cases h : x.2 < y.2
    · rw [if_pos h, Int.max_eq_right (by omega)]
      rfl
    · rw [if_neg h, Int.max_eq_left (by omega)]
      rfl
theorem foldl_top (l : List Num) : ∀ a b : Num, l.foldl top (top a b) = top a (l.foldl top b) := by
  have assoc : ∀ a b c : Num, top (top a b) c = top a (top b c) := fun a b c => Le.antisymm
    (top_le (top_le (le_top_left _ _) (Le.trans (le_top_left b c) (le_top_right _ _))) (Le.trans (le_top_right b c) (le_top_right _ _)))
    (top_le (Le.trans (le_top_left a b) (le_top_left _ _)) (top_le (Le.trans (le_top_right a b) (le_top_left _ _)) (le_top_right _ _)))
  induction l with
  | nil => intro a b; rfl
  | cons x l ih =>
    intro a b
    show l.foldl top (top (top a b) x) = top a (l.foldl top (top b x))
    rw [assoc, ih]
theorem best_cons (x : Num) (l : List Num) : best (x :: l) = top x (best l) := by
  show l.foldl top (top none x) = _
  have : top none x = top x none := by rw [top_none_left, top_none_right]
  rw [this, foldl_top]
  rfl
/-- of blocks one behind the other: the value is the greatest, and the first block that has it gives the first best -/
theorem fb_flatMap {b : Nat → List Ch} : ∀ js : List Nat, val (firstBest (js.flatMap b)) = best (js.map fun j => val (firstBest (b j))) ∧
    ∀ s j l, best (js.map fun j => val (firstBest (b j))) = some s → js.filter (fun j => decide (val (firstBest (b j)) = some s)) = j :: l → firstBest (js.flatMap b) = firstBest (b j)
  | [] => ⟨rfl, fun _ _ _ h _ => by cases h⟩
  | k :: js => by
    obtain ⟨ih1, ih2⟩ := fb_flatMap (b := b) js
    have e1 : val (firstBest ((k :: js).flatMap b)) = top (val (firstBest (b k))) (best (js.map fun j => val (firstBest (b j)))) := by
      rw [List.flatMap_cons, fb_append, val_comb, ih1]
    refine ⟨by rw [e1, List.map_cons, best_cons], fun s j l h hf => ?_⟩
    rw [List.map_cons, best_cons] at h
    rw [List.flatMap_cons, fb_append]
    by_cases hk : val (firstBest (b k)) = some s
    · rw [List.filter_cons, if_pos (decide_eq_true hk)] at hf
      have : k = j := (List.cons.inj hf).1
      subst this
      cases q : firstBest (b k) with
      | none =>
        rw [q] at hk
        cases hk
      | some x =>
        cases z : firstBest (js.flatMap b) with
        | none => rfl
        | some y =>
          show (if x.2 < y.2 then some y else some x) = some x
          have hx : x.2 = s := by
            rw [q] at hk
            exact Option.some.inj hk
          have hy : Le (some y.2) (some s) := by
            rw [← h]
            have : val (firstBest (js.flatMap b)) = some y.2 := by rw [z]; rfl
            rw [← this, ih1]
            exact le_top_right _ _
          have hy : y.2 ≤ s := hy
          rw [if_neg (by omega)]
    · rw [List.filter_cons, if_neg (by rw [decide_eq_true_eq]; exact hk)] at hf
      have hr : best (js.map fun j => val (firstBest (b j))) = some s := by
        rcases top_cases (val (firstBest (b k))) (best (js.map fun j => val (firstBest (b j)))) with q | q
        · rw [q] at h
          exact absurd h hk
        · rw [q] at h
          exact h
      have g := ih2 s j l hr hf
      rw [g]
      have hj : j ∈ js.filter (fun j => decide (val (firstBest (b j)) = some s)) := by
        rw [hf]
        exact List.mem_cons_self ..
      have hj := of_decide_eq_true (List.mem_filter.mp hj).2
      cases q : firstBest (b k) with
      | none => rfl
      | some x =>
        cases z : firstBest (b j) with
        | none =>
          rw [z] at hj
          cases hj
        | some y =>
          show (if x.2 < y.2 then some y else some x) = some y
          have hy : y.2 = s := by
            rw [z] at hj
            exact Option.some.inj hj
          have hle : Le (some x.2) (some s) := by
            rw [← h]
            have : val (firstBest (b k)) = some x.2 := by rw [q]; rfl
            rw [← this]
            exact le_top_left _ _
          have hle : x.2 ≤ s := hle
          have hne : x.2 ≠ s := fun z2 => hk (by rw [q, ← z2]; rfl)
          rw [if_pos (by omega)]
def blk (n : Nat) (a : Mat) (f i : Nat) (used : List Nat) (j : Nat) : List Ch := match entry a i j with
  | none => []
  | some s => (choices n a f (i + 1) (j :: used)).map fun x => (j :: x.1, s + x.2)
theorem choices_succ (n : Nat) (a : Mat) (f i : Nat) (used : List Nat) : choices n a (f + 1) i used = ((List.range n).filter fun j => !used.contains j).flatMap (blk n a f i used) := rfl
theorem blk_best {n : Nat} {a : Mat} {f i : Nat} {used : List Nat} {j : Nat} {s : Int} (h : entry a i j = some s) : firstBest (blk n a f i used j) = (firstBest (choices n a f (i + 1) (j :: used))).map fun x => (j :: x.1, s + x.2) := by
  unfold blk
  rw [h]
  exact fb_map (g := fun x => (j :: x.1, s + x.2)) (d := s) (fun _ => rfl) _ none
theorem blk_val {n : Nat} {a : Mat} {f i : Nat} {used : List Nat} {j : Nat} : val (firstBest (blk n a f i used j)) = plus (entry a i j) (val (firstBest (choices n a f (i + 1) (j :: used)))) := by
  cases h : entry a i j with
  | none =>
    unfold blk
    rw [h]
    rfl
  | some s =>
    rw [blk_best h]
    cases firstBest (choices n a f (i + 1) (j :: used)) with
    | none => rfl
    | some x => rfl
/-- **the tables tell the choices** -/
theorem choices_tv {n : Nat} {a : Mat} (hn : n ≤ 8) : ∀ (f i m : Nat) (used : List Nat), m < 2 ^ n → (∀ j, j < n → free m j = !used.contains j) →
    val (firstBest (choices n a f i used)) = tv n a f i m ∧ ∀ s, tv n a f i m = some s → firstBest (choices n a f i used) = some (cols n a f i m, s)
  | 0, i, m, used, _, _ => ⟨rfl, fun s h => by
      have : (0 : Int) = s := Option.some.inj h
      subst this
      rfl⟩
  | f + 1, i, m, used, hm, hu => by
    have hjs : ((List.range n).filter fun j => !used.contains j) = (List.range n).filter (free m) := List.filter_congr fun j hj => (hu j (List.mem_range.mp hj)).symm
    have ih : ∀ j ∈ (List.range n).filter (free m), val (firstBest (choices n a f (i + 1) (j :: used))) = tv n a f (i + 1) (m + 2 ^ j) ∧ ∀ s, tv n a f (i + 1) (m + 2 ^ j) = some s → firstBest (choices n a f (i + 1) (j :: used)) = some (cols n a f (i + 1) (m + 2 ^ j), s) := fun j hj => by
      have hj1 := List.mem_range.mp (List.mem_filter.mp hj).1
      have hj2 := (List.mem_filter.mp hj).2
      refine choices_tv hn f (i + 1) (m + 2 ^ j) (j :: used) (free_lt hn hm hj1 hj2) fun k hk => ?_
      rw [free_put hn hm hj1 hk hj2, hu k hk, List.contains_cons, Bool.not_or]
    have hv : ((List.range n).filter (free m)).map (fun j => val (firstBest (blk n a f i used j))) = ((List.range n).filter (free m)).map fun j => plus (entry a i j) (tv n a f (i + 1) (m + 2 ^ j)) := List.map_congr_left fun j hj => by
      rw [blk_val, (ih j hj).1]
    have main := fb_flatMap (b := blk n a f i used) ((List.range n).filter (free m))
    rw [hv] at main
    rw [choices_succ, hjs]
    refine ⟨main.1, fun s h => ?_⟩
    obtain ⟨j, l, q, hj1, hj2, e⟩ := hits_ne h
    have hj : j ∈ (List.range n).filter (free m) := List.mem_filter.mpr ⟨List.mem_range.mpr hj1, hj2⟩
    have hf : ((List.range n).filter (free m)).filter (fun j => decide (val (firstBest (blk n a f i used j)) = some s)) = j :: l := by
      rw [← q]
      unfold hits
      refine List.filter_congr fun k hk => ?_
      rw [blk_val, (ih k hk).1, h]
    have g := main.2 s j l h hf
    rw [g]
    obtain ⟨x, y, e1, e2, e3⟩ := plus_some.mp e
    rw [blk_best e1, (ih j hj).2 y e2]
    show some (j :: cols n a f (i + 1) (m + 2 ^ j), x + y) = some (cols n a (f + 1) i m, s)
    rw [← e3]
    show some (j :: cols n a f (i + 1) (m + 2 ^ j), s) = some (((hits n a f i m).headD 0) :: cols n a f (i + 1) (m + 2 ^ ((hits n a f i m).headD 0)), s)
    rw [q]
    rfl
/-- **assign**: what the specification answers -/
theorem assign_eq {n : Nat} {a : Mat} (hn : n ≤ 8) : assign n a = (tv n a n 0 0).map fun s => (cols n a n 0 0, s) := by
  have h := choices_tv (a := a) hn n 0 0 [] (Nat.pow_pos (by decide)) (fun j _ => by
    show free 0 j = true
    unfold free
    rw [Nat.zero_div]
    rfl)
  unfold assign
  cases z : tv n a n 0 0 with
  | none =>
    rw [z] at h
    have : firstBest (choices n a n 0 []) = none := Option.map_eq_none_iff.mp h.1
    rw [this]
    rfl
  | some s =>
    rw [h.2 s z]
    rfl
end WsM
/-! ### the tables as lists -/
namespace Ws
def bb (row behind : List (Option Int)) (used : Nat) (m : Nat) : List (Option Int) := ((List.range m).filter (WsM.free used)).map fun j => Rb23.plus (row.getD j none) (behind.getD (used + 2 ^ j) none)
def tabRow (n : Nat) (a : Rb23.Mat) (f : Nat) : List (Option Int) := (List.range (2 ^ n)).map (WsM.tv n a f (n - f))
def tabs (a : Rb23.Mat) : List (List (Option Int)) := ((List.range (a.length + 1)).map (tabRow a.length a)).reverse
theorem tabRow_len (n : Nat) (a : Rb23.Mat) (f : Nat) : (tabRow n a f).length = 2 ^ n := by simp [tabRow]
theorem tabRow_get {n : Nat} {a : Rb23.Mat} {f m : Nat} (h : m < 2 ^ n) : (tabRow n a f).getD m none = WsM.tv n a f (n - f) m := by
  unfold tabRow
  rw [List.getD_eq_getElem?_getD, List.getElem?_map, List.getElem?_range h]
  rfl
theorem tabRow_succ {n : Nat} {a : Rb23.Mat} (ha : WsM.Sq n a) (hn : n ≤ 8) {k : Nat} (hk : k < n) {row : List (Option Int)} (hr : a[n - 1 - k]? = some row) : ((List.range (2 ^ n)).map fun used => Rb23.best (bb row (tabRow n a k) used row.length)) = tabRow n a (k + 1) := by
  have hl : row.length = n := ha.2 row (List.mem_of_getElem? hr)
  have hi : n - 1 - k < List.length a := by rw [ha.1]; omega
  have er : a[n - 1 - k] = row := by
    rw [List.getElem?_eq_getElem hi] at hr
    exact Option.some.inj hr
  show _ = (List.range (2 ^ n)).map (WsM.tv n a (k + 1) (n - (k + 1)))
  refine List.map_congr_left fun m hm => ?_
  rw [List.mem_range] at hm
  rw [show n - (k + 1) = n - 1 - k by omega, hl]
  show Rb23.best (bb row (tabRow n a k) m n) = Rb23.best (((List.range n).filter (WsM.free m)).map fun j => Rb23.plus (Rb23.entry a (n - 1 - k) j) (WsM.tv n a k (n - 1 - k + 1) (m + 2 ^ j)))
  unfold bb
  refine congrArg Rb23.best (List.map_congr_left fun j hj => ?_)
  have h1 := List.mem_range.mp (List.mem_filter.mp hj).1
  have h2 := (List.mem_filter.mp hj).2
  rw [tabRow_get (WsM.free_lt hn hm h1 h2), WsM.entry_get hi, er, show n - k = n - 1 - k + 1 by omega]
theorem tabs_get {a : Rb23.Mat} {i : Nat} (h : i ≤ a.length) : (tabs a)[i]? = some (tabRow a.length a (a.length - i)) := by
  unfold tabs
  rw [List.getElem?_reverse (by simp; omega), List.length_map, List.length_range, List.getElem?_map, List.getElem?_range (by omega)]
  show some (tabRow a.length a (a.length + 1 - 1 - i)) = _
  rw [Nat.add_sub_cancel]
def hitList (row behind : List (Option Int)) (used : Nat) (best : Option Int) : List Nat := ((List.range row.length).filter (WsM.free used)).filter fun j => decide (Rb23.plus (row.getD j none) (behind.getD (used + 2 ^ j) none) = best)
theorem hitList_eq {n : Nat} {a : Rb23.Mat} (ha : WsM.Sq n a) (hn : n ≤ 8) {f k m : Nat} (hf : f + k + 1 = n) (hm : m < 2 ^ n) {row : List (Option Int)} (hr : a[k]? = some row) {b : Option Int} (hb : b = WsM.tv n a (f + 1) k m) : hitList row (tabRow n a f) m b = WsM.hits n a f k m := by
  have hl : row.length = n := ha.2 row (List.mem_of_getElem? hr)
  have hi : k < List.length a := by rw [ha.1]; omega
  have er : a[k] = row := by
    rw [List.getElem?_eq_getElem hi] at hr
    exact Option.some.inj hr
  unfold hitList WsM.hits
  rw [hl, hb]
  refine List.filter_congr fun j hj => ?_
  have h1 := List.mem_range.mp (List.mem_filter.mp hj).1
  have h2 := (List.mem_filter.mp hj).2
  rw [tabRow_get (WsM.free_lt hn hm h1 h2), WsM.entry_get hi, er, show n - f = k + 1 by omega]
end Ws

namespace Ws
open PySem PySem.Spec PyProof.Rows L2
def topS (i : Nat) : Stmt := PySem.Challenge.pw_waitsums_s07_assign.main.body.getD i (.Pass ⟨0, 0, 0, 0⟩)
abbrev s_read : Stmt := topS 1
abbrev s_spell : Stmt := topS 2
abbrev s_plus : Stmt := topS 3
abbrev s_greater : Stmt := topS 4
abbrev s_is_free : Stmt := topS 7
abbrev s_with_column : Stmt := topS 8
abbrev s_greatest : Stmt := topS 5
abbrev s_first_column : Stmt := topS 11
abbrev s_matrix_of : Stmt := topS 14
abbrev s_best_behind : Stmt := topS 9
abbrev s_columns_of : Stmt := topS 12
abbrev s_tables : Stmt := topS 10
abbrev s_assign : Stmt := topS 16
theorem rowsOf_sq (n : Nat) : ∀ (k : Nat) (l : List Int), l.length = k * n → (Rb23Neutral.rowsOf n k l).length = k ∧ ∀ r ∈ Rb23Neutral.rowsOf n k l, r.length = n
  | 0, _, _ => ⟨rfl, fun _ h => nomatch h⟩
  | k + 1, l, h => by
    rw [Nat.succ_mul] at h
    have ih := rowsOf_sq n k (l.drop n) (by rw [List.length_drop]; omega)
    refine ⟨congrArg (· + 1) ih.1, fun r hr => ?_⟩
    rcases List.mem_cons.mp hr with rfl | hr
    · rw [List.length_map, List.length_take]
      omega
    · exact ih.2 r hr
theorem mat_sq {n : Int} {l : List Int} (_h1 : 1 ≤ n) (hl : l.length = n.toNat * n.toNat) : WsM.Sq n.toNat (Rb23Neutral.mat n l) := rowsOf_sq n.toNat n.toNat l hl
theorem flatten_len {m : List (List (Option Int))} {c : Nat} (h : ∀ r ∈ m, r.length ≤ c) : m.flatten.length ≤ m.length * c := by
  induction m with
  | nil => exact Nat.zero_le _
  | cons r m ih =>
    have h1 := h r (List.mem_cons_self ..)
    have h2 := ih fun r hr => h r (List.mem_cons_of_mem _ hr)
    rw [List.flatten_cons, List.length_append, List.length_cons, Nat.succ_mul]
    omega
theorem flat_len {n : Nat} {m : Rb23.Mat} (h : WsM.Sq n m) (hn : n ≤ 16) {z : Int} : [z].length + (m.flatten.map Rb23Neutral.spelled).length ≤ 1000000 := by
  have h1 := flatten_len (m := m) (c := 16) fun r hr => by rw [h.2 r hr]; exact hn
  have h2 := h.1
  rw [List.length_map]
  show 1 + _ ≤ _
  have h3 : List.length m * 16 ≤ 16 * 16 := Nat.mul_le_mul_right _ (by omega)
  omega
theorem row_asked {l : List Int} {n : Nat} {m : Int} (h : Rb23Neutral.row l n m = true) : l.length = n ∧ ∀ d ∈ l, 0 ≤ d := by
  unfold Rb23Neutral.row at h
  rw [Bool.and_eq_true, List.all_eq_true] at h
  refine ⟨eq_of_beq h.1, fun d hd => ?_⟩
  have := h.2 d hd
  rw [Bool.and_eq_true] at this
  exact of_decide_eq_true this.1
theorem asked_one {c : Rb23Neutral.Call} (h : Rb23Neutral.asked [c] = true) : Rb23Neutral.asked1 c = true := by
  have h : (!([c] : List Rb23Neutral.Call).isEmpty && (decide (([c] : List Rb23Neutral.Call).length ≤ 3000) && [c].all Rb23Neutral.asked1)) = true := h
  rw [Bool.and_eq_true, Bool.and_eq_true, List.all_eq_true] at h
  exact h.2.2 c (List.mem_cons_self ..)
theorem within_iff {n lo hi : Int} (h : NeutralIO.within n lo hi = true) : lo ≤ n ∧ n ≤ hi := by
  unfold NeutralIO.within at h
  rw [Bool.and_eq_true] at h
  exact ⟨of_decide_eq_true h.1, of_decide_eq_true h.2⟩
theorem gives_ints {K : PySem.W.Frag} {H : Hp} {l : List Int} : Gives H H (rL rInt) l fun v H' => Dw K H' v (.list (l.map PySem.W.WData.int)) := fun v S' H' g r => by
  obtain ⟨p, rfl, h⟩ := rL_flat.mp r
  exact .lst (SqL.of (g.sh _ _ h)) (dw_ints _)
theorem getD_get {α : Type} {l : List α} {i : Nat} (h : i < l.length) (d : α) : l[i]? = some (l.getD i d) := by
  rw [List.getD_eq_getElem?_getD, List.getElem?_eq_getElem h]
  rfl

section
variable {P : Program} {w : World} {K : PySem.W.Frag} {mg : Str → Option Value} {base : Heap}
abbrev sp_read : Sp := sp1 rInt rNum (fun d => 0 ≤ d) Rb23Neutral.num
theorem sc_read : FnScope ["spelled"] ["spelled"] (defScope s_read) := ⟨rfl, rfl, rfl, by decide +kernel, rfl, by decide +kernel, by decide +kernel⟩
theorem ok_read {f : Addr} {fd : FuncData} (F : Fun K "read" "read" s_read f fd) : FnOk P w K mg base CX0 1 f fd ["spelled"] sp_read := by
  refine F.ok sc_read (fun vs H Q E h => ?_) (fun cdv A outer s H vs Q E hr h => ?_)
  · obtain ⟨v1, x1, S, rfl, _⟩ := h
    rfl
  · obtain ⟨v1, x1, S, rfl, e, r1, hp, q⟩ := h
    try dsimp only at q
    refine ⟨_, (pss_cons (ps_if (pt_cmpR op_eq (pv 0) pe_int (nomark _)) (pss_one (ps_ret pe_non)) pss_nil)
      (pss_cons (ps_if (pt_cmpR op_eq (pe_op op_mod (pv 0) pe_int) pe_int (nomark _)) (pss_one (ps_ret (pe_op op_fdiv (pv 0) pe_int))) pss_nil)
      (pss_one (ps_ret (pe_op op_sub pe_int (pe_op op_fdiv (pv 0) pe_int)))))), ?_⟩
    cases r1
    have q : ∀ z, Rb23Neutral.num x1 = z → Q (nV z) H := fun z hz => q _ S H (Gr.refl e) (by rw [hz]; rfl)
    refine ⟨.int x1, rfl, rfl, _, rfl, ite2 (fun h => ?_) (fun h => ?_)⟩
    · have h : x1 = 0 := V.int.inj (of_decide_eq_true h)
      exact q none (by unfold Rb23Neutral.num; rw [if_pos h])
    · have h : ¬ x1 = 0 := fun z => h (decide_eq_true (by rw [z]))
      refine ⟨.int x1, rfl, x1, 2, rfl, rfl, (by show (0 : Int) < 2; decide), rfl, _, rfl, ite2 (fun h2 => ?_) (fun h2 => ?_)⟩
      · have h2 : x1 % 2 = 1 := V.int.inj (of_decide_eq_true h2)
        refine ⟨.int x1, rfl, x1, 2, rfl, rfl, ⟨by decide, by decide⟩, ?_⟩
        refine q (some (x1 / 2)) ?_
        unfold Rb23Neutral.num
        rw [if_neg h, if_pos h2]
        congr 1
        omega
      · have h2 : ¬ x1 % 2 = 1 := fun z => h2 (decide_eq_true (by show V.int (x1 % 2) = V.int 1; rw [z]))
        refine ⟨.int x1, rfl, x1, 2, rfl, rfl, ⟨by decide, by decide⟩, 0, x1 / 2, rfl, rfl, ?_⟩
        refine q (some (0 - x1 / 2)) ?_
        unfold Rb23Neutral.num
        rw [if_neg h, if_neg h2]
        congr 1
        omega

abbrev sp_spell : Sp := sp1 rNum rInt (fun _ => True) Rb23Neutral.spelled
theorem sc_spell : FnScope ["number"] ["number"] (defScope s_spell) := ⟨rfl, rfl, rfl, by decide +kernel, rfl, by decide +kernel, by decide +kernel⟩
theorem ok_spell {f : Addr} {fd : FuncData} (F : Fun K "spell" "spell" s_spell f fd) : FnOk P w K mg base CX0 1 f fd ["number"] sp_spell := by
  refine F.ok sc_spell (fun vs H Q E h => ?_) (fun cdv A outer s H vs Q E hr h => ?_)
  · obtain ⟨v1, x1, S, rfl, _⟩ := h
    rfl
  · obtain ⟨v1, x1, S, rfl, e, r1, hp, q⟩ := h
    try dsimp only at q
    refine ⟨_, (pss_cons (ps_if (pt_cmp (pc_isN (pv 0))) (pss_one (ps_ret pe_int)) pss_nil)
      (pss_cons (ps_if (pt_cmpR op_ge (pv 0) pe_int (nomark _)) (pss_one (ps_ret (pe_op op_add (pe_op op_mul pe_int (pv 0)) pe_int))) pss_nil)
      (pss_one (ps_ret (pe_op op_sub pe_int (pe_op op_mul pe_int (pv 0))))))), ?_⟩
    refine q_when (et_none (ev_var rfl r1)) (Gr.refl e) (fun h S1 H1 g1 _ => ?_) (fun h S1 H1 g1 s1 => ?_)
    · cases x1 with
      | none => exact s_ret (ev_c (R := rInt) rfl) g1 q
      | some z => cases h
    · cases x1 with
      | none => cases h
      | some z =>
        cases r1
        have hv : ∀ {S : Hp}, EvR (tVar 0) (start ["number"] [nV (some z)]) S rInt z := ev_var rfl rfl
        refine q_when (b := decide (0 ≤ z)) (et_test (ev_I0 hv (ev_c (x := (0 : Int)) rfl) fun _ => rfl)) g1 (fun h S2 H2 g2 _ => ?_) (fun h S2 H2 g2 _ => ?_)
        · refine s_ret (ev_add (ev_mul (.inl ⟨by decide, by decide⟩) (ev_c (x := (2 : Int)) rfl) hv) (ev_c (x := (1 : Int)) rfl)) g2 fun v S3 H3 g3 r3 => q v S3 H3 g3 ?_
          show v = V.int (Rb23Neutral.spelled (some z))
          rw [show Rb23Neutral.spelled (some z) = 2 * z + 1 from if_pos (of_decide_eq_true h)]
          exact r3
        · refine s_ret (ev_sub (ev_c (x := (0 : Int)) rfl) (ev_mul (.inl ⟨by decide, by decide⟩) (ev_c (x := (2 : Int)) rfl) hv)) g2 fun v S3 H3 g3 r3 => q v S3 H3 g3 ?_
          show v = V.int (Rb23Neutral.spelled (some z))
          rw [show Rb23Neutral.spelled (some z) = -2 * z from if_neg (of_decide_eq_false h)]
          rw [show -2 * z = 0 - 2 * z by omega]
          exact r3

abbrev sp_plus : Sp := sp2 rNum rNum rNum (fun _ _ => True) Rb23.plus
theorem sc_plus : FnScope ["one", "other"] ["one", "other"] (defScope s_plus) := ⟨rfl, rfl, rfl, by decide +kernel, rfl, by decide +kernel, by decide +kernel⟩
theorem ok_plus {f : Addr} {fd : FuncData} (F : Fun K "plus" "plus" s_plus f fd) : FnOk P w K mg base CX0 1 f fd ["one", "other"] sp_plus := by
  refine F.ok sc_plus (fun vs H Q E h => ?_) (fun cdv A outer s H vs Q E hr h => ?_)
  · obtain ⟨v1, x1, v2, x2, S, rfl, _⟩ := h
    rfl
  · obtain ⟨v1, x1, v2, x2, S, rfl, e, r1, r2, hp, q⟩ := h
    try dsimp only at q
    refine ⟨_, (pss_cons (ps_if (PW.pt (pw_or (pt_cmp (pc_isN (pv 0))) (pw_or1 (pt_cmp (pc_isN (pv 1)))))) (pss_one (ps_ret pe_non)) pss_nil)
      (pss_one (ps_ret (pe_op op_add (pv 0) (pv 1))))), ?_⟩
    cases r1
    cases r2
    refine q_when (et_or (et_none (ev_var rfl rfl)) fun _ => et_none (ev_var rfl rfl)) (Gr.refl e) (fun h S1 H1 g1 _ => ?_) (fun h S1 H1 g1 s1 => ?_)
    · refine s_ret (ev_c (R := rNum) (x := none) rfl) g1 fun v S2 H2 g2 r => q v S2 H2 g2 ?_
      cases x1 with
      | none => exact r
      | some a =>
        cases x2 with
        | none => exact r
        | some b => cases h
    · cases x1 with
      | none => cases h
      | some a =>
        cases x2 with
        | none => cases h
        | some b => exact s_ret (ev_add (i := a) (j := b) (ev_var rfl rfl) (ev_var rfl rfl)) g1 q

abbrev sp_greater : Sp := sp2 rNum rNum rNum (fun _ _ => True) Rb23.top
theorem sc_greater : FnScope ["one", "other"] ["one", "other"] (defScope s_greater) := ⟨rfl, rfl, rfl, by decide +kernel, rfl, by decide +kernel, by decide +kernel⟩
theorem ok_greater {f : Addr} {fd : FuncData} (F : Fun K "greater" "greater" s_greater f fd) : FnOk P w K mg base CX0 1 f fd ["one", "other"] sp_greater := by
  refine F.ok sc_greater (fun vs H Q E h => ?_) (fun cdv A outer s H vs Q E hr h => ?_)
  · obtain ⟨v1, x1, v2, x2, S, rfl, _⟩ := h
    rfl
  · obtain ⟨v1, x1, v2, x2, S, rfl, e, r1, r2, hp, q⟩ := h
    try dsimp only at q
    refine ⟨_, (pss_cons (ps_if (pt_cmp (pc_isN (pv 0))) (pss_one (ps_ret (pv 1))) pss_nil)
      (pss_cons (ps_if (PW.pt (pw_or (pt_cmp (pc_isN (pv 1))) (pw_or1 (pt_cmpR op_lt (pv 1) (pv 0) (nomark _))))) (pss_one (ps_ret (pv 0))) pss_nil)
      (pss_one (ps_ret (pv 1))))), ?_⟩
    cases r1
    cases r2
    refine q_when (et_none (ev_var rfl rfl)) (Gr.refl e) (fun h S1 H1 g1 _ => ?_) (fun h S1 H1 g1 s1 => ?_)
    · cases x1 with
      | none => exact s_ret (ev_var rfl rfl) g1 q
      | some a => cases h
    · cases x1 with
      | none => cases h
      | some a =>
        refine q_when (b := x2.isNone || (x2.getD 0 < a)) (et_or (et_none (ev_var rfl rfl)) fun h => ?_) g1 (fun h S2 H2 g2 _ => ?_) (fun h S2 H2 g2 _ => ?_)
        · cases x2 with
          | none => cases h
          | some b => exact et_test (ev_I0 (i := b) (j := a) (ev_var rfl rfl) (ev_var rfl rfl) fun _ => rfl)
        · refine s_ret (R := rNum) (x := some a) (ev_var rfl rfl) g2 fun v S3 H3 g3 r3 => q v S3 H3 g3 ?_
          cases x2 with
          | none => exact r3
          | some b =>
            have h : b < a := of_decide_eq_true h
            show v = nV (some (max a b))
            rw [Int.max_eq_left (by omega)]
            exact r3
        · cases x2 with
          | none => cases h
          | some b =>
            refine s_ret (R := rNum) (x := some b) (ev_var rfl rfl) g2 fun v S3 H3 g3 r3 => q v S3 H3 g3 ?_
            have h : ¬ b < a := of_decide_eq_false h
            show v = nV (some (max a b))
            rw [Int.max_eq_right (by omega)]
            exact r3

abbrev sp_is_free : Sp := sp2 rNat rNat rBool (fun _ _ => True) WsM.free
theorem sc_is_free : FnScope ["used", "j"] ["used", "j"] (defScope s_is_free) := ⟨rfl, rfl, rfl, by decide +kernel, rfl, by decide +kernel, by decide +kernel⟩
theorem ok_is_free {f : Addr} {fd : FuncData} (F : Fun K "is_free" "is_free" s_is_free f fd) : FnOk P w K mg base CX0 1 f fd ["used", "j"] sp_is_free := by
  refine F.ok sc_is_free (fun vs H Q E h => ?_) (fun cdv A outer s H vs Q E hr h => ?_)
  · obtain ⟨v1, x1, v2, x2, S, rfl, _⟩ := h
    rfl
  · obtain ⟨v1, x1, v2, x2, S, rfl, e, r1, r2, hp, q⟩ := h
    try dsimp only at q
    refine ⟨_, (pss_one (ps_ret (pe_cmpR op_eq (pe_op op_mod (pe_op op_shr (pv 0) (pv 1)) pe_int) pe_int (nomark _)))), ?_⟩
    cases r1
    cases r2
    refine s_ret (R := rBool) (ev_eq (v := .non) (w := .non) (R := rNat) (x := x1 / 2 ^ x2 % 2) (R' := rInt) (y := 0) (ev_I (C := fun _ j => 0 < j) (i := (x1 : Int) / 2 ^ x2) (j := 2) (ev_I (C := fun _ j => 0 ≤ j) (i := (x1 : Int)) (j := (x2 : Int)) (ev_var rfl rfl) (ev_var rfl rfl) (by show (0 : Int) ≤ (x2 : Int); omega) fun _ => ?_) (ev_c rfl) (by show (0 : Int) < 2; decide) fun _ => ?_) (ev_c rfl) ?_) (Gr.refl e) q
    · show V.int ((x1 : Int) / 2 ^ ((x2 : Int)).toNat) = _
      rw [Int.toNat_natCast]
    · show V.int ((x1 : Int) / 2 ^ x2 % 2) = V.int ((x1 / 2 ^ x2 % 2 : Nat) : Int)
      rw [Int.natCast_emod, Int.natCast_ediv, Int.natCast_pow]
      rfl
    · rintro S v w rfl rfl
      refine ⟨rfl, ?_⟩
      unfold WsM.free
      rw [Bool.eq_iff_iff, decide_eq_true_eq, beq_iff_eq]
      exact ⟨fun z => by have := V.int.inj z; omega, fun z => by rw [z]; rfl⟩

abbrev sp_with_column : Sp := sp2 rNat rNat rNat (fun _ j => j ≤ 64) (fun m j => m + 2 ^ j)
theorem sc_with_column : FnScope ["used", "j"] ["used", "j"] (defScope s_with_column) := ⟨rfl, rfl, rfl, by decide +kernel, rfl, by decide +kernel, by decide +kernel⟩
theorem ok_with_column {f : Addr} {fd : FuncData} (F : Fun K "with_column" "with_column" s_with_column f fd) : FnOk P w K mg base CX0 1 f fd ["used", "j"] sp_with_column := by
  refine F.ok sc_with_column (fun vs H Q E h => ?_) (fun cdv A outer s H vs Q E hr h => ?_)
  · obtain ⟨v1, x1, v2, x2, S, rfl, _⟩ := h
    rfl
  · obtain ⟨v1, x1, v2, x2, S, rfl, e, r1, r2, hp, q⟩ := h
    try dsimp only at q
    refine ⟨_, (pss_one (ps_ret (pe_op op_add (pv 0) (pe_op op_shl pe_int (pv 1))))), ?_⟩
    cases r1
    cases r2
    refine s_ret (R := rInt) (ev_add (i := (x1 : Int)) (j := (2 : Int) ^ x2) (ev_var rfl rfl) (ev_I (C := CPow) (i := 1) (j := (x2 : Int)) (ev_c rfl) (ev_var rfl rfl) ⟨by omega, by omega, by decide⟩ fun _ => ?_)) (Gr.refl e) fun v S1 H1 g1 r => q v S1 H1 g1 ?_
    · show V.int (1 * 2 ^ (x2 : Int).toNat) = V.int ((2 : Int) ^ x2)
      rw [Int.toNat_natCast, Int.one_mul]
    · show v = V.int ((x1 + 2 ^ x2 : Nat) : Int)
      rw [Int.natCast_add, Int.natCast_pow]
      exact r

abbrev sp_greatest : Sp := sp1 (rL rNum) rNum (fun _ => True) Rb23.best
theorem sc_greatest : FnScope ["numbers", "found", "number"] ["numbers"] (defScope s_greatest) := ⟨rfl, rfl, rfl, by decide +kernel, rfl, by decide +kernel, by decide +kernel⟩
theorem ok_greatest {f : Addr} {fd : FuncData} (F : Fun K "greatest" "greatest" s_greatest f fd) (c_greater : Cal P w K mg base "greater" 1 ["one", "other"] sp_greater) : FnOk P w K mg base CX0 2 f fd ["numbers"] sp_greatest := by
  refine F.ok sc_greatest (fun vs H Q E h => ?_) (fun cdv A outer s H vs Q E hr h => ?_)
  · obtain ⟨v1, x1, S, rfl, _⟩ := h
    rfl
  · obtain ⟨v1, x1, S, rfl, e, r1, hp, q⟩ := h
    try dsimp only at q
    refine ⟨_, (pss_cons (ps_set (i := 1) sc_greatest.nd rfl (Or.inl rfl) pe_non)
      (pss_cons (ps_for PassesOwn.never rfl (pi_list (pv 0)) (pg_name (i := 2) sc_greatest.nd rfl (Or.inl rfl)) (pss_one (ps_set (i := 1) sc_greatest.nd rfl (Or.inl rfl) (pe_cal c_greater (hr.mono (by decide)) (by rfl) (pa_cons (pv 1) (pa_cons (pv 2) pa_nil))))))
      (pss_one (ps_ret (pv 1))))), ?_⟩
    refine q_asg (ev_c (R := rNum) (x := none) rfl) (Gr.refl e) fun v2 S1 H1 g1 s1 rv => ?_
    cases rv
    refine q_for (fun i σ' S' => ∃ y, σ' = [some v1, some (nV ((x1.take i).foldl Rb23.top none)), y]) (src_list (ev_var rfl ((rL rNum).mono s1 r1))) g1 (fun _ _ => ⟨none, rfl⟩) (fun _ _ _ _ _ h => h) (fun S0 s0 i x σ' S2 H2 v hx g2 s2 hP rx => ?_) (fun σ' S2 H2 g2 s2 hP => ?_)
    · obtain ⟨y, rfl⟩ := hP
      refine s_asg (ev_call2 (ev_var rfl rfl) (ev_var rfl rx) trivial) g2 fun v3 S3 H3 g3 s3 r3 => ⟨S3, g3, s2.trans s3, some v, ?_⟩
      rw [take_succ_get hx, List.foldl_append]
      cases r3
      rfl
    · obtain ⟨y, rfl⟩ := hP
      rw [List.take_length]
      exact s_ret (ev_var rfl rfl) g2 q

theorem nV_inj {a b : Option Int} (h : nV a = nV b) : a = b := by
  cases a with
  | none =>
    cases b with
    | none => rfl
    | some y => cases h
  | some x =>
    cases b with
    | none => cases h
    | some y => rw [V.int.inj h]
theorem nV_scal (a b : Option Int) : scal (nV a) (nV b) = true := by
  cases a <;> cases b <;> rfl
abbrev sp_first_column : Sp := sp4 (rL rNum) (rL rNum) rNat rNum rNat (fun row behind used best => row.length ≤ 8 ∧ behind.length = 2 ^ row.length ∧ used < 2 ^ row.length ∧ hitList row behind used best ≠ []) (fun row behind used best => (hitList row behind used best).headD 0)
theorem sc_first_column : FnScope ["row", "behind", "used", "best", "found", "j"] ["row", "behind", "used", "best"] (defScope s_first_column) := ⟨rfl, rfl, rfl, by decide +kernel, rfl, by decide +kernel, by decide +kernel⟩
theorem ok_first_column {f : Addr} {fd : FuncData} (F : Fun K "first_column" "first_column" s_first_column f fd) (c_plus : Cal P w K mg base "plus" 1 ["one", "other"] sp_plus) (c_with_column : Cal P w K mg base "with_column" 1 ["used", "j"] sp_with_column) (c_is_free : Cal P w K mg base "is_free" 1 ["used", "j"] sp_is_free) (m_range : mg "range" = none) (m_len : mg "len" = none) : FnOk P w K mg base CX0 2 f fd ["row", "behind", "used", "best"] sp_first_column := by
  refine F.ok sc_first_column (fun vs H Q E h => ?_) (fun cdv A outer s H vs Q E hr h => ?_)
  · obtain ⟨v1, x1, v2, x2, v3, x3, v4, x4, S, rfl, _⟩ := h
    rfl
  · obtain ⟨v1, x1, v2, x2, v3, x3, v4, x4, S, rfl, e, r1, r2, r3, r4, hp, q⟩ := h
    try dsimp only at q
    refine ⟨_, (pss_cons (ps_setLc (i := 4) (own := [("j", 5)]) (wi := (iRng1 (tCons (tCB (rLen K) (tCons (tVar 0) tNil)) tNil))) (g := (gName 5)) (tt := (tB (tCall sp_is_free [] E0 (tCons (tVar 2) (tCons (tVar 5) tNil))))) (te := (tVar 5)) rfl sc_first_column.nd rfl rfl (sw_true rfl rfl rfl (by decide +kernel)) (pi_range1 (by rfl) m_range (pa_cons (pe_callB call_len_seq (by rfl) m_len (by decide +kernel) (pa_cons (pv 0) pa_nil)) pa_nil)) (blkOk_by (N := ["row", "behind", "used", "best", "found", "j"]) (sc := (defScope s_first_column)) (by decide +kernel)) (fun _ _ _ _ _ => (pg_name (i := 5) sc_first_column.nd rfl (Or.inl rfl))) (fun _ _ _ _ _ => (pts_one (pt_val (pe_cal c_is_free (hr.mono (by decide)) (by rfl) (pa_cons (pv 2) (pa_cons (pv 5) pa_nil)))))) (fun _ _ _ _ _ => (pv 5)))
      (pss_one (ps_ret (pe_ix ix_list (pe_lc (own := [("j", 5)]) (wi := (iList K (tVar 4))) (g := (gName 5)) (tt := (tTest (tOp _ (tCall sp_plus [] E0 (tCons (tOp (rIxL K) (tVar 0) (tVar 5)) (tCons (tOp (rIxL K) (tVar 1) (tCall sp_with_column [] E0 (tCons (tVar 2) (tCons (tVar 5) tNil)))) tNil))) (tVar 3)))) (te := (tVar 5)) rfl sc_first_column.nd (pi_list (pv 4)) (blkOk_by (N := ["row", "behind", "used", "best", "found", "j"]) (sc := (defScope s_first_column)) (by decide +kernel)) (fun _ _ _ _ _ => (pg_name (i := 5) sc_first_column.nd rfl (Or.inl rfl))) (fun _ _ _ _ _ => (pts_one (pt_cmpR op_eq (pe_cal c_plus (hr.mono (by decide)) (by rfl) (pa_cons (pe_ix ix_list (pv 0) (pv 5) (fun _ _ => rfl)) (pa_cons (pe_ix ix_list (pv 1) (pe_cal c_with_column (hr.mono (by decide)) (by rfl) (pa_cons (pv 2) (pa_cons (pv 5) pa_nil))) (fun _ _ => rfl)) pa_nil))) (pv 3) (nomark _)))) (fun _ _ _ _ _ => (pv 5))) pe_int (fun _ _ => rfl))))), ?_⟩
    obtain ⟨hn, hb, hu, hne⟩ := hp
    cases r3
    cases r4
    refine q_asg (R := rL rNat) (x := (List.range x1.length).filter (WsM.free x3)) (EvR.is (ev_lcN (R' := rNat) (WsM.free x3) (fun j => j) (src_range (n := x1.length) (by omega) (ev_len (ev_var rfl r1))) (by rw [List.length_range]; omega) (fun _ => rfl) (fun j hj u S6 s6 rj => ?_) (fun j hj _ u S6 s6 rj => ev_var rfl rj)) (List.map_id' _)) (Gr.refl e) fun v5 S1 H1 g1 s1 r5 => ?_
    · cases rj
      exact et_B (ev_call2 (x1 := x3) (x2 := j) (ev_var rfl rfl) (ev_var rfl rfl) trivial)
    · have hl : ((List.range x1.length).filter (WsM.free x3)).length ≤ 1000000 := by
        have := List.length_filter_le (WsM.free x3) (List.range x1.length)
        rw [List.length_range] at this
        omega
      obtain ⟨j0, l0, e0⟩ : ∃ j l, hitList x1 x2 x3 x4 = j :: l := by
        cases z : hitList x1 x2 x3 x4 with
        | nil => exact absurd z hne
        | cons j l => exact ⟨j, l, rfl⟩
      rw [e0] at q
      refine s_ret (R := rNat) (ev_ix (l := j0 :: l0) (j := 0) (EvR.is (ev_lcN (R' := rNat) (fun j => decide (Rb23.plus (x1.getD j none) (x2.getD (x3 + 2 ^ j) none) = x4)) (fun j => j) (src_list (ev_var rfl r5)) hl (fun _ => rfl) (fun j hj u S6 s6 rj => ?_) (fun j hj _ u S6 s6 rj => ev_var rfl rj)) ((List.map_id' _).trans e0)) (ev_c rfl) rfl) g1 q
      cases rj
      have h1 := List.mem_range.mp (List.mem_filter.mp hj).1
      have h2 := (List.mem_filter.mp hj).2
      have hlt := WsM.free_lt hn hu h1 h2
      refine et_test (ev_eq (v := .non) (w := .non) (R := rNum) (x := Rb23.plus (x1.getD j none) (x2.getD (x3 + 2 ^ j) none)) (R' := rNum) (y := x4) (ev_call2 (ev_ix (j := j) (ev_var rfl ((rL rNum).mono (s1.trans s6) r1)) (ev_var rfl rfl) (getD_get h1 none)) (ev_ix (j := x3 + 2 ^ j) (ev_var rfl ((rL rNum).mono (s1.trans s6) r2)) (EvR.int (ev_call2 (x1 := x3) (x2 := j) (ev_var rfl rfl) (ev_var rfl rfl) (by omega))) (getD_get (by omega) none)) trivial) (ev_var rfl rfl) ?_)
      rintro S v w rfl rfl
      refine ⟨nV_scal _ _, ?_⟩
      rw [Bool.eq_iff_iff, decide_eq_true_eq, decide_eq_true_eq]
      exact ⟨nV_inj, fun z => by rw [z]⟩

theorem rowsOf_eq (n : Nat) : ∀ (k : Nat) (l : List Int), Rb23Neutral.rowsOf n k l = (List.range k).map fun i => ((l.drop (i * n)).take ((i + 1) * n - i * n)).map Rb23Neutral.num
  | 0, _ => rfl
  | k + 1, l => by
    show (l.take n).map Rb23Neutral.num :: Rb23Neutral.rowsOf n k (l.drop n) = _
    rw [rowsOf_eq n k (l.drop n), List.range_succ_eq_map, List.map_cons, List.map_map]
    refine congr (congrArg _ ?_) (List.map_congr_left fun i _ => ?_)
    · simp
    · show _ = ((l.drop ((i + 1) * n)).take ((i + 1 + 1) * n - (i + 1) * n)).map Rb23Neutral.num
      rw [List.drop_drop]
      have e1 : n + i * n = (i + 1) * n := by rw [Nat.succ_mul, Nat.add_comm]
      have e2 : (i + 1) * n - i * n = (i + 1 + 1) * n - (i + 1) * n := by rw [Nat.succ_mul (i + 1), Nat.succ_mul i]; omega
      rw [e1, e2]
abbrev sp_matrix_of (K : PySem.W.Frag) : Sp := sp2 rInt (rA K V.int) (rL (rL rNum)) (fun n l => 1 ≤ n ∧ n ≤ 16 ∧ ∀ d ∈ l, 0 ≤ d) Rb23Neutral.mat
theorem sc_matrix_of : FnScope ["n", "spelled", "i", "number"] ["n", "spelled"] (defScope s_matrix_of) := ⟨rfl, rfl, rfl, by decide +kernel, rfl, by decide +kernel, by decide +kernel⟩
theorem ok_matrix_of {f : Addr} {fd : FuncData} (F : Fun K "matrix_of" "matrix_of" s_matrix_of f fd) (c_read : Cal P w K mg base "read" 1 ["spelled"] sp_read) (m_range : mg "range" = none) : FnOk P w K mg base CX0 2 f fd ["n", "spelled"] (sp_matrix_of K) := by
  refine F.ok sc_matrix_of (fun vs H Q E h => ?_) (fun cdv A outer s H vs Q E hr h => ?_)
  · obtain ⟨v1, x1, v2, x2, S, rfl, _⟩ := h
    rfl
  · obtain ⟨v1, x1, v2, x2, S, rfl, e, r1, r2, hp, q⟩ := h
    try dsimp only at q
    refine ⟨_, (pss_one (ps_ret (pe_lc (own := [("i", 2)]) (wi := (iRng1 (tCons (tVar 0) tNil))) (g := (gName 2)) (tt := tYes) (te := (tLc (iList K (tSl (rSlL K) (tVar 1) (tPart (tOp _ (tVar 2) (tVar 0))) (tPart (tOp _ (tOp _ (tVar 2) (tC (.int 1))) (tVar 0))))) (gName 3) tYes (tCall sp_read [] E0 (tCons (tVar 3) tNil)) _)) rfl sc_matrix_of.nd (pi_range1 (by rfl) m_range (pa_cons (pv 0) pa_nil)) (blkOk_by (N := ["n", "spelled", "i", "number"]) (sc := (defScope s_matrix_of)) (by decide +kernel)) (fun _ _ _ _ _ => (pg_name (i := 2) sc_matrix_of.nd rfl (Or.inl rfl))) (fun _ _ _ _ _ => pts_nil) (fun _ _ _ _ _ => (pe_lc (own := [("number", 3)]) (wi := (iList K (tSl (rSlL K) (tVar 1) (tPart (tOp _ (tVar 2) (tVar 0))) (tPart (tOp _ (tOp _ (tVar 2) (tC (.int 1))) (tVar 0)))))) (g := (gName 3)) (tt := tYes) (te := (tCall sp_read [] E0 (tCons (tVar 3) tNil))) rfl sc_matrix_of.nd (pi_list (pe_slice sl_list (pv 1) (po_some (pe_op op_mul (pv 2) (pv 0))) (po_some (pe_op op_mul (pe_op op_add (pv 2) pe_int) (pv 0))))) (blkOk_in (blkOk_by (N := ["n", "spelled", "i", "number"]) (by decide +kernel))) (fun _ _ _ _ _ => (pg_name (i := 3) sc_matrix_of.nd rfl (Or.inl rfl))) (fun _ _ _ _ _ => pts_nil) (fun _ _ _ _ _ => (pe_cal c_read (hr.mono (by decide)) (by rfl) (pa_cons (pv 3) pa_nil)))))))), ?_⟩
    obtain ⟨h1, h16, h0⟩ := hp
    obtain ⟨n, rfl⟩ : ∃ n : Nat, x1 = (n : Int) := ⟨x1.toNat, by omega⟩
    have em : Rb23Neutral.mat (n : Int) x2 = (List.range n).map fun i => ((x2.drop (i * n)).take ((i + 1) * n - i * n)).map Rb23Neutral.num := by
      unfold Rb23Neutral.mat
      rw [Int.toNat_natCast]
      exact rowsOf_eq n n x2
    rw [em] at q
    refine s_ret (ev_lcY _ (src_range (n := n) (by omega) (ev_var rfl r1)) (by rw [List.length_range]; omega) (fun _ => rfl) fun i hi v S1 s1 ri => ?_) (Gr.refl e) q
    rw [List.mem_range] at hi
    have vn : ∀ {S2 : Hp}, EvR (tVar 0) [some v1, some v2, some v, none] S2 rInt (n : Int) := ev_var rfl r1
    have vi : ∀ {S2 : Hp}, EvR (tVar 2) [some v1, some v2, some v, none] S2 rInt (i : Int) := ev_var rfl ri
    refine ev_lcY _ (src_list (ev_slice (K := K) (f := V.int) (a := i * n) (b := (i + 1) * n) (Int.natCast_mul i n).symm ?_ (ev_var rfl ((rA K V.int).mono s1 r2)) (ev_mul (.inr ⟨by omega, by omega⟩) vi vn) (ev_mul (.inr ⟨by omega, by omega⟩) (ev_add vi (ev_c (x := (1 : Int)) rfl)) vn))) ?_ (fun _ => rfl) fun d hd w S2 s2 rd => ?_
    · rw [Int.natCast_mul, Int.natCast_add]
      rfl
    · rw [List.length_take]
      have h2 : (i + 1) * n - i * n = n := by rw [Nat.succ_mul]; omega
      omega
    · exact ev_call1 (ev_var rfl rd) (h0 d (List.mem_of_mem_drop (List.mem_of_mem_take hd)))

abbrev sp_best_behind : Sp := sp3 (rL rNum) (rL rNum) rNat rNum (fun row behind used => row.length ≤ 8 ∧ behind.length = 2 ^ row.length ∧ used < 2 ^ row.length) (fun row behind used => Rb23.best (bb row behind used row.length))
theorem sc_best_behind : FnScope ["row", "behind", "used", "found", "j"] ["row", "behind", "used"] (defScope s_best_behind) := ⟨rfl, rfl, rfl, by decide +kernel, rfl, by decide +kernel, by decide +kernel⟩
theorem ok_best_behind {f : Addr} {fd : FuncData} (F : Fun K "best_behind" "best_behind" s_best_behind f fd) (c_greatest : Cal P w K mg base "greatest" 2 ["numbers"] sp_greatest) (c_is_free : Cal P w K mg base "is_free" 1 ["used", "j"] sp_is_free) (c_plus : Cal P w K mg base "plus" 1 ["one", "other"] sp_plus) (c_with_column : Cal P w K mg base "with_column" 1 ["used", "j"] sp_with_column) (m_range : mg "range" = none) (m_len : mg "len" = none) : FnOk P w K mg base CX0 3 f fd ["row", "behind", "used"] sp_best_behind := by
  refine F.ok sc_best_behind (fun vs H Q E h => ?_) (fun cdv A outer s H vs Q E hr h => ?_)
  · obtain ⟨v1, x1, v2, x2, v3, x3, S, rfl, _⟩ := h
    rfl
  · obtain ⟨v1, x1, v2, x2, v3, x3, S, rfl, e, r1, r2, r3, hp, q⟩ := h
    try dsimp only at q
    refine ⟨_, (pss_cons (ps_set (i := 3) sc_best_behind.nd rfl (Or.inl rfl) (pe_lst pa_nil))
      (pss_cons (ps_for PassesOwn.never rfl (pi_range1 (by rfl) m_range (pa_cons (pe_callB call_len_seq (by rfl) m_len (by decide +kernel) (pa_cons (pv 0) pa_nil)) pa_nil)) (pg_name (i := 4) sc_best_behind.nd rfl (Or.inl rfl)) (pss_one (ps_if (pt_val (pe_cal c_is_free (hr.mono (by decide)) (by rfl) (pa_cons (pv 2) (pa_cons (pv 4) pa_nil)))) (pss_one (ps_expr (pe_bm PySem.F.plainAttrs_list PySem.F.slot_list_append PySem.F.type_list_append mt_append (pv 3) (pa_cons (pe_cal c_plus (hr.mono (by decide)) (by rfl) (pa_cons (pe_ix ix_list (pv 0) (pv 4) (fun _ _ => rfl)) (pa_cons (pe_ix ix_list (pv 1) (pe_cal c_with_column (hr.mono (by decide)) (by rfl) (pa_cons (pv 2) (pa_cons (pv 4) pa_nil))) (fun _ _ => rfl)) pa_nil))) pa_nil)))) pss_nil)))
      (pss_one (ps_ret (pe_cal c_greatest (hr.mono (by decide)) (by rfl) (pa_cons (pv 3) pa_nil)))))), ?_⟩
    obtain ⟨hn, hb, hu⟩ := hp
    cases r3
    refine q_nil (Gr.refl e) fun p H1 np g1 hp => ?_
    refine q_forO (fun i σ' S' vs => vs = (bb x1 x2 x3 i).map nV ∧ (rL rNum).is S' v1 x1 ∧ (rL rNum).is S' v2 x2 ∧ ∃ y, σ' = [some v1, some v2, some (.int (x3 : Int)), some (.ref p), y]) (src_range (n := x1.length) (by omega) (ev_len (ev_var rfl r1))) g1 hp (fun S2 s2 => ⟨rfl, (rL rNum).mono s2 r1, (rL rNum).mono s2 r2, none, rfl⟩) (fun i σ' S2 S3 vs s h => ?_) (fun S0 s0 i x σ' S2 H2 vs v hx g2 hp2 s2 hP rx => ?_) (fun σ' S2 H2 vs g2 hp2 s2 hP => ?_)
    · obtain ⟨a1, a2, a3, a4⟩ := h
      exact ⟨a1, (rL rNum).mono s a2, (rL rNum).mono s a3, a4⟩
    · obtain ⟨a1, a2, a3, y, rfl⟩ := hP
      have hi : i < x1.length := by
        have := (List.getElem?_eq_some_iff.mp hx).1
        simpa using this
      rw [List.getElem?_range hi] at hx
      have ex : i = x := Option.some.inj hx
      subst ex
      cases rx
      have hvl : vs.length ≤ 16 := by
        rw [a1, List.length_map]
        unfold bb
        rw [List.length_map]
        have := List.length_filter_le (WsM.free x3) (List.range i)
        rw [List.length_range] at this
        omega
      have hs : bb x1 x2 x3 (i + 1) = bb x1 x2 x3 i ++ if WsM.free x3 i = true then [Rb23.plus (x1.getD i none) (x2.getD (x3 + 2 ^ i) none)] else [] := by
        unfold bb
        rw [List.range_succ, List.filter_append, List.map_append]
        congr 1
        by_cases h : WsM.free x3 i = true
        · rw [if_pos h, List.filter_cons, if_pos h]
          rfl
        · rw [if_neg h, List.filter_cons, if_neg h]
          rfl
      rw [hs]
      refine s_whenO (b := WsM.free x3 i) g2 hp2 (et_B (ev_call2 (x1 := x3) (x2 := i) (ev_var rfl rfl) (ev_var rfl rfl) trivial)) (fun h S3 H3 g3 hp3 s3 => ?_) (fun h S3 H3 g3 hp3 s3 => ?_)
      · have hlt := WsM.free_lt hn hu hi h
        refine s_app (R := rNum) (x := Rb23.plus (x1.getD i none) (x2.getD (x3 + 2 ^ i) none)) g3 hp3 (by omega) (i := 3) rfl (ev_call2 (ev_ix (j := i) (ev_var rfl ((rL rNum).mono s3 a2)) (ev_var rfl rfl) (getD_get hi none)) (ev_ix (j := x3 + 2 ^ i) (ev_var rfl ((rL rNum).mono s3 a3)) (EvR.int (ev_call2 (x1 := x3) (x2 := i) (ev_var rfl rfl) (ev_var rfl rfl) (by omega))) (getD_get (by omega) none)) trivial) fun w S4 H4 g4 hp4 s4 rw' => ?_
        cases rw'
        refine ⟨S4, _, g4, hp4, (s2.trans s3).trans s4, ?_, (rL rNum).mono (s3.trans s4) a2, (rL rNum).mono (s3.trans s4) a3, _, rfl⟩
        rw [if_pos h, a1, List.map_append]
        rfl
      · refine ⟨S3, _, g3, hp3, s2.trans s3, ?_, (rL rNum).mono s3 a2, (rL rNum).mono s3 a3, _, rfl⟩
        rw [if_neg (by rw [h]; exact Bool.false_ne_true), List.append_nil, a1]
    · obtain ⟨a1, a2, a3, y, rfl⟩ := hP
      rw [List.length_range] at a1
      refine s_ret (R := rNum) (ev_call1 (R1 := rL rNum) (x1 := bb x1 x2 x3 x1.length) (ev_var rfl (rL_flat.mpr ⟨p, rfl, ?_⟩)) trivial) (g2.shut hp2 np) q
      rw [upd_same, a1]

abbrev sp_columns_of : Sp := sp2 (rL (rL rNum)) (rL (rL rNum)) (rL rNat) (fun a b => a.length ≤ 8 ∧ WsM.Sq a.length a ∧ b = tabs a ∧ ∃ s, WsM.tv a.length a a.length 0 0 = some s) (fun a _ => WsM.cols a.length a a.length 0 0)
theorem sc_columns_of : FnScope ["matrix", "best", "used", "found", "i", "row", "j"] ["matrix", "best"] (defScope s_columns_of) := ⟨rfl, rfl, rfl, by decide +kernel, rfl, by decide +kernel, by decide +kernel⟩
theorem ok_columns_of {f : Addr} {fd : FuncData} (F : Fun K "columns_of" "columns_of" s_columns_of f fd) (c_with_column : Cal P w K mg base "with_column" 1 ["used", "j"] sp_with_column) (c_first_column : Cal P w K mg base "first_column" 2 ["row", "behind", "used", "best"] sp_first_column) (m_enumerate : mg "enumerate" = none) : FnOk P w K mg base CX0 3 f fd ["matrix", "best"] sp_columns_of := by
  refine F.ok sc_columns_of (fun vs H Q E h => ?_) (fun cdv A outer s H vs Q E hr h => ?_)
  · obtain ⟨v1, x1, v2, x2, S, rfl, _⟩ := h
    rfl
  · obtain ⟨v1, x1, v2, x2, S, rfl, e, r1, r2, hp, q⟩ := h
    try dsimp only at q
    refine ⟨_, (pss_cons (ps_set (i := 2) sc_columns_of.nd rfl (Or.inl rfl) pe_int)
      (pss_cons (ps_set (i := 3) sc_columns_of.nd rfl (Or.inl rfl) (pe_lst pa_nil))
      (pss_cons (ps_for PassesOwn.never rfl (pi_enum (by rfl) m_enumerate (pa_cons (pv 0) pa_nil)) (pg_tup rfl (pgs_cons (pg_name (i := 4) sc_columns_of.nd rfl (Or.inl rfl)) (pgs_cons (pg_name (i := 5) sc_columns_of.nd rfl (Or.inl rfl)) pgs_nil))) (pss_cons (ps_set (i := 6) sc_columns_of.nd rfl (Or.inl rfl) (pe_cal c_first_column (hr.mono (by decide)) (by rfl) (pa_cons (pv 5) (pa_cons (pe_ix ix_list (pv 1) (pe_op op_add (pv 4) pe_int) (fun _ _ => rfl)) (pa_cons (pv 2) (pa_cons (pe_ix ix_list (pe_ix ix_list (pv 1) (pv 4) (fun _ _ => rfl)) (pv 2) (fun _ _ => rfl)) pa_nil))))))
      (pss_cons (ps_expr (pe_bm PySem.F.plainAttrs_list PySem.F.slot_list_append PySem.F.type_list_append mt_append (pv 3) (pa_cons (pv 6) pa_nil)))
      (pss_one (ps_set (i := 2) sc_columns_of.nd rfl (Or.inl rfl) (pe_cal c_with_column (hr.mono (by decide)) (by rfl) (pa_cons (pv 2) (pa_cons (pv 6) pa_nil))))))))
      (pss_one (ps_ret (pv 3)))))), ?_⟩
    obtain ⟨hn, hs, rfl, s0, h0⟩ := hp
    have h256 : 2 ^ x1.length ≤ 2 ^ 8 := Nat.pow_le_pow_right (by decide) hn
    refine q_asg (R := rNat) (x := 0) (ev_c rfl) (Gr.refl e) fun v3 S1 H1 g1 s1 r3 => ?_
    cases r3
    refine q_nil g1 fun p H2 np g2 hp => ?_
    have hB : H p = none := g1.hh.free np
    refine q_forO (fun k σ' S' vs => (rL (rL rNum)).is S' v2 (tabs x1) ∧ ∃ (m : Nat) (pre : List Nat) (s : Int) (y z w : Option V), vs = pre.map (fun j : Nat => V.int (j : Int)) ∧ pre.length = k ∧ WsM.cols x1.length x1 x1.length 0 0 = pre ++ WsM.cols x1.length x1 (x1.length - k) k m ∧ m < 2 ^ x1.length ∧ WsM.tv x1.length x1 (x1.length - k) k m = some s ∧ σ' = [some v1, some v2, some (.int (m : Int)), some (.ref p), y, z, w])
      (src_enum (ev_var rfl ((rL (rL rNum)).mono s1 r1))) g2 hp (fun S3 s3 => ⟨(rL (rL rNum)).mono (s1.trans s3) r2, 0, [], s0, none, none, none, rfl, rfl, rfl, Nat.pow_pos (by decide), h0, rfl⟩) (fun i σ' S3 S4 vs s h => ?_) (fun S0 s00 k x σ' S3 H3 vs v hx g3 hp3 s3 hP rx => ?_) (fun σ' S3 H3 vs g3 hp3 s3 hP => ?_)
    · obtain ⟨a1, a2⟩ := h
      exact ⟨(rL (rL rNum)).mono s a1, a2⟩
    · obtain ⟨a1, m, pre, s, y, z, w, a2, a3, a4, a5, a6, rfl⟩ := hP
      obtain ⟨k', row⟩ := x
      obtain ⟨hx1, hx2⟩ := List.getElem?_zip_eq_some.mp hx
      have hk : k < x1.length := (List.getElem?_eq_some_iff.mp hx2).1
      rw [List.getElem?_range hk] at hx1
      have ek : k = k' := Option.some.inj hx1
      subst ek
      have hl : row.length = x1.length := hs.2 row (List.mem_of_getElem? hx2)
      obtain ⟨f, hf⟩ : ∃ f, f + k + 1 = x1.length := ⟨x1.length - k - 1, by omega⟩
      have hfk : x1.length - k = f + 1 := by omega
      rw [hfk] at a4 a6
      obtain ⟨j, l, hj1, hj2, hj3, hj4⟩ := WsM.hits_ne a6
      have hit : hitList row (tabRow x1.length x1 f) m (WsM.tv x1.length x1 (f + 1) k m) = WsM.hits x1.length x1 f k m := hitList_eq hs hn hf a5 hx2 rfl
      refine g_pair g3.hole_same rx fun w1 w2 q1 q2 => ?_
      cases q1
      have t1 : (tabs x1)[k + 1]? = some (tabRow x1.length x1 f) := by
        rw [tabs_get (by omega), show x1.length - (k + 1) = f by omega]
      have t2 : (tabs x1)[k]? = some (tabRow x1.length x1 (f + 1)) := by
        rw [tabs_get (by omega), hfk]
      have t3 : (tabRow x1.length x1 (f + 1))[m]? = some (WsM.tv x1.length x1 (f + 1) k m) := by
        rw [getD_get (by rw [tabRow_len]; exact a5) none, tabRow_get a5, show x1.length - (f + 1) = k by omega]
      refine q_asgO (R := rNat) (x := j) g3 hp3 (ev_call4 (x1 := row) (x2 := tabRow x1.length x1 f) (x3 := m) (x4 := WsM.tv x1.length x1 (f + 1) k m) (ev_var rfl q2) (ev_ix (R := rL rNum) (j := k + 1) (ev_var rfl a1) (ev_I0 (g := fun i j => .int (i + j)) (i := (k : Int)) (j := 1) (ev_var rfl rfl) (ev_c rfl) fun _ => rfl) t1) (ev_var rfl rfl) (ev_ix (j := m) (ev_ix (R := rL rNum) (j := k) (ev_var rfl a1) (ev_var rfl rfl) t2) (ev_var rfl rfl) t3) ⟨by omega, by rw [tabRow_len, hl], by rw [hl]; exact a5, by rw [hit, hj1]; exact fun z => by cases z⟩ (by rw [hit, hj1]; rfl)) fun v7 S4 H4 g4 hp4 s4 r7 => ?_
      cases r7
      refine q_app (R := rNat) (x := j) g4 hp4 (by rw [a2, List.length_map]; omega) (i := 3) rfl (ev_var rfl rfl) fun v8 S5 H5 g5 hp5 s5 r8 => ?_
      cases r8
      refine s_asgO (R := rNat) (x := m + 2 ^ j) g5 hp5 (ev_call2 (x1 := m) (x2 := j) (ev_var rfl rfl) (ev_var rfl rfl) (by omega)) fun v9 S6 H6 g6 hp6 s6 r9 => ?_
      cases r9
      obtain ⟨u, t, _, e2, _⟩ := WsM.plus_some.mp hj4
      refine ⟨S6, _, g6, hp6, ((s3.trans s4).trans s5).trans s6, (rL (rL rNum)).mono ((s4.trans s5).trans s6) a1, m + 2 ^ j, pre ++ [j], t, _, _, _, ?_, ?_, ?_, WsM.free_lt hn a5 hj2 hj3, ?_, rfl⟩
      · rw [a2, List.map_append]
        rfl
      · rw [List.length_append, a3]
        rfl
      · rw [a4, List.append_assoc, show x1.length - (k + 1) = f by omega]
        show pre ++ (((WsM.hits x1.length x1 f k m).headD 0) :: WsM.cols x1.length x1 f (k + 1) (m + 2 ^ ((WsM.hits x1.length x1 f k m).headD 0))) = _
        rw [hj1]
        rfl
      · rw [show x1.length - (k + 1) = f by omega]
        exact e2
    · obtain ⟨a1, m, pre, s, y, z, w, a2, a3, a4, a5, a6, rfl⟩ := hP
      rw [List.length_zip, List.length_range, Nat.min_self, Nat.sub_self] at a4
      have a4 : WsM.cols x1.length x1 x1.length 0 0 = pre := by rw [a4]; exact List.append_nil pre
      refine s_ret (R := rL rNat) (x := WsM.cols x1.length x1 x1.length 0 0) (ev_var rfl (rL_flat.mpr ⟨p, rfl, ?_⟩)) (g3.shut hp3 hB) q
      rw [upd_same, a2, a4]

theorem ev_lstRev {α : Type} {K : PySem.W.Frag} {σ : L2.St} {S : Hp} {R : Rp α} {te : TE} {l : List α} (h : EvR te σ S (rL R) l) : EvR (tLstRev K te) σ S (rL R) l.reverse := fun H e Q q => h H e _ fun v S1 H1 g r => by
  obtain ⟨a, vs, rfl, h2, h3⟩ := r
  refine ⟨a, vs, rfl, SqL.of (g.sh _ _ h2), fun p hp => q (.ref p) _ _ (g.trans (Gr.new g.sh hp)) ⟨p, vs.reverse, rfl, upd_same, ?_⟩⟩
  have n := same_new (o := HO.lst vs.reverse) (g.sh.free hp)
  have h4 := Paired.same n h3
  have rev : ∀ {F : V → α → Prop} {vs : List V} {l : List α}, Paired F vs l → Paired F vs.reverse l.reverse := by
    intro F vs l h
    induction h with
    | nil => exact .nil
    | cons a b ih =>
      rw [List.reverse_cons, List.reverse_cons]
      exact Paired.snoc ih a
  exact rev h4
abbrev sp_tables : Sp := sp1 (rL (rL rNum)) (rL (rL rNum)) (fun m => m.length ≤ 8 ∧ WsM.Sq m.length m) tabs
theorem sc_tables : FnScope ["matrix", "many", "found", "row", "behind", "used"] ["matrix"] (defScope s_tables) := ⟨rfl, rfl, rfl, by decide +kernel, rfl, by decide +kernel, by decide +kernel⟩
theorem ok_tables {f : Addr} {fd : FuncData} (F : Fun K "tables" "tables" s_tables f fd) (c_best_behind : Cal P w K mg base "best_behind" 3 ["row", "behind", "used"] sp_best_behind) (m_list : mg "list" = none) (m_reversed : mg "reversed" = none) (m_range : mg "range" = none) (m_len : mg "len" = none) : FnOk P w K mg base CX0 4 f fd ["matrix"] sp_tables := by
  refine F.ok sc_tables (fun vs H Q E h => ?_) (fun cdv A outer s H vs Q E hr h => ?_)
  · obtain ⟨v1, x1, S, rfl, _⟩ := h
    rfl
  · obtain ⟨v1, x1, S, rfl, e, r1, hp, q⟩ := h
    try dsimp only at q
    refine ⟨_, (pss_cons (ps_set (i := 1) sc_tables.nd rfl (Or.inl rfl) (pe_op op_shl pe_int (pe_callB call_len_seq (by rfl) m_len (by decide +kernel) (pa_cons (pv 0) pa_nil))))
      (pss_cons (ps_set (i := 2) sc_tables.nd rfl (Or.inl rfl) (pe_lst (pa_cons (pe_lc (own := [("used", 5)]) (wi := (iRng1 (tCons (tVar 1) tNil))) (g := (gName 5)) (tt := tYes) (te := (tC (.int 0))) rfl sc_tables.nd (pi_range1 (by rfl) m_range (pa_cons (pv 1) pa_nil)) (blkOk_by (N := ["matrix", "many", "found", "row", "behind", "used"]) (sc := (defScope s_tables)) (by decide +kernel)) (fun _ _ _ _ _ => (pg_name (i := 5) sc_tables.nd rfl (Or.inl rfl))) (fun _ _ _ _ _ => pts_nil) (fun _ _ _ _ _ => pe_int)) pa_nil)))
      (pss_cons (ps_for PassesOwn.never rfl (pi_reversed (by rfl) m_reversed (pa_cons (pv 0) pa_nil)) (pg_name (i := 3) sc_tables.nd rfl (Or.inr rfl)) (pss_cons (ps_set (i := 4) sc_tables.nd rfl (Or.inr rfl) (pe_ix ix_list (pv 2) (pe_un un_neg pe_int) (fun _ _ => rfl)))
      (pss_one (ps_expr (pe_bm PySem.F.plainAttrs_list PySem.F.slot_list_append PySem.F.type_list_append mt_append (pv 2) (pa_cons (pe_lc (own := [("used", 5)]) (wi := (iRng1 (tCons (tVar 1) tNil))) (g := (gName 5)) (tt := tYes) (te := (tCall sp_best_behind [] E0 (tCons (tVar 3) (tCons (tVar 4) (tCons (tVar 5) tNil))))) rfl sc_tables.nd (pi_range1 (by rfl) m_range (pa_cons (pv 1) pa_nil)) (blkOk_by (N := ["matrix", "many", "found", "row", "behind", "used"]) (sc := (defScope s_tables)) (by decide +kernel)) (fun _ _ _ _ _ => (pg_name (i := 5) sc_tables.nd rfl (Or.inl rfl))) (fun _ _ _ _ _ => pts_nil) (fun _ _ _ _ _ => (pe_cal c_best_behind (hr.mono (by decide)) (by rfl) (pa_cons (pv 3) (pa_cons (pv 4) (pa_cons (pv 5) pa_nil)))))) pa_nil))))))
      (pss_one (ps_ret (pe_listRev rfl (by rfl) m_list (by rfl) m_reversed (pv 2))))))), ?_⟩
    obtain ⟨hn, hs⟩ := hp
    have h256 : 2 ^ x1.length ≤ 2 ^ 8 := Nat.pow_le_pow_right (by decide) hn
    refine q_asg (R := rNat) (x := 2 ^ x1.length) (ev_I (C := CPow) (i := 1) (j := (x1.length : Int)) (ev_c rfl) (ev_len (ev_var rfl r1)) ⟨by omega, by omega, by decide⟩ fun _ => ?_) (Gr.refl e) fun v2 S1 H1 g1 s1 r2 => ?_
    · show V.int (1 * 2 ^ (x1.length : Int).toNat) = V.int ((2 ^ x1.length : Nat) : Int)
      rw [Int.toNat_natCast, Int.one_mul, Int.natCast_pow]
      rfl
    · cases r2
      have r1' := (rL (rL rNum)).mono s1 r1
      refine q_lst1 (R := rL rNum) (x := tabRow x1.length x1 0) (EvR.is (ev_lcY (R' := rNum) (fun _ : Nat => (some 0 : Option Int)) (src_range (n := 2 ^ x1.length) (by omega) (ev_var rfl rfl)) (by rw [List.length_range]; omega) (fun _ => rfl) fun _ _ _ _ _ _ => ev_c rfl) rfl) g1 fun p w S2 H2 hB g2 hp s2 rw' => ?_
      refine q_forO (fun k σ' S' vs => Paired ((rL rNum).is S') vs ((List.range (k + 1)).map (tabRow x1.length x1)) ∧ (rL (rL rNum)).is S' v1 x1 ∧ ∃ y z, σ' = [some v1, some (.int ((2 ^ x1.length : Nat) : Int)), some (.ref p), y, z, none])
        (src_rev (ev_var rfl ((rL (rL rNum)).mono s2 r1'))) g2 hp (fun S3 s3 => ⟨.cons ((rL rNum).mono s3 rw') .nil, (rL (rL rNum)).mono (s2.trans s3) r1', none, none, rfl⟩) (fun i σ' S3 S4 vs s h => ?_) (fun S0 s0 k row σ' S3 H3 vs v hx g3 hp3 s3 hP rx => ?_) (fun σ' S3 H3 vs g3 hp3 s3 hP => ?_)
      · obtain ⟨a1, a2, a3⟩ := h
        exact ⟨Paired.same s a1, (rL (rL rNum)).mono s a2, a3⟩
      · obtain ⟨a1, a2, y, z, rfl⟩ := hP
        have hk : k < x1.length := by
          have := (List.getElem?_eq_some_iff.mp hx).1
          simpa using this
        rw [List.getElem?_reverse hk] at hx
        have hl : row.length = x1.length := hs.2 row (List.mem_of_getElem? hx)
        have hlen := paired_len a1
        rw [List.length_map, List.length_range] at hlen
        rw [List.range_succ, List.map_append] at a1
        obtain ⟨ws, b, rfl, b1, b2⟩ := paired_snoc a1
        have b2 : (rL rNum).is S3 b (tabRow x1.length x1 k) := b2
        -- behind = found[-1]
        refine ⟨.ref p, rfl, 1, rfl, p, _, -1, b, rfl, rfl, SqL.of hp3, atI_last _ _, ?_⟩
        refine s_app (R := rL rNum) (x := tabRow x1.length x1 (k + 1)) g3 hp3 (by rw [hlen]; omega) (i := 2) rfl (EvR.is (ev_lcY (R' := rNum) (fun used : Nat => Rb23.best (bb row (tabRow x1.length x1 k) used row.length)) (src_range (n := 2 ^ x1.length) (by omega) (ev_var rfl rfl)) (by rw [List.length_range]; omega) (fun _ => rfl) fun used hu u S4 s4 ru => ?_) (tabRow_succ hs hn hk hx)) fun u S4 H4 g4 hp4 s4 ru => ?_
        · rw [List.mem_range] at hu
          exact ev_call3 (x3 := used) (ev_var rfl ((rL rNum).mono s4 rx)) (ev_var rfl ((rL rNum).mono s4 b2)) (ev_var rfl ru) ⟨by omega, by rw [tabRow_len, hl], by rw [hl]; exact hu⟩
        · refine ⟨S4, _, g4, hp4, s3.trans s4, ?_, (rL (rL rNum)).mono s4 a2, _, _, rfl⟩
          rw [List.range_succ, List.map_append, List.range_succ, List.map_append]
          exact Paired.snoc (Paired.snoc (Paired.same s4 b1) ((rL rNum).mono s4 b2)) ru
      · obtain ⟨a1, a2, y, z, rfl⟩ := hP
        rw [List.length_reverse] at a1
        have sn : S3 p = none := g3.sh.free del_at
        exact s_ret (ev_lstRev (R := rL rNum) (l := (List.range (x1.length + 1)).map (tabRow x1.length x1)) (ev_var rfl ⟨p, vs, rfl, upd_same, Paired.same (same_new sn) a1⟩)) (g3.shut hp3 hB) q

def asgAns (n : Nat) (a : Rb23.Mat) : List Int := match WsM.tv n a n 0 0 with
  | none => [0]
  | some s => 1 :: Rb23Neutral.spelled (some s) :: (WsM.cols n a n 0 0).map fun j : Nat => (j : Int)
theorem cols_len {n : Nat} {a : Rb23.Mat} : ∀ f i m, (WsM.cols n a f i m).length = f
  | 0, _, _ => rfl
  | f + 1, i, m => congrArg (· + 1) (cols_len f (i + 1) _)
abbrev sp_assign (K : PySem.W.Frag) : Sp := sp2 rInt (rA K V.int) (rL rInt) (fun n a => 1 ≤ n ∧ n ≤ 8 ∧ a.length = n.toNat * n.toNat ∧ ∀ d ∈ a, 0 ≤ d) (fun n a => asgAns n.toNat (Rb23Neutral.mat n a))
theorem sc_assign : FnScope ["n", "a", "matrix", "best"] ["n", "a"] (defScope s_assign) := ⟨rfl, rfl, rfl, by decide +kernel, rfl, by decide +kernel, by decide +kernel⟩
theorem ok_assign {f : Addr} {fd : FuncData} (F : Fun K "assign" "assign" s_assign f fd) (c_spell : Cal P w K mg base "spell" 1 ["number"] sp_spell) (c_columns_of : Cal P w K mg base "columns_of" 3 ["matrix", "best"] sp_columns_of) (c_tables : Cal P w K mg base "tables" 4 ["matrix"] sp_tables) (c_matrix_of : Cal P w K mg base "matrix_of" 2 ["n", "spelled"] (sp_matrix_of K)) : FnOk P w K mg base CX0 5 f fd ["n", "a"] (sp_assign K) := by
  refine F.ok sc_assign (fun vs H Q E h => ?_) (fun cdv A outer s H vs Q E hr h => ?_)
  · obtain ⟨v1, x1, v2, x2, S, rfl, _⟩ := h
    rfl
  · obtain ⟨v1, x1, v2, x2, S, rfl, e, r1, r2, hp, q⟩ := h
    try dsimp only at q
    refine ⟨_, (pss_cons (ps_set (i := 2) sc_assign.nd rfl (Or.inl rfl) (pe_cal c_matrix_of (hr.mono (by decide)) (by rfl) (pa_cons (pv 0) (pa_cons (pv 1) pa_nil))))
      (pss_cons (ps_set (i := 3) sc_assign.nd rfl (Or.inl rfl) (pe_cal c_tables (hr.mono (by decide)) (by rfl) (pa_cons (pv 2) pa_nil)))
      (pss_cons (ps_if (pt_cmp (pc_isN (pe_ix ix_list (pe_ix ix_list (pv 3) pe_int (fun _ _ => rfl)) pe_int (fun _ _ => rfl)))) (pss_one (ps_ret (pe_lst (pa_cons pe_int pa_nil)))) pss_nil)
      (pss_one (ps_ret (pe_op op_cat (pe_lst (pa_cons pe_int (pa_cons (pe_cal c_spell (hr.mono (by decide)) (by rfl) (pa_cons (pe_ix ix_list (pe_ix ix_list (pv 3) pe_int (fun _ _ => rfl)) pe_int (fun _ _ => rfl)) pa_nil)) pa_nil))) (pe_cal c_columns_of (hr.mono (by decide)) (by rfl) (pa_cons (pv 2) (pa_cons (pv 3) pa_nil))))))))), ?_⟩
    obtain ⟨h1, h8, la, ha⟩ := hp
    have qa := mat_sq h1 la
    have hn : x1.toNat ≤ 8 := by omega
    refine q_asg (R := rL (rL rNum)) (x := Rb23Neutral.mat x1 x2) (ev_call2 (ev_var rfl r1) (ev_var rfl r2) ⟨h1, by omega, ha⟩) (Gr.refl e) fun v3 S1 H1 g1 s1 r3 => ?_
    generalize hM : Rb23Neutral.mat x1 x2 = M at qa r3 q
    generalize hN : x1.toNat = N at qa hn q
    obtain rfl : List.length M = N := qa.1
    refine q_asg (R := rL (rL rNum)) (x := tabs M) (ev_call1 (ev_var rfl r3) ⟨hn, qa⟩) g1 fun v4 S2 H2 g2 s2 r4 => ?_
    have t0 : (tabs M)[0]? = some (tabRow (List.length M) M (List.length M)) := tabs_get (Nat.zero_le _)
    have p0 : 0 < 2 ^ List.length M := Nat.pow_pos (by decide)
    have t1 : (tabRow (List.length M) M (List.length M))[0]? = some (WsM.tv (List.length M) M (List.length M) 0 0) := by
      rw [getD_get (by rw [tabRow_len]; exact p0) none, tabRow_get p0, Nat.sub_self]
    have ev0 : ∀ {S3 : Hp}, Same S2 S3 → EvR (tOp (rIxL K) (tOp (rIxL K) (tVar 3) (tC (.int 0))) (tC (.int 0))) [some v1, some v2, some v3, some v4] S3 rNum (WsM.tv (List.length M) M (List.length M) 0 0) := fun {S3} s3 =>
      ev_ix (j := 0) (ev_ix (R := rL rNum) (j := 0) (ev_var rfl ((rL (rL rNum)).mono s3 r4)) (ev_c rfl) t0) (ev_c rfl) t1
    unfold asgAns at q
    refine q_when (et_none (ev0 (Same.refl _))) g2 (fun h S3 H3 g3 s3 => ?_) (fun h S3 H3 g3 s3 => ?_)
    · refine s_ret (ev_lst1 (ev_c (R := rInt) (x := 0) rfl)) g3 fun v S4 H4 g4 r => q v S4 H4 g4 ?_
      rw [Option.isNone_iff_eq_none.mp h]
      exact r
    · cases z : WsM.tv (List.length M) M (List.length M) 0 0 with
      | none =>
        rw [z] at h
        cases h
      | some s =>
        rw [z] at q
        have ev1 := ev0 s3
        rw [z] at ev1
        refine s_ret (ev_cat (l := [1, Rb23Neutral.spelled (some s)]) ?_ (ev_lst2 (R := rInt) (ev_c (x := (1 : Int)) rfl) (ev_call1 ev1 trivial)) (EvR.wide (R := rL rNat) (x := WsM.cols (List.length M) M (List.length M) 0 0) (ev_call2 (ev_var rfl ((rL (rL rNum)).mono (s2.trans s3) r3)) (ev_var rfl ((rL (rL rNum)).mono s3 r4)) ⟨hn, qa, rfl, s, z⟩) fun S v r => rL_cast r)) g3 q
        rw [List.length_map, cols_len]
        show 2 + _ ≤ _
        omega

end
theorem all_mk {P : Program} {w : World} {K : PySem.W.Frag} {h : Heap} {mg : Str → Option Value} {fa : Addr} (X : K.In h) (G : h.Ns mainGlobals mg) (hfa : mg "assign" = some (.ref fa))
    {f1 : Addr} {od1 an1 : Option Addr} {sl1 : Array (Option Value)} {oc1 kV1 dc1 pm1 cd1 ct1 : Value}
    (a1 : PySem.W.nsIn K mainGlobals "read" = some (some (.ref f1))) (l1 : K.lookup f1 = some ⟨oc1, od1, .func (PySem.W.fnOf "read" "read" (defArgs s_read) (defBody s_read) (defScope s_read) .none kV1 dc1 pm1 an1 cd1 ct1), sl1⟩) (c1 : PySem.W.codeIn K cd1 "read" = true) (k1 : PySem.W.keepIn K (.ref f1) = true)
    {f2 : Addr} {od2 an2 : Option Addr} {sl2 : Array (Option Value)} {oc2 kV2 dc2 pm2 cd2 ct2 : Value}
    (a2 : PySem.W.nsIn K mainGlobals "spell" = some (some (.ref f2))) (l2 : K.lookup f2 = some ⟨oc2, od2, .func (PySem.W.fnOf "spell" "spell" (defArgs s_spell) (defBody s_spell) (defScope s_spell) .none kV2 dc2 pm2 an2 cd2 ct2), sl2⟩) (c2 : PySem.W.codeIn K cd2 "spell" = true) (k2 : PySem.W.keepIn K (.ref f2) = true)
    {f3 : Addr} {od3 an3 : Option Addr} {sl3 : Array (Option Value)} {oc3 kV3 dc3 pm3 cd3 ct3 : Value}
    (a3 : PySem.W.nsIn K mainGlobals "plus" = some (some (.ref f3))) (l3 : K.lookup f3 = some ⟨oc3, od3, .func (PySem.W.fnOf "plus" "plus" (defArgs s_plus) (defBody s_plus) (defScope s_plus) .none kV3 dc3 pm3 an3 cd3 ct3), sl3⟩) (c3 : PySem.W.codeIn K cd3 "plus" = true) (k3 : PySem.W.keepIn K (.ref f3) = true)
    {f4 : Addr} {od4 an4 : Option Addr} {sl4 : Array (Option Value)} {oc4 kV4 dc4 pm4 cd4 ct4 : Value}
    (a4 : PySem.W.nsIn K mainGlobals "greater" = some (some (.ref f4))) (l4 : K.lookup f4 = some ⟨oc4, od4, .func (PySem.W.fnOf "greater" "greater" (defArgs s_greater) (defBody s_greater) (defScope s_greater) .none kV4 dc4 pm4 an4 cd4 ct4), sl4⟩) (c4 : PySem.W.codeIn K cd4 "greater" = true) (k4 : PySem.W.keepIn K (.ref f4) = true)
    {f5 : Addr} {od5 an5 : Option Addr} {sl5 : Array (Option Value)} {oc5 kV5 dc5 pm5 cd5 ct5 : Value}
    (a5 : PySem.W.nsIn K mainGlobals "is_free" = some (some (.ref f5))) (l5 : K.lookup f5 = some ⟨oc5, od5, .func (PySem.W.fnOf "is_free" "is_free" (defArgs s_is_free) (defBody s_is_free) (defScope s_is_free) .none kV5 dc5 pm5 an5 cd5 ct5), sl5⟩) (c5 : PySem.W.codeIn K cd5 "is_free" = true) (k5 : PySem.W.keepIn K (.ref f5) = true)
    {f6 : Addr} {od6 an6 : Option Addr} {sl6 : Array (Option Value)} {oc6 kV6 dc6 pm6 cd6 ct6 : Value}
    (a6 : PySem.W.nsIn K mainGlobals "with_column" = some (some (.ref f6))) (l6 : K.lookup f6 = some ⟨oc6, od6, .func (PySem.W.fnOf "with_column" "with_column" (defArgs s_with_column) (defBody s_with_column) (defScope s_with_column) .none kV6 dc6 pm6 an6 cd6 ct6), sl6⟩) (c6 : PySem.W.codeIn K cd6 "with_column" = true) (k6 : PySem.W.keepIn K (.ref f6) = true)
    {f7 : Addr} {od7 an7 : Option Addr} {sl7 : Array (Option Value)} {oc7 kV7 dc7 pm7 cd7 ct7 : Value}
    (a7 : PySem.W.nsIn K mainGlobals "greatest" = some (some (.ref f7))) (l7 : K.lookup f7 = some ⟨oc7, od7, .func (PySem.W.fnOf "greatest" "greatest" (defArgs s_greatest) (defBody s_greatest) (defScope s_greatest) .none kV7 dc7 pm7 an7 cd7 ct7), sl7⟩) (c7 : PySem.W.codeIn K cd7 "greatest" = true) (k7 : PySem.W.keepIn K (.ref f7) = true)
    {f8 : Addr} {od8 an8 : Option Addr} {sl8 : Array (Option Value)} {oc8 kV8 dc8 pm8 cd8 ct8 : Value}
    (a8 : PySem.W.nsIn K mainGlobals "first_column" = some (some (.ref f8))) (l8 : K.lookup f8 = some ⟨oc8, od8, .func (PySem.W.fnOf "first_column" "first_column" (defArgs s_first_column) (defBody s_first_column) (defScope s_first_column) .none kV8 dc8 pm8 an8 cd8 ct8), sl8⟩) (c8 : PySem.W.codeIn K cd8 "first_column" = true) (k8 : PySem.W.keepIn K (.ref f8) = true)
    {f9 : Addr} {od9 an9 : Option Addr} {sl9 : Array (Option Value)} {oc9 kV9 dc9 pm9 cd9 ct9 : Value}
    (a9 : PySem.W.nsIn K mainGlobals "matrix_of" = some (some (.ref f9))) (l9 : K.lookup f9 = some ⟨oc9, od9, .func (PySem.W.fnOf "matrix_of" "matrix_of" (defArgs s_matrix_of) (defBody s_matrix_of) (defScope s_matrix_of) .none kV9 dc9 pm9 an9 cd9 ct9), sl9⟩) (c9 : PySem.W.codeIn K cd9 "matrix_of" = true) (k9 : PySem.W.keepIn K (.ref f9) = true)
    {f10 : Addr} {od10 an10 : Option Addr} {sl10 : Array (Option Value)} {oc10 kV10 dc10 pm10 cd10 ct10 : Value}
    (a10 : PySem.W.nsIn K mainGlobals "best_behind" = some (some (.ref f10))) (l10 : K.lookup f10 = some ⟨oc10, od10, .func (PySem.W.fnOf "best_behind" "best_behind" (defArgs s_best_behind) (defBody s_best_behind) (defScope s_best_behind) .none kV10 dc10 pm10 an10 cd10 ct10), sl10⟩) (c10 : PySem.W.codeIn K cd10 "best_behind" = true) (k10 : PySem.W.keepIn K (.ref f10) = true)
    {f11 : Addr} {od11 an11 : Option Addr} {sl11 : Array (Option Value)} {oc11 kV11 dc11 pm11 cd11 ct11 : Value}
    (a11 : PySem.W.nsIn K mainGlobals "columns_of" = some (some (.ref f11))) (l11 : K.lookup f11 = some ⟨oc11, od11, .func (PySem.W.fnOf "columns_of" "columns_of" (defArgs s_columns_of) (defBody s_columns_of) (defScope s_columns_of) .none kV11 dc11 pm11 an11 cd11 ct11), sl11⟩) (c11 : PySem.W.codeIn K cd11 "columns_of" = true) (k11 : PySem.W.keepIn K (.ref f11) = true)
    {f12 : Addr} {od12 an12 : Option Addr} {sl12 : Array (Option Value)} {oc12 kV12 dc12 pm12 cd12 ct12 : Value}
    (a12 : PySem.W.nsIn K mainGlobals "tables" = some (some (.ref f12))) (l12 : K.lookup f12 = some ⟨oc12, od12, .func (PySem.W.fnOf "tables" "tables" (defArgs s_tables) (defBody s_tables) (defScope s_tables) .none kV12 dc12 pm12 an12 cd12 ct12), sl12⟩) (c12 : PySem.W.codeIn K cd12 "tables" = true) (k12 : PySem.W.keepIn K (.ref f12) = true)
    {f13 : Addr} {od13 an13 : Option Addr} {sl13 : Array (Option Value)} {oc13 kV13 dc13 pm13 cd13 ct13 : Value}
    (a13 : PySem.W.nsIn K mainGlobals "assign" = some (some (.ref f13))) (l13 : K.lookup f13 = some ⟨oc13, od13, .func (PySem.W.fnOf "assign" "assign" (defArgs s_assign) (defBody s_assign) (defScope s_assign) .none kV13 dc13 pm13 an13 cd13 ct13), sl13⟩) (c13 : PySem.W.codeIn K cd13 "assign" = true) (k13 : PySem.W.keepIn K (.ref f13) = true)
    (z_range : PySem.W.nsIn K mainGlobals "range" = some none)
    (z_len : PySem.W.nsIn K mainGlobals "len" = some none)
    (z_enumerate : PySem.W.nsIn K mainGlobals "enumerate" = some none)
    (z_list : PySem.W.nsIn K mainGlobals "list" = some none)
    (z_reversed : PySem.W.nsIn K mainGlobals "reversed" = some none)
    : ∃ fd : FuncData, (∀ (s : Shared) (us : List Value), us.length = (["n", "a"] : List Str).length → BindsTo s fd ⟨us, []⟩ ((["n", "a"] : List Str).zip us)) ∧ ∀ base : Heap, K.In base → base.Ns mainGlobals mg → FnOk P w K mg base CX0 5 fa fd ["n", "a"] (sp_assign K) := by
  have e := hfa.symm.trans (PySem.W.mg_of X G a13)
  cases e
  have m_range := PySem.W.mg_none_of X G z_range
  have m_len := PySem.W.mg_none_of X G z_len
  have m_enumerate := PySem.W.mg_none_of X G z_enumerate
  have m_list := PySem.W.mg_none_of X G z_list
  have m_reversed := PySem.W.mg_none_of X G z_reversed
  refine ⟨PySem.W.fnOf "assign" "assign" (defArgs s_assign) (defBody s_assign) (defScope s_assign) .none kV13 dc13 pm13 an13 cd13 ct13, fun s us hu => match us, hu with | [_, _], _ => .of_eq rfl, fun base _ _ => ?_⟩
  have F1 := fun_mk (st := s_read) l1 c1 k1
  have c_read : Cal P w K mg base "read" 1 ["spelled"] sp_read := ⟨⟨f1, _, ok_read (P := P) (w := w) (mg := mg) (base := base) F1, PySem.W.mg_of X G a1, k1, F1.binds (ps := ["spelled"]) fun _ _ _ _ _ _ us hl => match us, hl with | [_], _ => rfl⟩⟩
  have F2 := fun_mk (st := s_spell) l2 c2 k2
  have c_spell : Cal P w K mg base "spell" 1 ["number"] sp_spell := ⟨⟨f2, _, ok_spell (P := P) (w := w) (mg := mg) (base := base) F2, PySem.W.mg_of X G a2, k2, F2.binds (ps := ["number"]) fun _ _ _ _ _ _ us hl => match us, hl with | [_], _ => rfl⟩⟩
  have F3 := fun_mk (st := s_plus) l3 c3 k3
  have c_plus : Cal P w K mg base "plus" 1 ["one", "other"] sp_plus := ⟨⟨f3, _, ok_plus (P := P) (w := w) (mg := mg) (base := base) F3, PySem.W.mg_of X G a3, k3, F3.binds (ps := ["one", "other"]) fun _ _ _ _ _ _ us hl => match us, hl with | [_, _], _ => rfl⟩⟩
  have F4 := fun_mk (st := s_greater) l4 c4 k4
  have c_greater : Cal P w K mg base "greater" 1 ["one", "other"] sp_greater := ⟨⟨f4, _, ok_greater (P := P) (w := w) (mg := mg) (base := base) F4, PySem.W.mg_of X G a4, k4, F4.binds (ps := ["one", "other"]) fun _ _ _ _ _ _ us hl => match us, hl with | [_, _], _ => rfl⟩⟩
  have F5 := fun_mk (st := s_is_free) l5 c5 k5
  have c_is_free : Cal P w K mg base "is_free" 1 ["used", "j"] sp_is_free := ⟨⟨f5, _, ok_is_free (P := P) (w := w) (mg := mg) (base := base) F5, PySem.W.mg_of X G a5, k5, F5.binds (ps := ["used", "j"]) fun _ _ _ _ _ _ us hl => match us, hl with | [_, _], _ => rfl⟩⟩
  have F6 := fun_mk (st := s_with_column) l6 c6 k6
  have c_with_column : Cal P w K mg base "with_column" 1 ["used", "j"] sp_with_column := ⟨⟨f6, _, ok_with_column (P := P) (w := w) (mg := mg) (base := base) F6, PySem.W.mg_of X G a6, k6, F6.binds (ps := ["used", "j"]) fun _ _ _ _ _ _ us hl => match us, hl with | [_, _], _ => rfl⟩⟩
  have F7 := fun_mk (st := s_greatest) l7 c7 k7
  have c_greatest : Cal P w K mg base "greatest" 2 ["numbers"] sp_greatest := ⟨⟨f7, _, ok_greatest (P := P) (w := w) (mg := mg) (base := base) F7 c_greater, PySem.W.mg_of X G a7, k7, F7.binds (ps := ["numbers"]) fun _ _ _ _ _ _ us hl => match us, hl with | [_], _ => rfl⟩⟩
  have F8 := fun_mk (st := s_first_column) l8 c8 k8
  have c_first_column : Cal P w K mg base "first_column" 2 ["row", "behind", "used", "best"] sp_first_column := ⟨⟨f8, _, ok_first_column (P := P) (w := w) (mg := mg) (base := base) F8 c_plus c_with_column c_is_free m_range m_len, PySem.W.mg_of X G a8, k8, F8.binds (ps := ["row", "behind", "used", "best"]) fun _ _ _ _ _ _ us hl => match us, hl with | [_, _, _, _], _ => rfl⟩⟩
  have F9 := fun_mk (st := s_matrix_of) l9 c9 k9
  have c_matrix_of : Cal P w K mg base "matrix_of" 2 ["n", "spelled"] (sp_matrix_of K) := ⟨⟨f9, _, ok_matrix_of (P := P) (w := w) (mg := mg) (base := base) F9 c_read m_range, PySem.W.mg_of X G a9, k9, F9.binds (ps := ["n", "spelled"]) fun _ _ _ _ _ _ us hl => match us, hl with | [_, _], _ => rfl⟩⟩
  have F10 := fun_mk (st := s_best_behind) l10 c10 k10
  have c_best_behind : Cal P w K mg base "best_behind" 3 ["row", "behind", "used"] sp_best_behind := ⟨⟨f10, _, ok_best_behind (P := P) (w := w) (mg := mg) (base := base) F10 c_greatest c_is_free c_plus c_with_column m_range m_len, PySem.W.mg_of X G a10, k10, F10.binds (ps := ["row", "behind", "used"]) fun _ _ _ _ _ _ us hl => match us, hl with | [_, _, _], _ => rfl⟩⟩
  have F11 := fun_mk (st := s_columns_of) l11 c11 k11
  have c_columns_of : Cal P w K mg base "columns_of" 3 ["matrix", "best"] sp_columns_of := ⟨⟨f11, _, ok_columns_of (P := P) (w := w) (mg := mg) (base := base) F11 c_with_column c_first_column m_enumerate, PySem.W.mg_of X G a11, k11, F11.binds (ps := ["matrix", "best"]) fun _ _ _ _ _ _ us hl => match us, hl with | [_, _], _ => rfl⟩⟩
  have F12 := fun_mk (st := s_tables) l12 c12 k12
  have c_tables : Cal P w K mg base "tables" 4 ["matrix"] sp_tables := ⟨⟨f12, _, ok_tables (P := P) (w := w) (mg := mg) (base := base) F12 c_best_behind m_list m_reversed m_range m_len, PySem.W.mg_of X G a12, k12, F12.binds (ps := ["matrix"]) fun _ _ _ _ _ _ us hl => match us, hl with | [_], _ => rfl⟩⟩
  have F13 := fun_mk (st := s_assign) l13 c13 k13
  exact ok_assign (P := P) (w := w) (mg := mg) (base := base) F13 c_spell c_columns_of c_tables c_matrix_of
end Ws
open PySem PySem.W PyProof.Rows
set_option maxRecDepth 100000 in
set_option maxHeartbeats 8000000 in
theorem PySem.Challenge.cw_waitsums_s07_assign_holds : PySem.Challenge.rw_waitsums_s07_assign.Holds := by
  w_on; k_headS; (case hw => exact ⟨[.int 1, .list [.int 1]], by decide +kernel, by decide +kernel⟩)
  k_fillS
  refine L2.walk_specK (r := PySem.Challenge.rw_waitsums_s07_assign) (k := 5) (CX := L2.CX0) (ps := ["n", "a"]) (sp := Ws.sp_assign) (by decide +kernel) rfl rfl ⟨rfl, by decide, by decide⟩ (fun w h Y => PySem.W.kIn_of Y) ?F ?S (fun _ _ _ _ z => z)
  case F =>
    intro w mg fa h Y KX G hmg
    refine' Ws.all_mk KX G hmg ?a1 ?l1 ?c1 ?k1 ?a2 ?l2 ?c2 ?k2 ?a3 ?l3 ?c3 ?k3 ?a4 ?l4 ?c4 ?k4 ?a5 ?l5 ?c5 ?k5 ?a6 ?l6 ?c6 ?k6 ?a7 ?l7 ?c7 ?k7 ?a8 ?l8 ?c8 ?k8 ?a9 ?l9 ?c9 ?k9 ?a10 ?l10 ?c10 ?k10 ?a11 ?l11 ?c11 ?k11 ?a12 ?l12 ?c12 ?k12 ?a13 ?l13 ?c13 ?k13 ?z_range ?z_len ?z_enumerate ?z_list ?z_reversed
    (case a1 => k_is)
    (case l1 => k_is)
    (case c1 => k_is)
    (case k1 => k_is)
    (case a2 => k_is)
    (case l2 => k_is)
    (case c2 => k_is)
    (case k2 => k_is)
    (case a3 => k_is)
    (case l3 => k_is)
    (case c3 => k_is)
    (case k3 => k_is)
    (case a4 => k_is)
    (case l4 => k_is)
    (case c4 => k_is)
    (case k4 => k_is)
    (case a5 => k_is)
    (case l5 => k_is)
    (case c5 => k_is)
    (case k5 => k_is)
    (case a6 => k_is)
    (case l6 => k_is)
    (case c6 => k_is)
    (case k6 => k_is)
    (case a7 => k_is)
    (case l7 => k_is)
    (case c7 => k_is)
    (case k7 => k_is)
    (case a8 => k_is)
    (case l8 => k_is)
    (case c8 => k_is)
    (case k8 => k_is)
    (case a9 => k_is)
    (case l9 => k_is)
    (case c9 => k_is)
    (case k9 => k_is)
    (case a10 => k_is)
    (case l10 => k_is)
    (case c10 => k_is)
    (case k10 => k_is)
    (case a11 => k_is)
    (case l11 => k_is)
    (case c11 => k_is)
    (case k11 => k_is)
    (case a12 => k_is)
    (case l12 => k_is)
    (case c12 => k_is)
    (case k12 => k_is)
    (case a13 => k_is)
    (case l13 => k_is)
    (case c13 => k_is)
    (case k13 => k_is)
    (case z_range => k_is)
    (case z_len => k_is)
    (case z_enumerate => k_is)
    (case z_list => k_is)
    (case z_reversed => k_is)
  case S =>
    intro K H xs a hO hwi hask hx
    obtain ⟨n, l1, u⟩ := a
    cases hx with
    | cons h1 hx =>
      cases hx with
      | cons h3 hx =>
        cases hx
        cases h1
        cases h3 with
        | lst s2 d2 =>
          have e2 := L2.ints_dw l1 _ d2
          subst e2
          have hk : PyRb23.assign_asked n l1 = true := hask
          have hk2 := Ws.asked_one hk
          have hk3 : (NeutralIO.within n 1 8 && Rb23Neutral.row l1 (Rb23Neutral.square n) Rb23Neutral.MOST) = true := hk2
          rw [Bool.and_eq_true] at hk3
          have k1 := Ws.within_iff hk3.1
          have k2 := Ws.row_asked hk3.2
          refine ⟨_, n, _, l1, H, rfl, fun _ _ h => h, rfl, ⟨_, rfl, s2⟩, ⟨k1.1, k1.2, k2.1, k2.2⟩, ?_⟩
          have ef : PyRb23.assign n l1 = Ws.asgAns n.toNat (Rb23Neutral.mat n l1) := by
            have hn : n.toNat ≤ 8 := by omega
            show (Rb23.spec (.assign n.toNat (Rb23Neutral.mat n l1))).v :: ((Rb23.spec (.assign n.toNat (Rb23Neutral.mat n l1))).l.map Rb23Neutral.spelled ++ (Rb23.spec (.assign n.toNat (Rb23Neutral.mat n l1))).b.map fun (n : Nat) => (n : Int)) = _
            unfold Rb23.spec Ws.asgAns
            dsimp only
            rw [WsM.assign_eq hn]
            cases WsM.tv n.toNat (Rb23Neutral.mat n l1) n.toNat 0 0 with
            | none => rfl
            | some s => rfl
          show Ws.Gives H H (Ws.rL Ws.rInt) _ fun v H' => L2.Dw K H' v (.list ((PyRb23.assign n l1).map WData.int))
          rw [ef]
          exact Ws.gives_ints
#print axioms PySem.Challenge.cw_waitsums_s07_assign_holds
