import PyProof.Rows.All
import Wide.All
import OpenK.AllK
import Wide.FinOn
import Open.SpecLaws
import KE.OsGo
import HandS.ForSpec
import HandS.Comp
import HandS.Iter
import HandS.Walk
import HandS.WideBits
import KE.IntBitsLaws
import PySem.Challenge.RW_waitsums_s06_period
set_option Elab.async false
set_option linter.all false
set_option maxRecDepth 100000
set_option maxHeartbeats 2000000
set_option Elab.async false
set_option linter.all false
set_option maxRecDepth 100000
set_option maxHeartbeats 2000000
/-! A layer over HandS for programs that only make new data: Rp (how a value of plain Lean lies in the heap), Gr (the known part grows), EvR (an expression comes to a value of plain Lean). -/
namespace Ws
open PySem PySem.Spec PyProof.Rows L2

/-! ### heaps -/
theorem same_new {H : Hp} {p : Addr} {o : HO} (h : H p = none) : Same H (upd H p o) := fun b x e => by
  rw [upd_ne (ne_of_none e h)]
  exact e
/-- from the known part S of H to the known part S' of H': all that was stands, and what is newly known is new -/
structure Gr (S H S' H' : Hp) : Prop where
  ss : Same S S'
  sh : Same S' H'
  hh : Same H H'
  nw : ∀ b, S b = none → S' b ≠ none → H b = none
theorem Gr.refl {S H : Hp} (e : Same S H) : Gr S H S H := ⟨Same.refl _, e, Same.refl _, fun _ h k => absurd h k⟩
theorem Gr.trans {S H S1 H1 S2 H2 : Hp} (a : Gr S H S1 H1) (b : Gr S1 H1 S2 H2) : Gr S H S2 H2 := by
  refine ⟨a.ss.trans b.ss, b.sh, a.hh.trans b.hh, fun x h k => ?_⟩
  by_cases q : S1 x = none
  · exact a.hh.free (b.nw x q k)
  · exact a.nw x h q
theorem Gr.new {S H : Hp} {p : Addr} {o : HO} (e : Same S H) (hp : H p = none) : Gr S H (upd S p o) (upd H p o) := by
  refine ⟨same_new (e.free hp), fun b u h => ?_, same_new hp, fun b h k => ?_⟩
  · by_cases q : b = p
    · subst q
      rw [upd_same] at h ⊢
      exact h
    · rw [upd_ne q] at h ⊢
      exact e b u h
  · by_cases q : b = p
    · subst q
      exact hp
    · rw [upd_ne q] at k
      exact absurd h k
/-- a heap without what stands at p -/
def del (H : Hp) (p : Addr) : Hp := fun b => if b = p then none else H b
theorem del_at {H : Hp} {p : Addr} : del H p p = none := if_pos rfl
theorem del_ne {H : Hp} {p b : Addr} (h : b ≠ p) : del H p b = H b := if_neg h
theorem del_same {H : Hp} {p : Addr} : Same (del H p) H := fun b o h => by
  by_cases q : b = p
  · subst q
    rw [del_at] at h
    cases h
  · rw [del_ne q] at h
    exact h
theorem del_upd {H : Hp} {p : Addr} {o : HO} : del (upd H p o) p = del H p := by
  funext b
  by_cases q : b = p
  · subst q
    rw [del_at, del_at]
  · rw [del_ne q, del_ne q, upd_ne q]
theorem del_none {H : Hp} {p : Addr} (h : H p = none) : del H p = H := by
  funext b
  by_cases q : b = p
  · subst q
    rw [del_at, h]
  · rw [del_ne q]
/-- an open list at p (known to nobody) while the rest grows -/
theorem Gr.hole {A B S H S' H' : Hp} {p : Addr} {o : HO} (a : Gr A B S (del H p)) (hp : H p = some o) (b : Gr S H S' H') : Gr A B S' (del H' p) ∧ H' p = some o := by
  have s0 : S p = none := by
    cases q : S p with
    | none => rfl
    | some u =>
      have := a.sh p u q
      rw [del_at] at this
      cases this
  have s1 : S' p = none := by
    cases q : S' p with
    | none => rfl
    | some u =>
      have := b.nw p s0 (by rw [q]; exact fun z => by cases z)
      rw [hp] at this
      cases this
  refine ⟨⟨a.ss.trans b.ss, fun x u h => ?_, fun x u h => ?_, fun x h k => ?_⟩, b.hh p o hp⟩
  · by_cases q : x = p
    · subst q
      rw [s1] at h
      cases h
    · rw [del_ne q]
      exact b.sh x u h
  · have h1 := a.hh x u h
    by_cases q : x = p
    · subst q
      rw [del_at] at h1
      cases h1
    · rw [del_ne q] at h1 ⊢
      exact b.hh x u h1
  · by_cases q : S x = none
    · have h1 := b.nw x q k
      refine a.hh.free ?_
      by_cases z : x = p
      · subst z
        exact del_at
      · rw [del_ne z]
        exact h1
    · exact a.nw x h q
theorem Gr.hole_same {A B S H : Hp} {p : Addr} (a : Gr A B S (del H p)) : Same S H := a.sh.trans del_same
/-- the open list is closed: it is known from now on -/
theorem Gr.shut {A B S H : Hp} {p : Addr} {o : HO} (a : Gr A B S (del H p)) (hp : H p = some o) (hB : B p = none) : Gr A B (upd S p o) H := by
  have s0 : S p = none := by
    cases q : S p with
    | none => rfl
    | some u =>
      have := a.sh p u q
      rw [del_at] at this
      cases this
  refine ⟨a.ss.trans (same_new s0), fun b u h => ?_, a.hh.trans del_same, fun b h k => ?_⟩
  · by_cases q : b = p
    · subst q
      rw [upd_same] at h
      rw [← h]
      exact hp
    · rw [upd_ne q] at h
      exact a.hole_same b u h
  · by_cases q : b = p
    · subst q
      exact hB
    · rw [upd_ne q] at k
      exact a.nw b h k
theorem Gr.openNew {S H : Hp} {p : Addr} {o : HO} (e : Same S H) (hp : H p = none) : Gr S H S (del (upd H p o) p) := by
  rw [del_upd, del_none hp]
  exact Gr.refl e
theorem Gr.store {A B S H : Hp} {p : Addr} {o : HO} (a : Gr A B S (del H p)) : Gr A B S (del (upd H p o) p) := by
  rw [del_upd]
  exact a

/-! ### how a value lies in the heap -/
structure Rp (α : Type) where
  is : Hp → V → α → Prop
  mono : ∀ {H H' : Hp} {v : V} {x : α}, Same H H' → is H v x → is H' v x
/-- a value that needs no heap -/
def rFlat {α : Type} (f : α → V) : Rp α := ⟨fun _ v x => v = f x, fun _ h => h⟩
abbrev rInt : Rp Int := rFlat V.int
abbrev rBool : Rp Bool := rFlat V.bl
def nV : Option Int → V
  | none => .non
  | some i => .int i
abbrev rNum : Rp (Option Int) := rFlat nV
theorem Paired.same {α : Type} {R : Rp α} {H H' : Hp} (e : Same H H') {vs : List V} {xs : List α} (h : Paired (R.is H) vs xs) : Paired (R.is H') vs xs := L2.Paired.mapP h fun _ _ q => R.mono e q
/-- a list of one's own making -/
def rL {α : Type} (R : Rp α) : Rp (List α) := ⟨fun H v l => ∃ a vs, v = .ref a ∧ H a = some (.lst vs) ∧ Paired (R.is H) vs l, fun e h => by
  obtain ⟨a, vs, h1, h2, h3⟩ := h
  exact ⟨a, vs, h1, e _ _ h2, Paired.same e h3⟩⟩
/-- a list that is only read -/
def rA (K : PySem.W.Frag) {α : Type} (f : α → V) : Rp (List α) := ⟨fun H v l => ∃ a, v = .ref a ∧ SqL K H a (l.map f), fun e h => by
  obtain ⟨a, h1, h2⟩ := h
  exact ⟨a, h1, e.seq h2⟩⟩
/-- a pair -/
def rP {α β : Type} (R : Rp α) (R' : Rp β) : Rp (α × β) := ⟨fun H v x => ∃ t v1 v2, v = .ref t ∧ H t = some (.tup [v1, v2]) ∧ R.is H v1 x.1 ∧ R'.is H v2 x.2, fun e h => by
  obtain ⟨t, v1, v2, h1, h2, h3, h4⟩ := h
  exact ⟨t, v1, v2, h1, e _ _ h2, R.mono e h3, R'.mono e h4⟩⟩
/-- a thing or None -/
def rO {α : Type} (R : Rp α) : Rp (Option α) := ⟨fun H v x => match x with
  | none => v = .non
  | some y => v ≠ .non ∧ R.is H v y, fun {H H' v x} e h => by
  cases x with
  | none => exact h
  | some y => exact ⟨h.1, R.mono e h.2⟩⟩
theorem paired_flat {α : Type} {f : α → V} {H : Hp} : ∀ {vs : List V} {xs : List α}, Paired ((rFlat f).is H) vs xs ↔ vs = xs.map f
  | [], [] => ⟨fun _ => rfl, fun _ => .nil⟩
  | [], _ :: _ => ⟨fun h => (nomatch h), fun h => (nomatch h)⟩
  | _ :: _, [] => ⟨fun h => (nomatch h), fun h => (nomatch h)⟩
  | v :: vs, x :: xs => ⟨fun h => by
      cases h with
      | cons a b =>
        have a : v = f x := a
        rw [a, paired_flat.mp b]
        rfl, fun h => by
      rw [List.map_cons] at h
      injection h with h1 h2
      exact .cons h1 (paired_flat.mpr h2)⟩
theorem rL_flat {α : Type} {f : α → V} {H : Hp} {v : V} {l : List α} : (rL (rFlat f)).is H v l ↔ ∃ a, v = .ref a ∧ H a = some (.lst (l.map f)) := by
  constructor
  · rintro ⟨a, vs, h1, h2, h3⟩
    rw [paired_flat.mp h3] at h2
    exact ⟨a, h1, h2⟩
  · rintro ⟨a, h1, h2⟩
    exact ⟨a, _, h1, h2, paired_flat.mpr rfl⟩
theorem paired_get {α : Type} {F : V → α → Prop} : ∀ {vs : List V} {xs : List α}, Paired F vs xs → ∀ {i : Nat} {x : α}, xs[i]? = some x → ∃ v, vs[i]? = some v ∧ F v x
  | _, _, .nil, i, x, h => by simp at h
  | v :: vs, y :: xs, .cons a b, 0, x, h => by
    have : y = x := Option.some.inj h
    subst this
    exact ⟨v, rfl, a⟩
  | v :: vs, y :: xs, .cons a b, i + 1, x, h => paired_get b (i := i) h
theorem paired_get' {α : Type} {F : V → α → Prop} : ∀ {vs : List V} {xs : List α}, Paired F vs xs → ∀ {i : Nat} {v : V}, vs[i]? = some v → ∃ x, xs[i]? = some x ∧ F v x
  | _, _, .nil, i, x, h => by simp at h
  | v :: vs, y :: xs, .cons a b, 0, x, h => by
    have : v = x := Option.some.inj h
    subst this
    exact ⟨y, rfl, a⟩
  | v :: vs, y :: xs, .cons a b, i + 1, x, h => paired_get' b (i := i) h
theorem paired_len {α : Type} {F : V → α → Prop} : ∀ {vs : List V} {xs : List α}, Paired F vs xs → vs.length = xs.length
  | _, _, .nil => rfl
  | _, _, .cons _ b => by rw [List.length_cons, List.length_cons, paired_len b]

/-! ### what comes to what -/
def EvR {α : Type} (te : TE) (σ : L2.St) (S : Hp) (R : Rp α) (x : α) : Prop := ∀ H, Same S H → ∀ Q : VK, (∀ v S' H', Gr S H S' H' → R.is S' v x → Q v H') → te σ H Q
def EvT (tt : TT) (σ : L2.St) (S : Hp) (b : Bool) : Prop := ∀ H, Same S H → ∀ Q : Bool → Hp → Prop, (∀ S' H', Gr S H S' H' → Q b H') → tt σ H Q
/-- an operation on values -/
def RvR {α : Type} (r : (Hp → VK → Prop)) (S : Hp) (R : Rp α) (x : α) : Prop := ∀ H, Same S H → ∀ Q : VK, (∀ v S' H', Gr S H S' H' → R.is S' v x → Q v H') → r H Q
/-- the known part may be greater -/
theorem Gr.more {S S1 H S' H' : Hp} (e : Same S S1) (e1 : Same S1 H) (g : Gr S H S' H') : ∃ S2, Same S' S2 ∧ Gr S1 H S2 H' := by
  refine ⟨fun b => (S1 b).or (S' b), fun b o h => ?_, fun b o h => ?_, fun b o h => ?_, g.hh, fun b h k => ?_⟩
  · show (S1 b).or (S' b) = some o
    cases q : S1 b with
    | none => exact h
    | some u =>
      have a1 := g.hh b u (e1 b u q)
      have a2 := g.sh b o h
      rw [a1] at a2
      exact a2
  · show (S1 b).or (S' b) = some o
    rw [h]
    rfl
  · have h : (S1 b).or (S' b) = some o := h
    cases q : S1 b with
    | none =>
      rw [q] at h
      exact g.sh b o h
    | some u =>
      rw [q] at h
      cases h
      exact g.hh b _ (e1 b _ q)
  · have k : (S1 b).or (S' b) ≠ none := k
    rw [h] at k
    exact g.nw b (e.free h) k
section
variable {α β γ δ : Type} {K : PySem.W.Frag} {σ : L2.St} {S S' : Hp} {R : Rp α} {R' : Rp β} {R1 : Rp γ} {Rq : Rp δ} {ta tb te tc td : TE} {tt tu : TT} {x : α} {y : β} {z : γ} {u : δ}
theorem EvR.mono (h : EvR te σ S R x) (e : Same S S') : EvR te σ S' R x := fun H e1 Q q => h H (e.trans e1) Q fun v S1 H1 g r => by
  obtain ⟨S2, e2, g2⟩ := g.more e e1
  exact q v S2 H1 g2 (R.mono e2 r)
theorem EvT.mono {b : Bool} (h : EvT tt σ S b) (e : Same S S') : EvT tt σ S' b := fun H e1 Q q => h H (e.trans e1) Q fun S1 H1 g => by
  obtain ⟨S2, _, g2⟩ := g.more e e1
  exact q S2 H1 g2
theorem EvR.is {w : α} (h : EvR te σ S R x) (e : x = w) : EvR te σ S R w := by
  rw [← e]
  exact h
theorem EvT.is {b c : Bool} (h : EvT tt σ S b) (e : b = c) : EvT tt σ S c := by
  rw [← e]
  exact h
theorem EvR.wide (h : EvR te σ S R x) (f : ∀ S v, R.is S v x → R'.is S v y) : EvR te σ S R' y := fun H e Q q => h H e Q fun v S1 H1 g r => q v S1 H1 g (f S1 v r)
theorem ev_var {i : Nat} {v : V} (h : σ[i]? = some (some v)) (r : R.is S v x) : EvR (tVar i) σ S R x := fun H e _ q => ⟨v, h, q v S H (Gr.refl e) r⟩
theorem ev_c {v : V} (r : R.is S v x) : EvR (tC v) σ S R x := fun H e _ q => q v S H (Gr.refl e) r
theorem ev_op {r : R2} {z : γ} (ha : EvR ta σ S R x) (hb : EvR tb σ S R' y) (hr : ∀ S' v w, Same S S' → R.is S' v x → R'.is S' w y → RvR (r v w) S' R1 z) : EvR (tOp r ta tb) σ S R1 z := fun H e Q q =>
  ha H e _ fun v S1 H1 g1 r1 => (hb.mono g1.ss) H1 g1.sh _ fun w S2 H2 g2 r2 => hr S2 v w (g1.ss.trans g2.ss) (R.mono g2.ss r1) r2 H2 g2.sh Q fun t S3 H3 g3 r3 => q t S3 H3 ((g1.trans g2).trans g3) r3
theorem rv_I0 {g : Int → Int → V} {i j : Int} (h : R.is S (g i j) x) : RvR (rI0 g (.int i) (.int j)) S R x := fun H e _ q => ⟨i, j, rfl, rfl, q _ S H (Gr.refl e) h⟩
theorem rv_I {C : Int → Int → Prop} {g : Int → Int → V} {i j : Int} (hc : C i j) (h : R.is S (g i j) x) : RvR (rI C g (.int i) (.int j)) S R x := fun H e _ q => ⟨i, j, rfl, rfl, hc, q _ S H (Gr.refl e) h⟩
/-- two whole numbers -/
theorem ev_I0 {g : Int → Int → V} {i j : Int} (ha : EvR ta σ S rInt i) (hb : EvR tb σ S rInt j) (h : ∀ S, R.is S (g i j) x) : EvR (tOp (rI0 g) ta tb) σ S R x :=
  ev_op ha hb fun S' v w _ hv hw => by
    cases hv
    cases hw
    exact rv_I0 (h S')
theorem ev_I {C : Int → Int → Prop} {g : Int → Int → V} {i j : Int} (ha : EvR ta σ S rInt i) (hb : EvR tb σ S rInt j) (hc : C i j) (h : ∀ S, R.is S (g i j) x) : EvR (tOp (rI C g) ta tb) σ S R x :=
  ev_op ha hb fun S' v w _ hv hw => by
    cases hv
    cases hw
    exact rv_I hc (h S')
theorem ev_eq {v w : V} {b : Bool} (ha : EvR ta σ S R x) (hb : EvR tb σ S R' y) (h : ∀ S v w, R.is S v x → R'.is S w y → scal v w = true ∧ decide (v = w) = b) : EvR (tOp rEq ta tb) σ S rBool b :=
  ev_op ha hb fun S' v w _ hv hw => fun H e Q q => ⟨(h S' v w hv hw).1, q _ S' H (Gr.refl e) (by rw [(h S' v w hv hw).2]; rfl)⟩
theorem ev_isN {b : Bool} (ha : EvR ta σ S R x) (h : ∀ S v, R.is S v x → decide (v = V.non) = b) : EvR (tIsN ta) σ S rBool b := fun H e Q q => ha H e _ fun v S1 H1 g r => q _ S1 H1 g (by rw [h S1 v r]; rfl)
theorem ev_notN {b : Bool} (ha : EvR ta σ S R x) (h : ∀ S v, R.is S v x → (!decide (v = V.non)) = b) : EvR (tNotN ta) σ S rBool b := fun H e Q q => ha H e _ fun v S1 H1 g r => q _ S1 H1 g (by rw [h S1 v r]; rfl)
theorem et_B {b : Bool} (h : EvR te σ S rBool b) : EvT (tB te) σ S b := fun H e _ q => h H e _ fun v S1 H1 g r => ⟨b, r, q S1 H1 g⟩
theorem et_test {b : Bool} (h : EvR te σ S rBool b) : EvT (tTest te) σ S b := fun H e _ q => h H e _ fun v S1 H1 g r => ⟨b, r, q S1 H1 g⟩
theorem et_yes : EvT tYes σ S true := fun H e _ q => q S H (Gr.refl e)
theorem et_not {b : Bool} (h : EvT tt σ S b) : EvT (tNot tt) σ S (!b) := fun H e _ q => h H e _ fun S1 H1 g => q S1 H1 g
theorem et_and {a b : Bool} (h1 : EvT tt σ S a) (h2 : a = true → EvT tu σ S b) : EvT (tAnd tt tu) σ S (a && b) := fun H e Q q => h1 H e _ fun S1 H1 g => by
  cases a with
  | true => exact iteT ((h2 rfl).mono g.ss H1 g.sh Q fun S2 H2 g2 => q S2 H2 (g.trans g2))
  | false => exact iteF (q S1 H1 g)
theorem et_or {a b : Bool} (h1 : EvT tt σ S a) (h2 : a = false → EvT tu σ S b) : EvT (tOr tt tu) σ S (a || b) := fun H e Q q => h1 H e _ fun S1 H1 g => by
  cases a with
  | true => exact iteT (q S1 H1 g)
  | false => exact iteF ((h2 rfl).mono g.ss H1 g.sh Q fun S2 H2 g2 => q S2 H2 (g.trans g2))
theorem ev_andV {a b : Bool} (h1 : EvR ta σ S rBool a) (h2 : a = true → EvR tb σ S rBool b) : EvR (tAndV ta tb) σ S rBool (a && b) := fun H e Q q => h1 H e _ fun v S1 H1 g r => ⟨a, r, by
  cases a with
  | true => exact iteT ((h2 rfl).mono g.ss H1 g.sh Q fun w S2 H2 g2 r2 => q w S2 H2 (g.trans g2) r2)
  | false => exact iteF (q _ S1 H1 g rfl)⟩
/-- an item of a list, of a pair -/
theorem ev_ix {l : List α} {j : Nat} (ha : EvR ta σ S (rL R) l) (hb : EvR tb σ S rInt (j : Int)) (h : l[j]? = some x) : EvR (tOp (rIxL K) ta tb) σ S R x :=
  ev_op ha hb fun S' v w _ hv hw => by
    obtain ⟨a, vs, rfl, h2, h3⟩ := hv
    cases hw
    obtain ⟨v, h4, h5⟩ := paired_get h3 h
    exact fun H e Q q => ⟨a, vs, j, v, rfl, rfl, SqL.of (e _ _ h2), atI_nat h4, q v S' H (Gr.refl e) h5⟩
theorem ev_ixA {f : α → V} {l : List α} {j : Nat} (ha : EvR ta σ S (rA K f) l) (hb : EvR tb σ S rInt (j : Int)) (h : l[j]? = some x) : EvR (tOp (rIxL K) ta tb) σ S (rFlat f) x :=
  ev_op ha hb fun S' v w _ hv hw => by
    obtain ⟨a, rfl, h2⟩ := hv
    cases hw
    exact fun H e Q q => ⟨a, l.map f, j, f x, rfl, rfl, e.seq h2, atI_nat (by rw [List.getElem?_map, h]; rfl), q _ S' H (Gr.refl e) rfl⟩
/-- the last item -/
theorem ev_last {l : List α} {m : Int} (hm : m = -1) (ha : EvR ta σ S (rL R) (l ++ [x])) (hb : EvR tb σ S rInt m) : EvR (tOp (rIxL K) ta tb) σ S R x :=
  ev_op ha hb fun S' v w _ hv hw => by
    subst hm
    obtain ⟨a, vs, rfl, h2, h3⟩ := hv
    cases hw
    obtain ⟨v, h4, h5⟩ := paired_get h3 (i := l.length) (x := x) (by simp)
    have hl := paired_len h3
    have e1 : vs = vs.take l.length ++ [v] := by
      apply List.ext_getElem?
      intro i
      rw [List.length_append] at hl
      have hl2 : vs.length = l.length + 1 := hl
      by_cases hi : i < l.length
      · rw [List.getElem?_append_left (by rw [List.length_take]; omega), List.getElem?_take, if_pos hi]
      · by_cases hi2 : i = l.length
        · subst hi2
          rw [h4, List.getElem?_append_right (by rw [List.length_take]; omega), List.length_take, Nat.min_eq_left (by omega), Nat.sub_self]
          rfl
        · rw [List.getElem?_eq_none (by omega), List.getElem?_eq_none (by rw [List.length_append, List.length_take]; simp; omega)]
    exact fun H e Q q => ⟨a, vs, -1, v, rfl, rfl, SqL.of (e _ _ h2), by rw [e1]; exact atI_last _ _, q v S' H (Gr.refl e) h5⟩
theorem ev_fst {p : α × β} (ha : EvR ta σ S (rP R R') p) (hb : EvR tb σ S rInt 0) : EvR (tOp (rIxT K) ta tb) σ S R p.1 :=
  ev_op ha hb fun S' v w _ hv hw => by
    obtain ⟨t, v1, v2, rfl, h2, h3, h4⟩ := hv
    cases hw
    exact fun H e Q q => ⟨t, _, 0, v1, rfl, rfl, SqT.of (e _ _ h2), atI_nat (j := 0) rfl, q v1 S' H (Gr.refl e) h3⟩
theorem ev_snd {p : α × β} (ha : EvR ta σ S (rP R R') p) (hb : EvR tb σ S rInt 1) : EvR (tOp (rIxT K) ta tb) σ S R' p.2 :=
  ev_op ha hb fun S' v w _ hv hw => by
    obtain ⟨t, v1, v2, rfl, h2, h3, h4⟩ := hv
    cases hw
    exact fun H e Q q => ⟨t, _, 1, v2, rfl, rfl, SqT.of (e _ _ h2), atI_nat (j := 1) rfl, q v2 S' H (Gr.refl e) h4⟩
/-- [], [x], (x, y) -/
theorem ev_lst1 (ha : EvR ta σ S R x) : EvR (tLst (tCons ta tNil)) σ S (rL R) [x] := fun H e Q q => ha H e _ fun v S1 H1 g r => ⟨by show 1 ≤ sizeLine; decide, fun p hp =>
  q (.ref p) _ _ (g.trans (Gr.new g.sh hp)) ⟨p, [v], rfl, upd_same, .cons (R.mono (same_new (g.sh.free hp)) r) .nil⟩⟩
theorem ev_lst2 {w : α} (ha : EvR ta σ S R x) (hb : EvR tb σ S R w) : EvR (tLst (tCons ta (tCons tb tNil))) σ S (rL R) [x, w] := fun H e Q q => ha H e _ fun v S1 H1 g r => (hb.mono g.ss) H1 g.sh _ fun v2 S2 H2 g2 r2 => ⟨by show 2 ≤ sizeLine; decide, fun p hp =>
  q (.ref p) _ _ ((g.trans g2).trans (Gr.new g2.sh hp)) ⟨p, [v, v2], rfl, upd_same, .cons (R.mono (g2.ss.trans (same_new (g2.sh.free hp))) r) (.cons (R.mono (same_new (g2.sh.free hp)) r2) .nil)⟩⟩
theorem ev_lst3 {w w' : α} (ha : EvR ta σ S R x) (hb : EvR tb σ S R w) (hc : EvR tc σ S R w') : EvR (tLst (tCons ta (tCons tb (tCons tc tNil)))) σ S (rL R) [x, w, w'] := fun H e Q q => ha H e _ fun v S1 H1 g r => (hb.mono g.ss) H1 g.sh _ fun v2 S2 H2 g2 r2 => (hc.mono (g.ss.trans g2.ss)) H2 g2.sh _ fun v3 S3 H3 g3 r3 => ⟨by show 3 ≤ sizeLine; decide, fun p hp =>
  have n := same_new (o := HO.lst [v, v2, v3]) (g3.sh.free hp)
  q (.ref p) _ _ (((g.trans g2).trans g3).trans (Gr.new g3.sh hp)) ⟨p, [v, v2, v3], rfl, upd_same, .cons (R.mono ((g2.ss.trans g3.ss).trans n) r) (.cons (R.mono (g3.ss.trans n) r2) (.cons (R.mono n r3) .nil))⟩⟩
theorem ev_tup {p : α × β} (ha : EvR ta σ S R p.1) (hb : EvR tb σ S R' p.2) : EvR (tTup (tCons ta (tCons tb tNil))) σ S (rP R R') p := fun H e Q q => ha H e _ fun v S1 H1 g r => (hb.mono g.ss) H1 g.sh _ fun v2 S2 H2 g2 r2 => ⟨by show 2 ≤ sizeLine; decide, fun p hp =>
  q (.ref p) _ _ ((g.trans g2).trans (Gr.new g2.sh hp)) ⟨p, v, v2, rfl, upd_same, R.mono (g2.ss.trans (same_new (g2.sh.free hp))) r, R'.mono (same_new (g2.sh.free hp)) r2⟩⟩
/-- a call of something built in, by what it makes of its one argument -/
theorem ev_cb1 {r : List V → Hp → VK → Prop} (ha : EvR ta σ S R x) (hr : ∀ S' v, Same S S' → R.is S' v x → RvR (r [v]) S' R' y) : EvR (tCB r (tCons ta tNil)) σ S R' y := fun H e Q q => ha H e _ fun v S1 H1 g r1 => hr S1 v g.ss r1 H1 g.sh Q fun w S2 H2 g2 r2 => q w S2 H2 (g.trans g2) r2
theorem ev_cb2 {r : List V → Hp → VK → Prop} (ha : EvR ta σ S R x) (hb : EvR tb σ S R' y) (hr : ∀ S' v w, Same S S' → R.is S' v x → R'.is S' w y → RvR (r [v, w]) S' R1 z) : EvR (tCB r (tCons ta (tCons tb tNil))) σ S R1 z := fun H e Q q => ha H e _ fun v S1 H1 g r1 => (hb.mono g.ss) H1 g.sh _ fun w S2 H2 g2 r2 =>
  hr S2 v w (g.ss.trans g2.ss) (R.mono g2.ss r1) r2 H2 g2.sh Q fun t S3 H3 g3 r3 => q t S3 H3 ((g.trans g2).trans g3) r3
/-- len -/
def rLen (K : PySem.W.Frag) : List V → Hp → VK → Prop := fun xs H Q => ∃ p ys, xs = [.ref p] ∧ (SqL K H p ys ∨ SqT K H p ys) ∧ Q (.int ys.length) H
theorem ev_len {l : List α} (ha : EvR ta σ S (rL R) l) : EvR (tCB (rLen K) (tCons ta tNil)) σ S rInt (l.length : Int) := ev_cb1 ha fun S' v _ hv => by
  obtain ⟨a, vs, rfl, h2, h3⟩ := hv
  exact fun H e Q q => ⟨a, vs, rfl, .inl (SqL.of (e _ _ h2)), q _ S' H (Gr.refl e) (by rw [paired_len h3]; rfl)⟩
/-- two lists one behind the other -/
theorem ev_cat {l m : List α} (hz : l.length + m.length ≤ 1000000) (ha : EvR ta σ S (rL R) l) (hb : EvR tb σ S (rL R) m) : EvR (tOp rCat ta tb) σ S (rL R) (l ++ m) :=
  ev_op ha hb fun S' v w _ hv hw => by
    obtain ⟨a, vs, rfl, h2, h3⟩ := hv
    obtain ⟨b, ws, rfl, k2, k3⟩ := hw
    refine fun H e Q q => ⟨a, b, vs, ws, rfl, rfl, e _ _ h2, e _ _ k2, ?_, fun p hp => q (.ref p) _ _ (Gr.new e hp) ⟨p, _, rfl, upd_same, ?_⟩⟩
    · rw [paired_len h3, paired_len k3]
      exact Nat.le_trans hz (by decide)
    · have n := same_new (o := HO.lst (vs ++ ws)) (e.free hp)
      have app : ∀ {F : V → α → Prop} {vs ws : List V} {l m : List α}, Paired F vs l → Paired F ws m → Paired F (vs ++ ws) (l ++ m) := by
        intro F vs ws l m h k
        induction h with
        | nil => exact k
        | cons a b ih => exact .cons a ih
      exact app (Paired.same n h3) (Paired.same n k3)
end

/-! ### what is gone through -/
abbrev rNat : Rp Nat := rFlat fun k => V.int (k : Int)
def Src {α : Type} (wi : TI) (σ : L2.St) (S : Hp) (R : Rp α) (l : List α) : Prop := ∀ H, Same S H → ∀ Rk : It → Hp → Prop, (∀ J S' H', Gr S H S' H' →
  Walk J l.length (fun Hx => Same S' Hx) (fun i Hx v Hy => ∀ Sx, Same S' Sx → Same Sx Hx → ∃ Sy x, l[i]? = some x ∧ Gr Sx Hx Sy Hy ∧ R.is Sy v x) → Rk J H') → wi σ H Rk
section
variable {α β : Type} {K : PySem.W.Frag} {σ : L2.St} {S S' : Hp} {R : Rp α} {R' : Rp β} {ta tb te tl : TE} {l : List α} {m : List β}
theorem src_list (h : EvR tl σ S (rL R) l) : Src (iList K tl) σ S R l := fun H e Rk k => h H e _ fun v S1 H1 g r => by
  obtain ⟨a, vs, rfl, h2, h3⟩ := r
  refine ⟨a, rfl, ⟨vs, SqL.of (g.sh _ _ h2)⟩, k _ S1 H1 g ?_⟩
  rw [← paired_len h3]
  refine (walk_list (K := K) (a := a) (xs := vs)).mono (fun Hx q => SqL.of (q _ _ h2)) fun i Hx v Hy hi hG hy Sx q1 q2 => ?_
  obtain ⟨rfl, hv⟩ := hy
  obtain ⟨x, e1, e2⟩ := paired_get' h3 hv
  exact ⟨Sx, x, e1, Gr.refl q2, R.mono q1 e2⟩
theorem src_listA {f : α → V} (h : EvR tl σ S (rA K f) l) : Src (iList K tl) σ S (rFlat f) l := fun H e Rk k => h H e _ fun v S1 H1 g r => by
  obtain ⟨a, rfl, h2⟩ := r
  refine ⟨a, rfl, ⟨_, g.sh.seq h2⟩, k _ S1 H1 g ?_⟩
  have w := (walk_list (K := K) (a := a) (xs := l.map f))
  rw [List.length_map] at w
  refine w.mono (fun Hx q => q.seq h2) fun i Hx v Hy hi hG hy Sx q1 q2 => ?_
  obtain ⟨rfl, hv⟩ := hy
  rw [List.getElem?_map, Option.map_eq_some_iff] at hv
  obtain ⟨x, e1, e2⟩ := hv
  exact ⟨Sx, x, e1, Gr.refl q2, e2.symm⟩
theorem src_range {n : Nat} (hn : n ≤ 1000000) (h : EvR ta σ S rInt (n : Int)) : Src (iRng1 (tCons ta tNil)) σ S rNat (List.range n) := fun H e Rk k => h H e _ fun v S1 H1 g r => by
  cases r
  refine ⟨n, rfl, by omega, by omega, k _ S1 H1 g ?_⟩
  rw [List.length_range]
  refine (walk_range (lo := 0) (n := n)).mono (fun _ _ => trivial) fun i Hx v Hy hi hG hy Sx q1 q2 => ?_
  obtain ⟨rfl, rfl⟩ := hy
  exact ⟨Sx, i, by rw [List.getElem?_range hi], Gr.refl q2, by show V.int (0 + (i : Int)) = V.int (i : Int); rw [Int.zero_add]⟩
theorem src_range2 {a n : Nat} (ha : a ≤ 1000000) (hn : n ≤ 1000000) {hi : Int} (hh : hi = ((a + n : Nat) : Int)) (h1 : EvR ta σ S rInt (a : Int)) (h2 : EvR tb σ S rInt hi) : Src (iRng2 (tCons ta (tCons tb tNil))) σ S rNat (List.range' a n) := fun H e Rk k => h1 H e _ fun v S1 H1 g r => (h2.mono g.ss) H1 g.sh _ fun v2 S2 H2 g2 r2 => by
  cases r
  cases r2
  subst hh
  refine ⟨a, ((a + n : Nat) : Int), rfl, ⟨by omega, by omega, by omega, by omega⟩, k _ S2 H2 (g.trans g2) ?_⟩
  rw [List.length_range', show (((a + n : Nat) : Int) - (a : Int)).toNat = n by omega]
  refine (walk_range (lo := (a : Int)) (n := n)).mono (fun _ _ => trivial) fun i Hx v Hy hi hG hy Sx q1 q2 => ?_
  obtain ⟨rfl, rfl⟩ := hy
  refine ⟨Sx, a + i, ?_, Gr.refl q2, by show V.int ((a : Int) + (i : Int)) = V.int ((a + i : Nat) : Int); rw [Int.natCast_add]⟩
  rw [List.getElem?_range' hi, Nat.one_mul]
theorem src_zip (h1 : EvR ta σ S (rL R) l) (h2 : EvR tb σ S (rL R') m) : Src (iZip K (tCons ta (tCons tb tNil))) σ S (rP R R') (l.zip m) := fun H e Rk k => h1 H e _ fun v S1 H1 g r => (h2.mono g.ss) H1 g.sh _ fun v2 S2 H2 g2 r2 => by
  obtain ⟨a, vs, rfl, a2, a3⟩ := (rL R).mono g2.ss r
  obtain ⟨b, ws, rfl, b2, b3⟩ := r2
  refine ⟨a, b, vs, ws, rfl, SqL.of (g2.sh _ _ a2), SqL.of (g2.sh _ _ b2), k _ S2 H2 (g.trans g2) ?_⟩
  rw [List.length_zip]
  refine (walk_zip (K := K) (a := a) (b := b) (xs := vs) (ys := ws) (by rw [paired_len a3, paired_len b3])).mono (fun Hx q => ⟨SqL.of (q _ _ a2), SqL.of (q _ _ b2)⟩) fun i Hx v Hy hi hG hy Sx q1 q2 => ?_
  obtain ⟨T, x, y, rfl, hT, rfl, hx, hy⟩ := hy
  obtain ⟨x', e1, e2⟩ := paired_get' a3 hx
  obtain ⟨y', f1, f2⟩ := paired_get' b3 hy
  have n := same_new (o := HO.tup [x, y]) (q2.free hT)
  exact ⟨upd Sx T (.tup [x, y]), (x', y'), List.getElem?_zip_eq_some.mpr ⟨e1, f1⟩, Gr.new q2 hT, T, x, y, rfl, upd_same, R.mono (q1.trans n) e2, R'.mono (q1.trans n) f2⟩
theorem src_enum (h1 : EvR ta σ S (rL R) l) : Src (iEnum K (tCons ta tNil)) σ S (rP rNat R) ((List.range l.length).zip l) := fun H e Rk k => h1 H e _ fun v S2 H2 g2 r => by
  obtain ⟨a, vs, rfl, a2, a3⟩ := r
  refine ⟨a, vs, rfl, SqL.of (g2.sh _ _ a2), k _ S2 H2 g2 ?_⟩
  rw [List.length_zip, List.length_range, Nat.min_self, ← paired_len a3]
  refine (walk_enum (K := K) (a := a) (xs := vs)).mono (fun Hx q => SqL.of (q _ _ a2)) fun i Hx v Hy hi hG hy Sx q1 q2 => ?_
  obtain ⟨T, x, y, rfl, hT, rfl, hx, hy⟩ := hy
  have hx : x = .int (i : Nat) := (Option.some.inj hx).symm
  subst hx
  obtain ⟨y', f1, f2⟩ := paired_get' a3 hy
  have n := same_new (o := HO.tup [.int (i : Nat), y]) (q2.free hT)
  exact ⟨upd Sx T (.tup [.int (i : Nat), y]), (i, y'), List.getElem?_zip_eq_some.mpr ⟨by rw [List.getElem?_range]; exact hi, f1⟩, Gr.new q2 hT, T, _, y, rfl, upd_same, rfl, R.mono (q1.trans n) f2⟩
theorem src_rev (h : EvR ta σ S (rL R) l) : Src (iRev K (tCons ta tNil)) σ S R l.reverse := fun H e Rk k => h H e _ fun v S1 H1 g r => by
  obtain ⟨a, vs, rfl, h2, h3⟩ := r
  refine ⟨a, vs, rfl, SqL.of (g.sh _ _ h2), k _ S1 H1 g ?_⟩
  rw [List.length_reverse, ← paired_len h3]
  refine (walk_rev (K := K) (a := a) (xs := vs)).mono (fun Hx q => SqL.of (q _ _ h2)) fun i Hx v Hy hi hG hy Sx q1 q2 => ?_
  obtain ⟨rfl, hv⟩ := hy
  obtain ⟨x, e1, e2⟩ := paired_get' h3 hv
  refine ⟨Sx, x, ?_, Gr.refl q2, R.mono q1 e2⟩
  rw [List.getElem?_reverse (by rw [← paired_len h3]; exact hi), ← paired_len h3]
  exact e1
/-! ### comprehensions -/
theorem take_succ_get {l : List α} {i : Nat} {x : α} (h : l[i]? = some x) : l.take (i + 1) = l.take i ++ [x] := by
  rw [List.take_add_one, h]
  rfl
/-- a new list comes, of which nobody knows yet -/
def EvN {α : Type} (te : TE) (σ : L2.St) (S : Hp) (R : Rp α) (l : List α) : Prop := ∀ H, Same S H → ∀ Q : VK, (∀ p vs S' H', H p = none → Gr S H S' (del H' p) → H' p = some (.lst vs) → Paired (R.is S') vs l → Q (.ref p) H') → te σ H Q
theorem EvN.ev (h : EvN te σ S R l) : EvR te σ S (rL R) l := fun H e Q q => h H e Q fun p vs S' H' hp g e2 pr => by
  have sn : S' p = none := g.sh.free del_at
  exact q (.ref p) _ H' (g.shut e2 hp) ⟨p, vs, rfl, upd_same, Paired.same (same_new sn) pr⟩
/-- any target: Tg tells of the slots behind it -/
theorem en_lc {wi : TI} {g : TG} {tt : TT} {vs : List Nat} {p : α → Bool} {f : α → β} (Tg : L2.St → Hp → α → Prop) (hs : Src wi σ S R l) (hz : l.length ≤ 1000000)
    (hg : ∀ Sx Hx v x (Qk : L2.St → Hp → Prop), Same Sx Hx → R.is Sx v x → (∀ σ2, Tg σ2 Sx x → wipe σ2 vs = wipe σ vs ∧ Qk σ2 Hx) → g v (wipe σ vs) Hx fun σ2 H2 => wipe σ2 vs = wipe σ vs ∧ Qk σ2 H2)
    (ht : ∀ x ∈ l, ∀ σ2 S1, Same S S1 → Tg σ2 S1 x → EvT tt σ2 S1 (p x)) (he : ∀ x ∈ l, p x = true → ∀ σ2 S1, Same S S1 → Tg σ2 S1 x → EvR te σ2 S1 R' (f x))
    (htm : ∀ σ2 S1 S2 x, Same S1 S2 → Tg σ2 S1 x → Tg σ2 S2 x) (hwi : ∀ σ2 Sx x, Tg σ2 Sx x → wipe σ2 vs = wipe σ vs) :
    EvN (tLc wi g tt te vs) σ S R' ((l.filter p).map f) := fun H e Q q => hs H e _ fun J S1 H1 g1 w D hD => by
  refine lc_it w (fun i Hx => ∃ Sx acc, Gr S1 H1 Sx (del Hx D) ∧ Hx D = some (.lst acc) ∧ Paired (R'.is Sx) acc (((l.take i).filter p).map f)) ⟨S1, [], Gr.openNew g1.sh hD, upd_same, .nil⟩ (fun i Hx _ h => ?_) (fun i v Hx Hy hi h hy => ?_) (fun Hx h => ?_)
  · obtain ⟨Sx, acc, a1, a2, a3⟩ := h
    exact a1.ss.trans a1.hole_same
  · obtain ⟨Sx, acc, a1, a2, a3⟩ := h
    obtain ⟨Sy, x, e1, gy, rx⟩ := hy Sx a1.ss a1.hole_same
    obtain ⟨b1, b2⟩ := a1.hole a2 gy
    have hx : x ∈ l := List.mem_of_getElem? e1
    have sS : Same S Sy := (g1.ss.trans a1.ss).trans gy.ss
    refine hg Sy Hy v x _ gy.sh rx fun σ2 tg => ⟨hwi σ2 Sy x tg, ?_⟩
    refine ht x hx σ2 Sy sS tg Hy gy.sh _ fun S3 H3 g3 => ?_
    obtain ⟨c1, c2⟩ := b1.hole b2 g3
    rw [take_succ_get e1, List.filter_append, List.map_append]
    have hlen : acc.length ≤ 1000000 := by
      rw [paired_len a3, List.length_map]
      have := List.length_filter_le p (l.take i)
      rw [List.length_take] at this
      omega
    cases hp : p x with
    | true =>
      refine iteT ?_
      refine he x hx hp σ2 S3 (sS.trans g3.ss) (htm σ2 Sy S3 x g3.ss tg) H3 g3.sh _ fun y S4 H4 g4 r4 => ?_
      obtain ⟨d1, d2⟩ := c1.hole c2 g4
      refine ⟨acc, d2, Nat.lt_of_le_of_lt hlen (by decide), S4, acc ++ [y], d1.store, upd_same, ?_⟩
      rw [show List.filter p [x] = [x] by simp [hp]]
      exact Paired.snoc (Paired.same ((gy.ss.trans g3.ss).trans g4.ss) a3) r4
    | false =>
      refine iteF ⟨S3, acc, c1, c2, ?_⟩
      rw [show List.filter p [x] = [] by simp [hp]]
      rw [List.map_nil, List.append_nil]
      exact Paired.same (gy.ss.trans g3.ss) a3
  · obtain ⟨Sx, acc, a1, a2, a3⟩ := h
    rw [List.take_length] at a3
    exact q D acc Sx Hx (g1.hh.free hD) (g1.trans a1) a2 a3
/-- [f(x) for x in .. if p(x)] -/
theorem ev_lcN {wi : TI} {tt : TT} {vs : List Nat} {j : Nat} (p : α → Bool) (f : α → β) (hs : Src wi σ S R l) (hz : l.length ≤ 1000000) (hw : ∀ v, wipe ((wipe σ vs).set j (some v)) vs = wipe σ vs)
    (ht : ∀ x ∈ l, ∀ v S1, Same S S1 → R.is S1 v x → EvT tt ((wipe σ vs).set j (some v)) S1 (p x)) (he : ∀ x ∈ l, p x = true → ∀ v S1, Same S S1 → R.is S1 v x → EvR te ((wipe σ vs).set j (some v)) S1 R' (f x)) :
    EvR (tLc wi (gName j) tt te vs) σ S (rL R') ((l.filter p).map f) :=
  EvN.ev <| en_lc (fun σ2 Sx x => ∃ v, R.is Sx v x ∧ σ2 = (wipe σ vs).set j (some v)) hs hz (fun Sx Hx v x Qk _ r k => k _ ⟨v, r, rfl⟩)
    (fun x hx σ2 S1 e t => by obtain ⟨v, r, rfl⟩ := t; exact ht x hx v S1 e r) (fun x hx hp σ2 S1 e t => by obtain ⟨v, r, rfl⟩ := t; exact he x hx hp v S1 e r)
    (fun σ2 S1 S2 x e t => by obtain ⟨v, r, h⟩ := t; exact ⟨v, R.mono e r, h⟩) (fun σ2 Sx x t => by obtain ⟨v, r, rfl⟩ := t; exact hw v)
/-- [f(x) for x in ..] -/
theorem ev_lcY {wi : TI} {vs : List Nat} {j : Nat} (f : α → β) (hs : Src wi σ S R l) (hz : l.length ≤ 1000000) (hw : ∀ v, wipe ((wipe σ vs).set j (some v)) vs = wipe σ vs)
    (he : ∀ x ∈ l, ∀ v S1, Same S S1 → R.is S1 v x → EvR te ((wipe σ vs).set j (some v)) S1 R' (f x)) : EvR (tLc wi (gName j) tYes te vs) σ S (rL R') (l.map f) := by
  have h := ev_lcN (tt := tYes) (te := te) (R' := R') (fun _ => true) f hs hz hw (fun _ _ _ _ _ _ => et_yes) (fun x hx _ v S1 e r => he x hx v S1 e r)
  rw [List.filter_eq_self.mpr (fun _ _ => rfl)] at h
  exact h
theorem en_lcY {wi : TI} {vs : List Nat} {j : Nat} (f : α → β) (hs : Src wi σ S R l) (hz : l.length ≤ 1000000) (hw : ∀ v, wipe ((wipe σ vs).set j (some v)) vs = wipe σ vs)
    (he : ∀ x ∈ l, ∀ v S1, Same S S1 → R.is S1 v x → EvR te ((wipe σ vs).set j (some v)) S1 R' (f x)) : EvN (tLc wi (gName j) tYes te vs) σ S R' (l.map f) := by
  have h := en_lc (tt := tYes) (te := te) (R' := R') (p := fun _ => true) (f := f) (g := gName j) (vs := vs) (fun σ2 Sx x => ∃ v, R.is Sx v x ∧ σ2 = (wipe σ vs).set j (some v)) hs hz (fun Sx Hx v x Qk _ r k => k _ ⟨v, r, rfl⟩)
    (fun _ _ _ _ _ _ => et_yes) (fun x hx hp σ2 S1 e t => by obtain ⟨v, r, rfl⟩ := t; exact he x hx v S1 e r)
    (fun σ2 S1 S2 x e t => by obtain ⟨v, r, h⟩ := t; exact ⟨v, R.mono e r, h⟩) (fun σ2 Sx x t => by obtain ⟨v, r, rfl⟩ := t; exact hw v)
  rw [List.filter_eq_self.mpr (fun _ _ => rfl)] at h
  exact h
/-- [f(x, y) for x, y in ..] -/
theorem ev_lcP {γ : Type} {R1 : Rp γ} {l : List (α × γ)} {wi : TI} {vs : List Nat} {j j2 : Nat} (f : α × γ → β) (hs : Src wi σ S (rP R R1) l) (hz : l.length ≤ 1000000) (hw : ∀ v w, wipe (((wipe σ vs).set j (some v)).set j2 (some w)) vs = wipe σ vs)
    (he : ∀ x ∈ l, ∀ v w S1, Same S S1 → R.is S1 v x.1 → R1.is S1 w x.2 → EvR te (((wipe σ vs).set j (some v)).set j2 (some w)) S1 R' (f x)) : EvR (tLc wi (gTup K 2 (gCons (gName j) (gCons (gName j2) gNil))) tYes te vs) σ S (rL R') (l.map f) := by
  have h := EvN.ev <| en_lc (tt := tYes) (te := te) (R' := R') (p := fun _ => true) (f := f) (g := gTup K 2 (gCons (gName j) (gCons (gName j2) gNil))) (vs := vs) (fun σ2 Sx x => ∃ v w, R.is Sx v x.1 ∧ R1.is Sx w x.2 ∧ σ2 = ((wipe σ vs).set j (some v)).set j2 (some w)) hs hz
    (fun Sx Hx v x Qk e r k => by
      obtain ⟨t, v1, v2, rfl, h2, h3, h4⟩ := r
      exact ⟨t, [v1, v2], rfl, SqT.of (e _ _ h2), rfl, v1, [v2], rfl, v2, [], rfl, rfl, k _ ⟨v1, v2, h3, h4, rfl⟩⟩)
    (fun _ _ _ _ _ _ => et_yes) (fun x hx hp σ2 S1 e t => by obtain ⟨v, w, r, r2, rfl⟩ := t; exact he x hx v w S1 e r r2)
    (fun σ2 S1 S2 x e t => by obtain ⟨v, w, r, r2, h⟩ := t; exact ⟨v, w, R.mono e r, R1.mono e r2, h⟩) (fun σ2 Sx x t => by obtain ⟨v, w, r, r2, rfl⟩ := t; exact hw v w)
  rw [List.filter_eq_self.mpr (fun _ _ => rfl)] at h
  exact h
/-! ### loops -/
/-- nothing is written: Pv by the turn, the slots and what is known -/
theorem for_src {A B H : Hp} {wi : TI} {g : TG} {tu : TS} {D : Ends} (Pv : Nat → L2.St → Hp → Prop) (hs : Src wi σ S R l) (gA : Gr A B S H) (h0 : ∀ S1, Same S S1 → Pv 0 σ S1)
    (hm : ∀ i σ' S1 S2, Same S1 S2 → Pv i σ' S1 → Pv i σ' S2)
    (hstep : ∀ S0, Same S S0 → ∀ i x σ' S1 H1 v, l[i]? = some x → Gr A B S1 H1 → Same S0 S1 → Pv i σ' S1 → R.is S1 v x →
      g v σ' H1 fun σ2 H2 => tu { D with nx := fun σ3 H3 => ∃ S3, Gr A B S3 H3 ∧ Same S0 S3 ∧ Pv (i + 1) σ3 S3, ct := fun σ3 H3 => ∃ S3, Gr A B S3 H3 ∧ Same S0 S3 ∧ Pv (i + 1) σ3 S3, bk := D.nx } σ2 H2)
    (hd : ∀ σ' S1 H1, Gr A B S1 H1 → Same S S1 → Pv l.length σ' S1 → D.nx σ' H1) : tFor wi g tu D σ H := by
  refine hs H gA.sh _ fun J S1 H1 g1 w => ?_
  refine for_it w (fun i σ' Hx => ∃ Sx, Gr A B Sx Hx ∧ Same S1 Sx ∧ Pv i σ' Sx) ⟨S1, gA.trans g1, Same.refl _, h0 S1 g1.ss⟩ (fun i σ' Hx _ h => ?_) (fun i v σ' Hx Hy hi h hy => ?_) (fun σ' Hx h => ?_)
  · obtain ⟨Sx, a1, a2, a3⟩ := h
    exact a2.trans a1.sh
  · obtain ⟨Sx, a1, a2, a3⟩ := h
    obtain ⟨Sy, x, e1, gy, rx⟩ := hy Sx a2 a1.sh
    exact hstep S1 g1.ss i x σ' Sy Hy v e1 (a1.trans gy) (a2.trans gy.ss) (hm i σ' Sx Sy gy.ss a3) rx
  · obtain ⟨Sx, a1, a2, a3⟩ := h
    exact hd σ' Sx Hx a1 (g1.ss.trans a2) a3
/-- a list of the def's own stands open at p -/
theorem for_open {A B H : Hp} {wi : TI} {g : TG} {tu : TS} {D : Ends} {p : Addr} {us : List V} (Pv : Nat → L2.St → Hp → List V → Prop) (hs : Src wi σ S R l) (gA : Gr A B S (del H p)) (hp : H p = some (.lst us)) (h0 : ∀ S1, Same S S1 → Pv 0 σ S1 us)
    (hm : ∀ i σ' S1 S2 vs, Same S1 S2 → Pv i σ' S1 vs → Pv i σ' S2 vs)
    (hstep : ∀ S0, Same S S0 → ∀ i x σ' S1 H1 vs v, l[i]? = some x → Gr A B S1 (del H1 p) → H1 p = some (.lst vs) → Same S0 S1 → Pv i σ' S1 vs → R.is S1 v x →
      g v σ' H1 fun σ2 H2 => tu { D with nx := fun σ3 H3 => ∃ S3 vs3, Gr A B S3 (del H3 p) ∧ H3 p = some (.lst vs3) ∧ Same S0 S3 ∧ Pv (i + 1) σ3 S3 vs3, ct := fun σ3 H3 => ∃ S3 vs3, Gr A B S3 (del H3 p) ∧ H3 p = some (.lst vs3) ∧ Same S0 S3 ∧ Pv (i + 1) σ3 S3 vs3, bk := D.nx } σ2 H2)
    (hd : ∀ σ' S1 H1 vs, Gr A B S1 (del H1 p) → H1 p = some (.lst vs) → Same S S1 → Pv l.length σ' S1 vs → D.nx σ' H1) : tFor wi g tu D σ H := by
  refine hs H gA.hole_same _ fun J S1 H1 g1 w => ?_
  obtain ⟨q1, q2⟩ := gA.hole hp g1
  refine for_it w (fun i σ' Hx => ∃ Sx vs, Gr A B Sx (del Hx p) ∧ Hx p = some (.lst vs) ∧ Same S1 Sx ∧ Pv i σ' Sx vs) ⟨S1, us, q1, q2, Same.refl _, h0 S1 g1.ss⟩ (fun i σ' Hx _ h => ?_) (fun i v σ' Hx Hy hi h hy => ?_) (fun σ' Hx h => ?_)
  · obtain ⟨Sx, vs, a1, a0, a2, a3⟩ := h
    exact a2.trans a1.hole_same
  · obtain ⟨Sx, vs, a1, a0, a2, a3⟩ := h
    obtain ⟨Sy, x, e1, gy, rx⟩ := hy Sx a2 a1.hole_same
    obtain ⟨b1, b2⟩ := a1.hole a0 gy
    exact hstep S1 g1.ss i x σ' Sy Hy vs v e1 b1 b2 (a2.trans gy.ss) (hm i σ' Sx Sy vs gy.ss a3) rx
  · obtain ⟨Sx, vs, a1, a0, a2, a3⟩ := h
    exact hd σ' Sx Hx vs a1 a0 (g1.ss.trans a2) a3
end

/-! ### promises -/
/-- what a def gives back: any value in which x lies, nothing changed -/
def Gives {α : Type} (S H : Hp) (R : Rp α) (x : α) (Q : VK) : Prop := ∀ v S' H', Gr S H S' H' → R.is S' v x → Q v H'
section
variable {α β γ δ ε : Type}
def sp1 (R1 : Rp α) (R : Rp ε) (pre : α → Prop) (f : α → ε) : Sp := fun vs H Q _ => ∃ v1 x1 S, vs = [v1] ∧ Same S H ∧ R1.is S v1 x1 ∧ pre x1 ∧ Gives S H R (f x1) Q
def sp2 (R1 : Rp α) (R2 : Rp β) (R : Rp ε) (pre : α → β → Prop) (f : α → β → ε) : Sp := fun vs H Q _ => ∃ v1 x1 v2 x2 S, vs = [v1, v2] ∧ Same S H ∧ R1.is S v1 x1 ∧ R2.is S v2 x2 ∧ pre x1 x2 ∧ Gives S H R (f x1 x2) Q
def sp3 (R1 : Rp α) (R2 : Rp β) (R3 : Rp γ) (R : Rp ε) (pre : α → β → γ → Prop) (f : α → β → γ → ε) : Sp := fun vs H Q _ => ∃ v1 x1 v2 x2 v3 x3 S, vs = [v1, v2, v3] ∧ Same S H ∧ R1.is S v1 x1 ∧ R2.is S v2 x2 ∧ R3.is S v3 x3 ∧ pre x1 x2 x3 ∧ Gives S H R (f x1 x2 x3) Q
def sp4 (R1 : Rp α) (R2 : Rp β) (R3 : Rp γ) (R4 : Rp δ) (R : Rp ε) (pre : α → β → γ → δ → Prop) (f : α → β → γ → δ → ε) : Sp := fun vs H Q _ => ∃ v1 x1 v2 x2 v3 x3 v4 x4 S, vs = [v1, v2, v3, v4] ∧ Same S H ∧ R1.is S v1 x1 ∧ R2.is S v2 x2 ∧ R3.is S v3 x3 ∧ R4.is S v4 x4 ∧ pre x1 x2 x3 x4 ∧ Gives S H R (f x1 x2 x3 x4) Q
variable {σ : L2.St} {S : Hp} {R1 : Rp α} {R2 : Rp β} {R3 : Rp γ} {R4 : Rp δ} {R : Rp ε} {t1 t2 t3 t4 : TE} {E : XK} {x1 : α} {x2 : β} {x3 : γ} {x4 : δ}
theorem ev_call1 {pre : α → Prop} {f : α → ε} (h1 : EvR t1 σ S R1 x1) (hp : pre x1) {y : ε} (hy : f x1 = y := by rfl) : EvR (tCall (sp1 R1 R pre f) [] E (tCons t1 tNil)) σ S R y := fun H e Q q =>
  h1 H e _ fun v1 S1 H1 g1 r1 => ⟨v1, x1, S1, rfl, g1.sh, r1, hp, fun v S' H' g r => q v S' H' (g1.trans g) (hy ▸ r)⟩
theorem ev_call2 {pre : α → β → Prop} {f : α → β → ε} (h1 : EvR t1 σ S R1 x1) (h2 : EvR t2 σ S R2 x2) (hp : pre x1 x2) {y : ε} (hy : f x1 x2 = y := by rfl) : EvR (tCall (sp2 R1 R2 R pre f) [] E (tCons t1 (tCons t2 tNil))) σ S R y := fun H e Q q =>
  h1 H e _ fun v1 S1 H1 g1 r1 => (h2.mono g1.ss) H1 g1.sh _ fun v2 S2 H2 g2 r2 => ⟨v1, x1, v2, x2, S2, rfl, g2.sh, R1.mono g2.ss r1, r2, hp, fun v S' H' g r => q v S' H' ((g1.trans g2).trans g) (hy ▸ r)⟩
theorem ev_call3 {pre : α → β → γ → Prop} {f : α → β → γ → ε} (h1 : EvR t1 σ S R1 x1) (h2 : EvR t2 σ S R2 x2) (h3 : EvR t3 σ S R3 x3) (hp : pre x1 x2 x3) {y : ε} (hy : f x1 x2 x3 = y := by rfl) : EvR (tCall (sp3 R1 R2 R3 R pre f) [] E (tCons t1 (tCons t2 (tCons t3 tNil)))) σ S R y := fun H e Q q =>
  h1 H e _ fun v1 S1 H1 g1 r1 => (h2.mono g1.ss) H1 g1.sh _ fun v2 S2 H2 g2 r2 => (h3.mono (g1.ss.trans g2.ss)) H2 g2.sh _ fun v3 S3 H3 g3 r3 => ⟨v1, x1, v2, x2, v3, x3, S3, rfl, g3.sh, R1.mono (g2.ss.trans g3.ss) r1, R2.mono g3.ss r2, r3, hp, fun v S' H' g r => q v S' H' (((g1.trans g2).trans g3).trans g) (hy ▸ r)⟩
theorem ev_call4 {pre : α → β → γ → δ → Prop} {f : α → β → γ → δ → ε} (h1 : EvR t1 σ S R1 x1) (h2 : EvR t2 σ S R2 x2) (h3 : EvR t3 σ S R3 x3) (h4 : EvR t4 σ S R4 x4) (hp : pre x1 x2 x3 x4) {y : ε} (hy : f x1 x2 x3 x4 = y := by rfl) : EvR (tCall (sp4 R1 R2 R3 R4 R pre f) [] E (tCons t1 (tCons t2 (tCons t3 (tCons t4 tNil))))) σ S R y := fun H e Q q =>
  h1 H e _ fun v1 S1 H1 g1 r1 => (h2.mono g1.ss) H1 g1.sh _ fun v2 S2 H2 g2 r2 => (h3.mono (g1.ss.trans g2.ss)) H2 g2.sh _ fun v3 S3 H3 g3 r3 => (h4.mono ((g1.ss.trans g2.ss).trans g3.ss)) H3 g3.sh _ fun v4 S4 H4 g4 r4 =>
    ⟨v1, x1, v2, x2, v3, x3, v4, x4, S4, rfl, g4.sh, R1.mono ((g2.ss.trans g3.ss).trans g4.ss) r1, R2.mono (g3.ss.trans g4.ss) r2, R3.mono g4.ss r3, r4, hp, fun v S' H' g r => q v S' H' ((((g1.trans g2).trans g3).trans g4).trans g) (hy ▸ r)⟩
end
/-! ### statements -/
section
variable {α β γ : Type} {K : PySem.W.Frag} {σ : L2.St} {A B S H : Hp} {R : Rp α} {R' : Rp β} {te ta tb : TE} {tt tu : TT} {x : α} {y : β} {D : Ends} {t u tw : TS} {l : List α}
theorem q_asg {i : Nat} (h : EvR te σ S R x) (gA : Gr A B S H) (k : ∀ v S1 H1, Gr A B S1 H1 → Same S S1 → R.is S1 v x → u D (σ.set i (some v)) H1) : tSeq (tAsg te (gName i)) u D σ H := h H gA.sh _ fun v S1 H1 g r => k v S1 H1 (gA.trans g) g.ss r
theorem s_asg {i : Nat} (h : EvR te σ S R x) (gA : Gr A B S H) (k : ∀ v S1 H1, Gr A B S1 H1 → Same S S1 → R.is S1 v x → D.nx (σ.set i (some v)) H1) : tAsg te (gName i) D σ H := h H gA.sh _ fun v S1 H1 g r => k v S1 H1 (gA.trans g) g.ss r
theorem s_if {b : Bool} (h : EvT tt σ S b) (gA : Gr A B S H) (h1 : b = true → ∀ S1 H1, Gr A B S1 H1 → Same S S1 → t D σ H1) (h2 : b = false → ∀ S1 H1, Gr A B S1 H1 → Same S S1 → tw D σ H1) : tIfS tt t tw D σ H := h H gA.sh _ fun S1 H1 g => by
  cases b with
  | true => exact iteT (h1 rfl S1 H1 (gA.trans g) g.ss)
  | false => exact iteF (h2 rfl S1 H1 (gA.trans g) g.ss)
theorem s_when {b : Bool} (h : EvT tt σ S b) (gA : Gr A B S H) (h1 : b = true → ∀ S1 H1, Gr A B S1 H1 → Same S S1 → t D σ H1) (h2 : b = false → ∀ S1 H1, Gr A B S1 H1 → Same S S1 → D.nx σ H1) : tIfS tt t tNext D σ H := s_if h gA h1 h2
theorem q_when {b : Bool} (h : EvT tt σ S b) (gA : Gr A B S H) (h1 : b = true → ∀ S1 H1, Gr A B S1 H1 → Same S S1 → t { D with nx := u D } σ H1) (h2 : b = false → ∀ S1 H1, Gr A B S1 H1 → Same S S1 → u D σ H1) : tSeq (tIfS tt t tNext) u D σ H := s_if (D := { D with nx := u D }) h gA h1 h2
theorem s_ret (h : EvR te σ S R x) (gA : Gr A B S H) (k : ∀ v S1 H1, Gr A B S1 H1 → R.is S1 v x → D.rt v H1) : tRet te D σ H := h H gA.sh _ fun v S1 H1 g r => k v S1 H1 (gA.trans g) r
theorem q_for {wi : TI} {g : TG} (Pv : Nat → L2.St → Hp → Prop) (hs : Src wi σ S R l) (gA : Gr A B S H) (h0 : ∀ S1, Same S S1 → Pv 0 σ S1) (hm : ∀ i σ' S1 S2, Same S1 S2 → Pv i σ' S1 → Pv i σ' S2)
    (hstep : ∀ S0, Same S S0 → ∀ i x σ' S1 H1 v, l[i]? = some x → Gr A B S1 H1 → Same S0 S1 → Pv i σ' S1 → R.is S1 v x →
      g v σ' H1 fun σ2 H2 => t { D with nx := fun σ3 H3 => ∃ S3, Gr A B S3 H3 ∧ Same S0 S3 ∧ Pv (i + 1) σ3 S3, ct := fun σ3 H3 => ∃ S3, Gr A B S3 H3 ∧ Same S0 S3 ∧ Pv (i + 1) σ3 S3, bk := u D } σ2 H2)
    (hd : ∀ σ' S1 H1, Gr A B S1 H1 → Same S S1 → Pv l.length σ' S1 → u D σ' H1) : tSeq (tFor wi g t) u D σ H := for_src (D := { D with nx := u D }) Pv hs gA h0 hm hstep hd
theorem q_forO {wi : TI} {g : TG} {p : Addr} {us : List V} (Pv : Nat → L2.St → Hp → List V → Prop) (hs : Src wi σ S R l) (gA : Gr A B S (del H p)) (hp : H p = some (.lst us)) (h0 : ∀ S1, Same S S1 → Pv 0 σ S1 us)
    (hm : ∀ i σ' S1 S2 vs, Same S1 S2 → Pv i σ' S1 vs → Pv i σ' S2 vs)
    (hstep : ∀ S0, Same S S0 → ∀ i x σ' S1 H1 vs v, l[i]? = some x → Gr A B S1 (del H1 p) → H1 p = some (.lst vs) → Same S0 S1 → Pv i σ' S1 vs → R.is S1 v x →
      g v σ' H1 fun σ2 H2 => t { D with nx := fun σ3 H3 => ∃ S3 vs3, Gr A B S3 (del H3 p) ∧ H3 p = some (.lst vs3) ∧ Same S0 S3 ∧ Pv (i + 1) σ3 S3 vs3, ct := fun σ3 H3 => ∃ S3 vs3, Gr A B S3 (del H3 p) ∧ H3 p = some (.lst vs3) ∧ Same S0 S3 ∧ Pv (i + 1) σ3 S3 vs3, bk := u D } σ2 H2)
    (hd : ∀ σ' S1 H1 vs, Gr A B S1 (del H1 p) → H1 p = some (.lst vs) → Same S S1 → Pv l.length σ' S1 vs → u D σ' H1) : tSeq (tFor wi g t) u D σ H := for_open (D := { D with nx := u D }) Pv hs gA hp h0 hm hstep hd
/-- x = [] -/
theorem q_nil {i : Nat} (gA : Gr A B S H) (k : ∀ p H1, H p = none → Gr A B S (del H1 p) → H1 p = some (.lst []) → u D (σ.set i (some (.ref p))) H1) : tSeq (tAsg (tLst tNil) (gName i)) u D σ H := ⟨Nat.zero_le _, fun p hp => k p _ hp (by
  rw [del_upd, del_none hp]
  exact gA) upd_same⟩
/-- found.append(e), found open at p -/
theorem s_app {p : Addr} {vs : List V} (gA : Gr A B S (del H p)) (hp : H p = some (.lst vs)) (hz : vs.length ≤ 1000000) {i : Nat} (hi : σ[i]? = some (some (.ref p))) (h : EvR te σ S R x)
    (k : ∀ v S1 H1, Gr A B S1 (del H1 p) → H1 p = some (.lst (vs ++ [v])) → Same S S1 → R.is S1 v x → D.nx σ H1) : tDrop (tBM K "list" rAppend (tVar i) (tCons te tNil)) D σ H := by
  refine ⟨.ref p, hi, .inl ⟨rfl, _, SqL.of hp⟩, ?_⟩
  refine h H gA.hole_same _ fun v S1 H1 g r => ?_
  obtain ⟨b1, b2⟩ := gA.hole hp g
  exact ⟨p, vs, v, rfl, rfl, b2, Nat.lt_of_le_of_lt hz (by decide), k v S1 _ b1.store upd_same g.ss r⟩
/-- found.extend(e) -/
theorem s_ext {p : Addr} {vs : List V} {m : List α} (gA : Gr A B S (del H p)) (hp : H p = some (.lst vs)) (hz : vs.length + m.length ≤ 1000000) {i : Nat} (hi : σ[i]? = some (some (.ref p))) (h : EvR te σ S (rL R) m)
    (k : ∀ ws S1 H1, Gr A B S1 (del H1 p) → H1 p = some (.lst (vs ++ ws)) → Same S S1 → Paired (R.is S1) ws m → D.nx σ H1) : tDrop (tBM K "list" rExtend (tVar i) (tCons te tNil)) D σ H := by
  refine ⟨.ref p, hi, .inl ⟨rfl, _, SqL.of hp⟩, ?_⟩
  refine h H gA.hole_same _ fun v S1 H1 g r => ?_
  obtain ⟨b1, b2⟩ := gA.hole hp g
  obtain ⟨b, ws, rfl, h2, h3⟩ := r
  exact ⟨p, b, vs, ws, rfl, rfl, b2, g.sh _ _ h2, by rw [paired_len h3]; exact Nat.le_trans hz (by decide), k ws S1 _ b1.store upd_same g.ss h3⟩
/-! ### numbers or nothing -/
theorem nV_non (x : Option Int) : decide (nV x = V.non) = x.isNone := by
  cases x with
  | none => rfl
  | some i => exact decide_eq_false (fun h => nomatch h)
theorem et_none {x : Option Int} (h : EvR ta σ S rNum x) : EvT (tB (tIsN ta)) σ S x.isNone := et_B (ev_isN h fun S v r => by
  cases r
  exact nV_non x)
theorem et_some {x : Option Int} (h : EvR ta σ S rNum x) : EvT (tB (tNotN ta)) σ S x.isSome := et_B (ev_notN h fun S v r => by
  cases r
  rw [nV_non]
  cases x <;> rfl)
theorem rO_non {o : Option α} {S : Hp} {v : V} (r : (rO R).is S v o) : decide (v = V.non) = o.isNone := by
  cases o with
  | none => exact decide_eq_true r
  | some y => exact decide_eq_false r.1
theorem et_noneO {o : Option α} (h : EvR ta σ S (rO R) o) : EvT (tB (tIsN ta)) σ S o.isNone := et_B (ev_isN h fun S v r => rO_non r)
theorem et_someO {o : Option α} (h : EvR ta σ S (rO R) o) : EvT (tB (tNotN ta)) σ S o.isSome := et_B (ev_notN h fun S v r => by
  rw [rO_non r]
  cases o <;> rfl)
theorem ev_add {i j : Int} (ha : EvR ta σ S rInt i) (hb : EvR tb σ S rInt j) : EvR (tOp (rI0 fun i j => .int (i + j)) ta tb) σ S rInt (i + j) := ev_I0 ha hb fun _ => rfl
theorem ev_sub {i j : Int} (ha : EvR ta σ S rInt i) (hb : EvR tb σ S rInt j) : EvR (tOp (rI0 fun i j => .int (i - j)) ta tb) σ S rInt (i - j) := ev_I0 ha hb fun _ => rfl
theorem ev_mul {i j : Int} (hc : (-(2 ^ 64) < i ∧ i < 2 ^ 64) ∨ (-(2 ^ 64) < j ∧ j < 2 ^ 64)) (ha : EvR ta σ S rInt i) (hb : EvR tb σ S rInt j) : EvR (tOp (rI CMul fun i j => .int (i * j)) ta tb) σ S rInt (i * j) := ev_I ha hb hc fun _ => rfl
/-- l[a:b] of a list that is only read -/
theorem cut_nat (xs : List V) (a b : Nat) : cutV xs (some (a : Int)) (some (b : Int)) = (xs.drop a).take (b - a) := by
  unfold cutV
  rw [HT.sIx_nat, HT.sIx_nat]
  by_cases h : a ≤ xs.length
  · rw [Nat.min_eq_left h]
    by_cases h2 : b ≤ xs.length
    · rw [Nat.min_eq_left h2]
    · rw [Nat.min_eq_right (by omega), List.take_of_length_le (by rw [List.length_drop]; omega), List.take_of_length_le (by rw [List.length_drop]; omega)]
  · rw [List.drop_of_length_le (show xs.length ≤ min a xs.length by omega), List.drop_of_length_le (by omega)]
    simp
theorem ev_slice {f : α → V} {a b : Nat} {i j : Int} (hi : i = (a : Int)) (hj : j = (b : Int)) (h : EvR te σ S (rA K f) l) (ha : EvR ta σ S rInt i) (hb : EvR tb σ S rInt j) : EvR (tSl (rSlL K) te (tPart ta) (tPart tb)) σ S (rL (rFlat f)) ((l.drop a).take (b - a)) := fun H e Q q =>
  h H e _ fun v S1 H1 g r => (ha.mono g.ss) H1 g.sh _ fun v1 S2 H2 g2 r2 => by
    cases r2
    refine ⟨i, rfl, (hb.mono (g.ss.trans g2.ss)) H2 g2.sh _ fun v2 S3 H3 g3 r3 => ?_⟩
    cases r3
    refine ⟨j, rfl, ?_⟩
    obtain ⟨c, rfl, h2⟩ := r
    refine ⟨c, _, rfl, (g2.ss.trans (g3.ss.trans g3.sh)).seq h2, fun p hp => q (.ref p) _ _ (((g.trans g2).trans g3).trans (Gr.new g3.sh hp)) ?_⟩
    refine rL_flat.mpr ⟨p, rfl, ?_⟩
    rw [upd_same, hi, hj, cut_nat, List.map_take, List.map_drop]
end
section
variable {α β γ : Type} {K : PySem.W.Frag} {σ : L2.St} {A B S H : Hp} {R : Rp α} {R' : Rp β} {te ta tb tc : TE} {tt tu : TT} {x : α} {y : β} {D : Ends} {t u tw : TS} {l : List α}
theorem ev_neg {i : Int} (h : EvR ta σ S rInt i) : EvR (tUn (rU fun i => .int (-i)) ta) σ S rInt (-i) := fun H e Q q => h H e _ fun v S1 H1 g r => ⟨i, r, q _ S1 H1 g rfl⟩
theorem ev_bits {i : Int} (h : EvR ta σ S rInt i) : EvR (tBits ta) σ S rInt ((Builtin.Int.intBits i : Nat) : Int) := fun H e Q q => h H e _ fun v S1 H1 g r => ⟨i, r, q _ S1 H1 g rfl⟩
/-- y = [..], the list is open from then on -/
theorem q_new {i : Nat} (h : EvN te σ S R l) (gA : Gr A B S H) (k : ∀ p vs S1 H1, B p = none → Gr A B S1 (del H1 p) → H1 p = some (.lst vs) → Same S S1 → Paired (R.is S1) vs l → u D (σ.set i (some (.ref p))) H1) : tSeq (tAsg te (gName i)) u D σ H := h H gA.sh _ fun p vs S1 H1 hp g e2 pr => k p vs S1 H1 (gA.hh.free hp) (gA.trans g) e2 g.ss pr
/-- row[j] = v, row open at p -/
theorem s_setL {p : Addr} {vs : List V} (gA : Gr A B S (del H p)) (hp : H p = some (.lst vs)) {i j : Nat} (hi : σ[i]? = some (some (.ref p))) (h : EvR te σ S R x) (hj : EvR tb σ S rInt (j : Int)) (hlt : j < vs.length)
    (k : ∀ v S1 H1, Gr A B S1 (del H1 p) → H1 p = some (.lst (vs.set j v)) → Same S S1 → R.is S1 v x → D.nx σ H1) : tAsg te (gSub (tVar i) tb rSetL) D σ H := by
  refine h H gA.hole_same _ fun v S1 H1 g r => ?_
  obtain ⟨b1, b2⟩ := gA.hole hp g
  refine ⟨.ref p, hi, (hj.mono g.ss) H1 g.sh _ fun w S2 H2 g2 r2 => ?_⟩
  obtain ⟨c1, c2⟩ := b1.hole b2 g2
  refine ⟨p, vs, (j : Int), j, rfl, r2, c2, ?_, k v S2 _ c1.store upd_same (g.ss.trans g2.ss) (R.mono g2.ss r)⟩
  unfold ixN
  rw [if_pos (by omega), if_pos (by omega), Int.toNat_natCast]
theorem q_setL {p : Addr} {vs : List V} (gA : Gr A B S (del H p)) (hp : H p = some (.lst vs)) {i j : Nat} (hi : σ[i]? = some (some (.ref p))) (h : EvR te σ S R x) (hj : EvR tb σ S rInt (j : Int)) (hlt : j < vs.length)
    (k : ∀ v S1 H1, Gr A B S1 (del H1 p) → H1 p = some (.lst (vs.set j v)) → Same S S1 → R.is S1 v x → u D σ H1) : tSeq (tAsg te (gSub (tVar i) tb rSetL)) u D σ H := s_setL (D := { D with nx := u D }) gA hp hi h hj hlt k
/-- range(n - 1, -1, -1) -/
theorem src_down {n : Nat} (hn : n ≤ 1000000) {a b c : Int} (ea : a = (n : Int) - 1) (eb : b = -1) (ec : c = -1) (h1 : EvR ta σ S rInt a) (h2 : EvR tb σ S rInt b) (h3 : EvR tc σ S rInt c) :
    Src (iRng3 (tCons ta (tCons tb (tCons tc tNil)))) σ S rNat ((List.range n).map fun i => n - 1 - i) := fun H e Rk k => h1 H e _ fun v S1 H1 g r => (h2.mono g.ss) H1 g.sh _ fun v2 S2 H2 g2 r2 => (h3.mono (g.ss.trans g2.ss)) H2 g2.sh _ fun v3 S3 H3 g3 r3 => by
  cases r
  cases r2
  cases r3
  subst ea eb ec
  refine ⟨(n : Int) - 1, -1, -1, n, rfl, ?_, k _ S3 H3 ((g.trans g2).trans g3) ?_⟩
  · have q := RgC.neg (i := (n : Int) - 1) (j := -1) (by omega) (by omega) (by omega) (by omega)
    rw [show ((n : Int) - 1 - -1).toNat = n by omega] at q
    exact q
  · rw [List.length_map, List.length_range]
    refine (walk_rangeC (lo := (n : Int) - 1) (c := -1) (n := n)).mono (fun _ _ => trivial) fun i Hx v Hy hi hG hy Sx q1 q2 => ?_
    obtain ⟨rfl, rfl⟩ := hy
    refine ⟨Sx, n - 1 - i, by rw [List.getElem?_map, List.getElem?_range hi]; rfl, Gr.refl q2, ?_⟩
    show V.int ((n : Int) - 1 + (i : Int) * -1) = V.int ((n - 1 - i : Nat) : Int)
    congr 1
    omega
end
section
variable {α β γ : Type} {K : PySem.W.Frag} {σ : L2.St} {A B S H : Hp} {R : Rp α} {R' : Rp β} {te ta tb tc : TE} {tt tu : TT} {x : α} {y : β} {D : Ends} {t u tw : TS} {l : List α}
theorem ev_any {bs : List Bool} (h : EvR ta σ S (rL rBool) bs) : EvR (tCB (rAny K) (tCons ta tNil)) σ S rBool (bs.any id) := ev_cb1 h fun S' v _ hv => by
  obtain ⟨p, rfl, h2⟩ := rL_flat.mp hv
  exact fun H e Q q => ⟨p, bs, rfl, SqL.of (e _ _ h2), q _ S' H (Gr.refl e) rfl⟩
theorem ev_sum {ns : List Int} (h : EvR ta σ S (rL rInt) ns) : EvR (tCB (rSum K) (tCons ta tNil)) σ S rInt ns.sum := ev_cb1 h fun S' v _ hv => by
  obtain ⟨p, rfl, h2⟩ := rL_flat.mp hv
  exact fun H e Q q => ⟨p, ns, rfl, SqL.of (e _ _ h2), q _ S' H (Gr.refl e) rfl⟩
/-- x = [e], open -/
theorem q_lst1 {i : Nat} (h : EvR te σ S R x) (gA : Gr A B S H) (k : ∀ p v S1 H1, B p = none → Gr A B S1 (del H1 p) → H1 p = some (.lst [v]) → Same S S1 → R.is S1 v x → u D (σ.set i (some (.ref p))) H1) : tSeq (tAsg (tLst (tCons te tNil)) (gName i)) u D σ H := h H gA.sh _ fun v S1 H1 g r => ⟨by show 1 ≤ sizeLine; decide, fun p hp => k p v S1 _ ((gA.trans g).hh.free hp) (by
  rw [del_upd, del_none hp]
  exact gA.trans g) upd_same g.ss r⟩
theorem paired_snoc {F : V → α → Prop} {vs : List V} {l : List α} {x : α} (h : Paired F vs (l ++ [x])) : ∃ ws v, vs = ws ++ [v] ∧ Paired F ws l ∧ F v x := by
  induction l generalizing vs with
  | nil =>
    cases h with
    | cons a b =>
      cases b
      exact ⟨[], _, rfl, .nil, a⟩
  | cons y l ih =>
    cases h with
    | cons a b =>
      obtain ⟨ws, v, rfl, h1, h2⟩ := ih b
      exact ⟨_ :: ws, v, rfl, .cons a h1, h2⟩
end
section
variable {α β γ : Type} {K : PySem.W.Frag} {σ : L2.St} {A B S H : Hp} {R : Rp α} {R' : Rp β} {te ta tb tc : TE} {tt tu : TT} {x : α} {y : β} {D : Ends} {t u tw : TS} {l : List α}
/-- a, b = a pair -/
theorem g_pair {p : α × β} {v : V} {i j : Nat} {k : L2.St → Hp → Prop} (e : Same S H) (r : (rP R R').is S v p) (h : ∀ v1 v2, R.is S v1 p.1 → R'.is S v2 p.2 → k ((σ.set i (some v1)).set j (some v2)) H) : gTup K 2 (gCons (gName i) (gCons (gName j) gNil)) v σ H k := by
  obtain ⟨t, w1, w2, rfl, h2, h3, h4⟩ := r
  exact ⟨t, [w1, w2], rfl, SqT.of (e _ _ h2), rfl, w1, [w2], rfl, w2, [], rfl, rfl, h w1 w2 h3 h4⟩
theorem rP_ne {p : α × β} {v : V} (r : (rP R R').is S v p) : v ≠ .non := by
  obtain ⟨t, w1, w2, rfl, _⟩ := r
  exact fun h => nomatch h
theorem rO_pair {p : α × β} {v : V} (r : (rP R R').is S v p) : (rO (rP R R')).is S v (some p) := ⟨rP_ne r, r⟩
theorem ev_abs {i : Int} (h : EvR ta σ S rInt i) : EvR (tCB (fun xs H Q => ∃ i, xs = [.int i] ∧ Q (.int (if i < 0 then -i else i)) H) (tCons ta tNil)) σ S rNat i.natAbs := ev_cb1 h fun S' v _ hv => by
  cases hv
  refine fun H e Q q => ⟨i, rfl, q _ S' H (Gr.refl e) ?_⟩
  show V.int (if i < 0 then -i else i) = V.int ((i.natAbs : Nat) : Int)
  congr 1
  split <;> omega
theorem ev_max {i j : Nat} (h1 : EvR ta σ S rNat i) (h2 : EvR tb σ S rNat j) : EvR (tCB (fun xs H Q => ∃ i j, xs = [.int i, .int j] ∧ Q (.int (if j > i then j else i)) H) (tCons ta (tCons tb tNil))) σ S rNat (max i j) := ev_cb2 h1 h2 fun S' v w _ hv hw => by
  cases hv
  cases hw
  refine fun H e Q q => ⟨i, j, rfl, q _ S' H (Gr.refl e) ?_⟩
  show V.int (if (j : Int) > (i : Int) then (j : Int) else (i : Int)) = V.int ((max i j : Nat) : Int)
  congr 1
  split <;> omega
theorem ev_min {i j : Nat} (h1 : EvR ta σ S rNat i) (h2 : EvR tb σ S rNat j) : EvR (tCB (fun xs H Q => ∃ i j, xs = [.int i, .int j] ∧ Q (.int (if j < i then j else i)) H) (tCons ta (tCons tb tNil))) σ S rNat (min i j) := ev_cb2 h1 h2 fun S' v w _ hv hw => by
  cases hv
  cases hw
  refine fun H e Q q => ⟨i, j, rfl, q _ S' H (Gr.refl e) ?_⟩
  show V.int (if (j : Int) < (i : Int) then (j : Int) else (i : Int)) = V.int ((min i j : Nat) : Int)
  congr 1
  split <;> omega
abbrev rM : Rp (Int × Nat) := rP rInt rNat
theorem EvR.int {n : Nat} (h : EvR te σ S rNat n) : EvR te σ S rInt (n : Int) := h
theorem EvR.num {i : Int} (h : EvR te σ S rInt i) : EvR te σ S rNum (some i) := h
theorem EvR.of_num {i : Int} {o : Option Int} (h : EvR te σ S rNum o) (e : o = some i) : EvR te σ S rInt i := by
  rw [e] at h
  exact h
end
/-! ### comprehensions within comprehensions; calls of defs of the module -/
theorem lookup_in {F : Str × NameKind → Str × NameKind} (h1 : ∀ p, (F p).1 = p.1) (h2 : ∀ p, (F p).2 = p.2 ∨ (F p).2 = .cell) {x : Str} : ∀ {names : List (Str × NameKind)}, names.lookup x = some .cell ∨ names.lookup x = some .free →
    (names.map F).lookup x = some .cell ∨ (names.map F).lookup x = some .free
  | [], h => by simp at h
  | p :: r, h => by
    have ih := @lookup_in F h1 h2 x r
    have e : F p = (p.1, (F p).2) := by rw [← h1 p]
    rw [List.map_cons, e]
    obtain ⟨n, k⟩ := p
    cases hx : x == n with
    | true =>
      simp only [List.lookup_cons, hx] at h ⊢
      rcases h2 (n, k) with q | q
      · rw [q]
        exact h
      · rw [q]
        exact .inl rfl
    | false =>
      simp only [List.lookup_cons, hx] at h ⊢
      exact ih h
theorem blkOk_in {N : List Str} {sc scope : Scope} {own : List (Str × Nat)} {cl : List (Str × Addr)} {C : Addr} {env : Env} (h : BlkOk N sc scope own) : BlkOk N (compEnvC sc cl C env).scope scope own := by
  refine ⟨h.kind, h.uniq, h.ix, fun y hy e => lookup_in (fun p => ?_) (fun p => ?_) (h.free y hy e), h.own⟩
  · dsimp only
    split <;> rfl
  · dsimp only
    split
    · exact .inr rfl
    · exact .inl rfl
/-- a def of the module that may be called -/
structure Cal (P : Program) (w : World) (K : PySem.W.Frag) (mg : Str → Option Value) (base : Heap) (x : Str) (k : Nat) (ps : List Str) (sp : Sp) : Prop where
  ex : ∃ f fd, FnOk P w K mg base CX0 k f fd ps sp ∧ mg x = some (.ref f) ∧ PySem.W.keepIn K (.ref f) = true ∧ Binds K fd ps []
theorem pe_cal {X : Cx} {x : Str} {k : Nat} {ps : List Str} {sp : Sp} {p pos : Pos} {e : Expr} {es : List Expr} {t : TA} (C : Cal X.prog X.w X.K X.mg X.base x k ps sp) (hr : Room k X.A) (hg : Gl X x) (ha : PA X (e :: es) t) (hdb : (x == ("__debug__" : Str)) = false := by decide)
    (he : starEach (e :: es) X.env = (false, eval e X.env) :: starEach es X.env := by rfl) (hpl : (backTo pos (starEach es X.env)).any (·.1) = false := by rfl) : PE X (.Call (.Name x p) (e :: es) [] pos) (tCall sp [] E0 t) := by
  obtain ⟨f, fd, F, hm, hk, hb⟩ := C.ex
  exact pe_call F hr hg hm hk hb .nil pass0 ha hdb he hpl
end Ws

set_option Elab.async false
namespace WsM
open Rb23

/-! ### numbers or nothing, in order -/
def Le : Num → Num → Prop
  | none, _ => True
  | some x, some y => x ≤ y
  | some _, none => False

theorem Le.refl : ∀ a, Le a a
  | none => trivial
  | some _ => Int.le_refl _
theorem Le.trans : ∀ {a b c}, Le a b → Le b c → Le a c
  | none, _, _, _, _ => trivial
  | some _, some _, some _, h, k => Int.le_trans h k
  | some _, some _, none, _, k => k.elim
  | some _, none, _, h, _ => h.elim
theorem Le.antisymm : ∀ {a b}, Le a b → Le b a → a = b
  | none, none, _, _ => rfl
  | none, some _, _, k => k.elim
  | some _, none, h, _ => h.elim
  | some _, some _, h, k => congrArg some (Int.le_antisymm h k)
theorem Le.of_some {x : Int} : ∀ {b : Num}, Le (some x) b → ∃ y, b = some y ∧ x ≤ y
  | some y, h => ⟨y, rfl, h⟩
  | none, h => h.elim
theorem Le.some_iff {x y : Int} : Le (some x) (some y) ↔ x ≤ y := Iff.rfl
theorem le_top_left : ∀ a b, Le a (top a b)
  | none, _ => trivial
  | some _, none => Int.le_refl _
  | some x, some y => Int.le_max_left x y
theorem le_top_right : ∀ a b, Le b (top a b)
  | none, b => Le.refl b
  | some _, none => trivial
  | some x, some y => Int.le_max_right x y
theorem top_le : ∀ {a b c}, Le a c → Le b c → Le (top a b) c
  | none, _, _, _, k => k
  | some _, none, _, h, _ => h
  | some _, some _, some _, h, k => Int.max_le.mpr ⟨h, k⟩
  | some _, some _, none, h, _ => h.elim
theorem top_cases : ∀ a b, top a b = a ∨ top a b = b
  | none, _ => .inr rfl
  | some _, none => .inl rfl
  | some x, some y => by
    show some (max x y) = some x ∨ some (max x y) = some y
    rw [Option.some.injEq, Option.some.injEq]
    omega
theorem top_none_left (a : Num) : top none a = a := rfl
theorem top_none_right : ∀ a : Num, top a none = a
  | none => rfl
  | some _ => rfl

theorem foldl_top_le {c : Num} : ∀ (l : List Num) (a : Num), Le a c → (∀ x ∈ l, Le x c) → Le (l.foldl top a) c
  | [], _, h, _ => h
  | x :: l, a, h, k => foldl_top_le l (top a x) (top_le h (k x (List.mem_cons_self ..))) fun y hy => k y (List.mem_cons_of_mem _ hy)
theorem le_foldl_top : ∀ (l : List Num) (a : Num), Le a (l.foldl top a) ∧ ∀ x ∈ l, Le x (l.foldl top a)
  | [], a => ⟨Le.refl a, fun _ h => by cases h⟩
  | x :: l, a => by
    have h := le_foldl_top l (top a x)
    refine ⟨Le.trans (le_top_left a x) h.1, fun y hy => ?_⟩
    rcases List.mem_cons.mp hy with rfl | hy
    · exact Le.trans (le_top_right a y) h.1
    · exact h.2 y hy
theorem foldl_top_mem : ∀ (l : List Num) (a : Num), l.foldl top a = a ∨ l.foldl top a ∈ l
  | [], _ => .inl rfl
  | x :: l, a => by
    rcases foldl_top_mem l (top a x) with h | h
    · rcases top_cases a x with e | e
      · left
        show l.foldl top (top a x) = a
        rw [h, e]
      · right
        show l.foldl top (top a x) ∈ x :: l
        rw [h, e]
        exact List.mem_cons_self ..
    · right
      exact List.mem_cons_of_mem _ h
theorem best_le {l : List Num} {c : Num} (h : ∀ x ∈ l, Le x c) : Le (best l) c := foldl_top_le l none trivial h
theorem le_best {l : List Num} {x : Num} (h : x ∈ l) : Le x (best l) := (le_foldl_top l none).2 x h
theorem best_mem {l : List Num} {x : Int} (h : best l = some x) : some x ∈ l := by
  rcases foldl_top_mem l none with e | e
  · have : best l = none := e
    rw [this] at h
    cases h
  · have e' : best l ∈ l := e
    rw [h] at e'
    exact e'

theorem plus_some {a b : Num} {s : Int} : plus a b = some s ↔ ∃ x y, a = some x ∧ b = some y ∧ s = x + y := by
  cases a <;> cases b <;> simp [plus, eq_comm]
theorem plus_zero : ∀ a : Num, plus a (some 0) = a
  | none => rfl
  | some x => congrArg some (Int.add_zero x)
theorem zero_plus : ∀ a : Num, plus (some 0) a = a
  | none => rfl
  | some x => congrArg some (Int.zero_add x)
theorem plus_none_right : ∀ a : Num, plus a none = none
  | none => rfl
  | some _ => rfl
theorem plus_assoc : ∀ a b c : Num, plus (plus a b) c = plus a (plus b c)
  | none, _, _ => rfl
  | some _, none, _ => rfl
  | some _, some _, none => rfl
  | some x, some y, some z => congrArg some (Int.add_assoc x y z)
theorem plus_comm : ∀ a b : Num, plus a b = plus b a
  | none, none => rfl
  | none, some _ => rfl
  | some _, none => rfl
  | some x, some y => congrArg some (Int.add_comm x y)
theorem plus_mono : ∀ {a b c d : Num}, Le a b → Le c d → Le (plus a c) (plus b d)
  | none, _, _, _, _, _ => trivial
  | some _, none, _, _, h, _ => h.elim
  | some _, some _, none, _, _, _ => trivial
  | some _, some _, some _, none, _, k => k.elim
  | some _, some _, some _, some _, h, k => Int.add_le_add h k

/-- x is the greatest of what P tells, nothing where P tells none -/
def IsSup (P : Int → Prop) (x : Num) : Prop := (∀ s, x = some s → P s) ∧ ∀ s, P s → Le (some s) x
theorem IsSup.unique {P : Int → Prop} : ∀ {x y : Num}, IsSup P x → IsSup P y → x = y
  | none, none, _, _ => rfl
  | none, some s, h, k => (h.2 s (k.1 s rfl)).elim
  | some s, none, h, k => (k.2 s (h.1 s rfl)).elim
  | some s, some t, h, k => congrArg some (Int.le_antisymm (k.2 s (h.1 s rfl)) (h.2 t (k.1 t rfl)))
theorem IsSup.congr {P Q : Int → Prop} {x : Num} (h : IsSup P x) (e : ∀ s, P s ↔ Q s) : IsSup Q x :=
  ⟨fun s z => (e s).mp (h.1 s z), fun s z => h.2 s ((e s).mpr z)⟩

/-! ### matrices -/
def Sq (n : Nat) (m : Mat) : Prop := m.length = n ∧ ∀ r ∈ m, r.length = n
theorem entry_made {n i j : Nat} {f : Nat → Nat → Num} (hi : i < n) (hj : j < n) : entry (made n f) i j = f i j := by
  simp [entry, made, hi, hj]
theorem entry_made_out {n i j : Nat} {f : Nat → Nat → Num} (h : ¬ (i < n ∧ j < n)) : entry (made n f) i j = none := by
  unfold entry made
  by_cases hi : i < n
  · have hj : ¬ j < n := fun z => h ⟨hi, z⟩
    simp [hi, hj]
  · simp [hi]
theorem made_sq (n : Nat) (f : Nat → Nat → Num) : Sq n (made n f) := by
  constructor
  · simp [made]
  · intro r hr
    simp only [made, List.mem_map, List.mem_range] at hr
    obtain ⟨i, _, rfl⟩ := hr
    simp
theorem entry_get {m : Mat} {i : Nat} (hi : i < m.length) (j : Nat) : entry m i j = (m[i]).getD j none := by
  have e : m.getD i [] = m[i] := by rw [List.getD_eq_getElem?_getD, List.getElem?_eq_getElem hi]; rfl
  unfold entry
  rw [e]
theorem entry_get_none {m : Mat} {i : Nat} (hi : ¬ i < m.length) (j : Nat) : entry m i j = none := by
  have e : m.getD i [] = [] := by rw [List.getD_eq_getElem?_getD, List.getElem?_eq_none (by omega)]; rfl
  unfold entry
  rw [e]
  rfl
theorem entry_out {n : Nat} {m : Mat} (h : Sq n m) {i j : Nat} {s : Int} (e : entry m i j = some s) : i < n ∧ j < n := by
  by_cases hi : i < m.length
  · have hr := h.2 (m[i]) (List.getElem_mem hi)
    rw [entry_get hi] at e
    by_cases hj : j < (m[i]).length
    · exact ⟨by rw [← h.1]; exact hi, by rw [← hr]; exact hj⟩
    · rw [List.getD_eq_getElem?_getD, List.getElem?_eq_none (by omega)] at e
      cases e
  · rw [entry_get_none hi] at e
    cases e
theorem made_congr {n : Nat} {f g : Nat → Nat → Num} (h : ∀ i j, i < n → j < n → f i j = g i j) : made n f = made n g := by
  unfold made
  apply List.map_congr_left
  intro i hi
  apply List.map_congr_left
  intro j hj
  exact h i j (List.mem_range.mp hi) (List.mem_range.mp hj)
theorem row_entry {n : Nat} {r : List Num} (h : r.length = n) : (List.range n).map (fun j => r.getD j none) = r := by
  apply List.ext_getElem
  · simp [h]
  · intro i h1 h2
    simp [h2]
theorem made_entry {n : Nat} {m : Mat} (h : Sq n m) : made n (entry m) = m := by
  unfold made
  apply List.ext_getElem
  · simp [h.1]
  · intro i h1 h2
    have hr := h.2 (m[i]) (List.getElem_mem h2)
    simp only [List.getElem_map, List.getElem_range]
    have : entry m i = fun j => (m[i]).getD j none := by
      funext j
      exact entry_get h2 j
    rw [this]
    exact row_entry hr
theorem mat_ext {n : Nat} {a b : Mat} (ha : Sq n a) (hb : Sq n b) (h : ∀ i j, i < n → j < n → entry a i j = entry b i j) : a = b := by
  rw [← made_entry ha, ← made_entry hb]
  exact made_congr h

/-! ### walks: the things gone to, one after the other -/
def pw (f : Nat → Nat → Num) : Nat → List Nat → Num
  | _, [] => some 0
  | i, v :: vs => plus (f i v) (pw f v vs)
def lst : Nat → List Nat → Nat
  | i, [] => i
  | _, v :: vs => lst v vs
theorem lst_append : ∀ (i : Nat) (vs ws : List Nat), lst i (vs ++ ws) = lst (lst i vs) ws
  | _, [], _ => rfl
  | _, v :: vs, ws => lst_append v vs ws
theorem pw_append {f : Nat → Nat → Num} : ∀ (i : Nat) (vs ws : List Nat), pw f i (vs ++ ws) = plus (pw f i vs) (pw f (lst i vs) ws)
  | i, [], ws => (zero_plus _).symm
  | i, v :: vs, ws => by
    show plus (f i v) (pw f v (vs ++ ws)) = plus (plus (f i v) (pw f v vs)) (pw f (lst v vs) ws)
    rw [pw_append v vs ws, plus_assoc]
theorem lst_mem : ∀ (i : Nat) (v : Nat) (vs : List Nat), lst i (v :: vs) ∈ v :: vs
  | _, v, [] => by simp [lst]
  | _, v, w :: vs => by
    show lst w vs ∈ _
    exact List.mem_cons_of_mem _ (lst_mem v w vs)
/-- f tells nothing outside of n -/
def Bd (n : Nat) (f : Nat → Nat → Num) : Prop := ∀ i j s, f i j = some s → i < n ∧ j < n
theorem Bd.of {n : Nat} {m : Mat} (h : Sq n m) : Bd n (entry m) := fun _ _ _ e => entry_out h e
theorem pw_bd {n : Nat} {f : Nat → Nat → Num} (h : Bd n f) : ∀ {vs : List Nat} {i : Nat} {s : Int}, pw f i vs = some s → ∀ v ∈ vs, v < n
  | v :: vs, i, s, e, u, hu => by
    obtain ⟨x, y, e1, e2, _⟩ := plus_some.mp e
    rcases List.mem_cons.mp hu with rfl | hu
    · exact (h _ _ _ e1).2
    · exact pw_bd h e2 u hu
/-- there is a walk of length k from i to j with the sum s -/
def Wk (f : Nat → Nat → Num) (k i j : Nat) (s : Int) : Prop := ∃ vs : List Nat, vs.length = k ∧ lst i vs = j ∧ pw f i vs = some s
theorem Wk.append {f : Nat → Nat → Num} {k l i j h : Nat} {s t : Int} (a : Wk f k i j s) (b : Wk f l j h t) : Wk f (k + l) i h (s + t) := by
  obtain ⟨vs, e1, e2, e3⟩ := a
  obtain ⟨ws, f1, f2, f3⟩ := b
  refine ⟨vs ++ ws, by simp [e1, f1], by rw [lst_append, e2, f2], ?_⟩
  rw [pw_append, e3, e2, f3]
  rfl
theorem Wk.split {f : Nat → Nat → Num} {k l i h : Nat} {s : Int} (a : Wk f (k + l) i h s) : ∃ j x y, Wk f k i j x ∧ Wk f l j h y ∧ s = x + y := by
  obtain ⟨vs, e1, e2, e3⟩ := a
  have e := List.take_append_drop k vs
  rw [← e, pw_append] at e3
  rw [← e, lst_append] at e2
  obtain ⟨x, y, h1, h2, h3⟩ := plus_some.mp e3
  exact ⟨lst i (vs.take k), x, y, ⟨vs.take k, by rw [List.length_take]; omega, rfl, h1⟩, ⟨vs.drop k, by rw [List.length_drop]; omega, e2, h2⟩, h3⟩
theorem Wk.lt {n : Nat} {f : Nat → Nat → Num} (hb : Bd n f) {k i j : Nat} {s : Int} (hi : i < n) (a : Wk f k i j s) : j < n := by
  obtain ⟨vs, e1, e2, e3⟩ := a
  cases vs with
  | nil => rw [← e2]; exact hi
  | cons v vs =>
    rw [← e2]
    exact pw_bd hb e3 _ (lst_mem i v vs)
theorem Wk.zero {f : Nat → Nat → Num} {i j : Nat} {s : Int} : Wk f 0 i j s ↔ i = j ∧ s = 0 := by
  constructor
  · rintro ⟨vs, e1, e2, e3⟩
    have : vs = [] := List.length_eq_zero_iff.mp e1
    subst this
    exact ⟨e2, (Option.some.inj e3).symm⟩
  · rintro ⟨rfl, rfl⟩
    exact ⟨[], rfl, rfl, rfl⟩
theorem Wk.one {f : Nat → Nat → Num} {i j : Nat} {s : Int} : Wk f 1 i j s ↔ f i j = some s := by
  constructor
  · rintro ⟨vs, e1, e2, e3⟩
    match vs, e1 with
    | [v], _ =>
      have e2 : v = j := e2
      subst e2
      have e3 : plus (f i v) (some 0) = some s := e3
      rw [plus_zero] at e3
      exact e3
  · intro e
    exact ⟨[j], rfl, rfl, (plus_zero _).trans e⟩

/-! ### products and powers -/
theorem mul_sup {n : Nat} {a b : Mat} {P Q : Nat → Nat → Int → Prop} {i j : Nat} (hi : i < n) (hj : j < n) (ha : ∀ k, k < n → IsSup (P i k) (entry a i k)) (hb : ∀ k, k < n → IsSup (Q k j) (entry b k j)) :
    IsSup (fun s => ∃ k x y, k < n ∧ P i k x ∧ Q k j y ∧ s = x + y) (entry (mul n a b) i j) := by
  unfold mul
  rw [entry_made hi hj]
  constructor
  · intro s e
    have m := best_mem e
    obtain ⟨k, hk, e⟩ := List.mem_map.mp m
    rw [List.mem_range] at hk
    obtain ⟨x, y, e1, e2, e3⟩ := plus_some.mp e
    exact ⟨k, x, y, hk, (ha k hk).1 x e1, (hb k hk).1 y e2, e3⟩
  · rintro s ⟨k, x, y, hk, p, q, rfl⟩
    refine Le.trans ?_ (le_best (List.mem_map.mpr ⟨k, List.mem_range.mpr hk, rfl⟩))
    exact plus_mono (a := some x) (c := some y) ((ha k hk).2 x p) ((hb k hk).2 y q)
theorem mul_sq (n : Nat) (a b : Mat) : Sq n (mul n a b) := made_sq n _
theorem one_sq (n : Nat) : Sq n (one n) := made_sq n _
theorem pow_sq (n : Nat) (a : Mat) : ∀ k, Sq n (pow n a k)
  | 0 => one_sq n
  | _ + 1 => mul_sq n _ _
theorem one_sup {n : Nat} {f : Nat → Nat → Num} {i j : Nat} (hi : i < n) (hj : j < n) : IsSup (Wk f 0 i j) (entry (one n) i j) := by
  unfold one
  rw [entry_made hi hj]
  constructor
  · intro s e
    by_cases h : i = j
    · rw [if_pos h] at e
      exact Wk.zero.mpr ⟨h, (Option.some.inj e).symm⟩
    · rw [if_neg h] at e
      cases e
  · intro s w
    obtain ⟨rfl, rfl⟩ := Wk.zero.mp w
    rw [if_pos rfl]
    exact Le.refl _
theorem entry_sup (f : Nat → Nat → Num) (i j : Nat) : IsSup (Wk f 1 i j) (f i j) :=
  ⟨fun _ e => Wk.one.mpr e, fun s w => by rw [Wk.one.mp w]; exact Le.refl _⟩
/-- a product of what is greatest of walks of length k and l is greatest of walks of length k + l -/
theorem mul_wk {n : Nat} {f : Nat → Nat → Num} (hf : Bd n f) {a b : Mat} {k l : Nat} (ha : ∀ i j, i < n → j < n → IsSup (Wk f k i j) (entry a i j)) (hb : ∀ i j, i < n → j < n → IsSup (Wk f l i j) (entry b i j)) {i j : Nat} (hi : i < n) (hj : j < n) :
    IsSup (Wk f (k + l) i j) (entry (mul n a b) i j) := by
  refine (mul_sup (P := Wk f k) (Q := Wk f l) hi hj (fun h hh => ha i h hi hh) (fun h hh => hb h j hh hj)).congr fun s => ?_
  constructor
  · rintro ⟨h, x, y, _, p, q, rfl⟩
    exact p.append q
  · intro w
    obtain ⟨h, x, y, p, q, e⟩ := w.split
    exact ⟨h, x, y, p.lt hf hi, p, q, e⟩
theorem pow_wk {n : Nat} {a : Mat} (h : Sq n a) : ∀ (k : Nat) {i j : Nat}, i < n → j < n → IsSup (Wk (entry a) k i j) (entry (pow n a k) i j)
  | 0, _, _, hi, hj => one_sup hi hj
  | k + 1, _, _, hi, hj => mul_wk (Bd.of h) (fun _ _ p q => pow_wk h k p q) (fun i j _ _ => entry_sup (entry a) i j) hi hj
theorem pow_add {n : Nat} {a : Mat} (h : Sq n a) (k l : Nat) : mul n (pow n a k) (pow n a l) = pow n a (k + l) :=
  mat_ext (mul_sq n _ _) (pow_sq n a _) fun _ _ hi hj => IsSup.unique (mul_wk (Bd.of h) (fun _ _ p q => pow_wk h k p q) (fun _ _ p q => pow_wk h l p q) hi hj) (pow_wk h (k + l) hi hj)
theorem pow_one {n : Nat} {a : Mat} (h : Sq n a) : pow n a 1 = a :=
  mat_ext (pow_sq n a 1) h fun i j hi hj => IsSup.unique (pow_wk h 1 hi hj) (entry_sup (entry a) i j)
theorem mul_pow {n : Nat} {a : Mat} (k : Nat) : mul n (pow n a k) a = pow n a (k + 1) := rfl
/-- the powers, from 0 on -/
theorem powers_eq (n : Nat) (a : Mat) (k : Nat) : powers n a k = (List.range (k + 1)).map (pow n a) := by
  have key : ∀ k, (List.range k).foldl (fun (x : List Mat × Mat) (_ : Nat) => let m := mul n x.2 a; (m :: x.1, m)) ([one n], one n) = (((List.range (k + 1)).map (pow n a)).reverse, pow n a k) := by
    intro k
    induction k with
    | zero => rfl
    | succ k ih =>
      rw [List.range_succ, List.foldl_append, ih]
      show (pow n a (k + 1) :: ((List.range (k + 1)).map (pow n a)).reverse, pow n a (k + 1)) = _
      rw [List.range_succ (n := k + 1), List.map_append, List.reverse_append]
      rfl
  unfold powers
  rw [key k]
  exact List.reverse_reverse _
theorem powers_last (n : Nat) (a : Mat) (k : Nat) : (powers n a k).getLastD [] = pow n a k := by
  rw [powers_eq, List.range_succ, List.map_append]
  simp
end WsM

set_option Elab.async false
namespace WsM
open Rb23

/-! ### lists without a thing twice -/
theorem nodup_len : ∀ (n : Nat) (l : List Nat), l.Nodup → (∀ x ∈ l, x < n) → l.length ≤ n
  | 0, [], _, _ => Nat.le_refl _
  | 0, x :: l, _, h => absurd (h x (List.mem_cons_self ..)) (Nat.not_lt_zero _)
  | n + 1, l, nd, h => by
    have hn : (l.erase n).Nodup := nd.erase n
    have hl : ∀ x ∈ l.erase n, x < n := fun x hx => by
      have h1 := h x (List.mem_of_mem_erase hx)
      have h2 : x ≠ n := fun e => by
        subst e
        exact (List.Nodup.mem_erase_iff nd).mp hx |>.1 rfl
      omega
    have ih := nodup_len n (l.erase n) hn hl
    rw [List.length_erase] at ih
    split at ih <;> omega
theorem nodup_split {α : Type} : ∀ (l : List α), ¬ l.Nodup → ∃ a v m r, l = a ++ v :: (m ++ v :: r)
  | [], h => absurd List.nodup_nil h
  | x :: t, h => by
    by_cases hx : x ∈ t
    · obtain ⟨m, r, e⟩ := List.append_of_mem hx
      exact ⟨[], x, m, r, by rw [e]; rfl⟩
    · have ht : ¬ t.Nodup := fun z => h (List.nodup_cons.mpr ⟨hx, z⟩)
      obtain ⟨a, v, m, r, e⟩ := nodup_split t ht
      exact ⟨x :: a, v, m, r, by rw [e]; rfl⟩
theorem nil_or_last {α : Type} (l : List α) : l = [] ∨ ∃ a x, l = a ++ [x] := by
  rcases List.eq_nil_or_concat l with h | ⟨a, x, h⟩
  · exact .inl h
  · exact .inr ⟨a, x, by rw [h]; simp⟩
theorem lst_snoc (i : Nat) (l : List Nat) (v : Nat) : lst i (l ++ [v]) = v := by rw [lst_append]; rfl

/-! ### circles, and ways without them -/
section
variable {f : Nat → Nat → Num}
theorem three {i v : Nat} {l m r : List Nat} {s : Int} (e : pw f i (l ++ v :: (m ++ v :: r)) = some s) :
    ∃ x y z, pw f i (l ++ [v]) = some x ∧ pw f v (m ++ [v]) = some y ∧ pw f v r = some z ∧ s = x + y + z := by
  have e1 : l ++ v :: (m ++ v :: r) = (l ++ [v]) ++ ((m ++ [v]) ++ r) := by simp
  rw [e1, pw_append i (l ++ [v]), lst_snoc, pw_append v (m ++ [v]), lst_snoc] at e
  obtain ⟨x, t, h1, h2, h3⟩ := plus_some.mp e
  obtain ⟨y, z, h4, h5, h6⟩ := plus_some.mp h2
  exact ⟨x, y, z, h1, h4, h5, by omega⟩
theorem without {i v : Nat} {l r : List Nat} {x z : Int} (h1 : pw f i (l ++ [v]) = some x) (h2 : pw f v r = some z) : pw f i (l ++ v :: r) = some (x + z) := by
  have e1 : l ++ v :: r = (l ++ [v]) ++ r := by simp
  rw [e1, pw_append i (l ++ [v]), lst_snoc, h1, h2]
  rfl
theorem lst_three {i v : Nat} {l m r : List Nat} : lst i (l ++ v :: (m ++ v :: r)) = lst v r := by
  have e1 : l ++ v :: (m ++ v :: r) = (l ++ v :: m ++ [v]) ++ r := by simp
  rw [e1, lst_append, lst_snoc]
theorem lst_without {i v : Nat} {l r : List Nat} : lst i (l ++ v :: r) = lst v r := by
  have e1 : l ++ v :: r = (l ++ [v]) ++ r := by simp
  rw [e1, lst_append, lst_snoc]
/-- no circle without a thing twice is above 0: none is -/
theorem circ_le (h : ∀ ws i s, ws ≠ [] → ws.Nodup → lst i ws = i → pw f i ws = some s → s ≤ 0) : ∀ (k : Nat) (ws : List Nat) (i : Nat) (s : Int), ws.length ≤ k → lst i ws = i → pw f i ws = some s → s ≤ 0
  | k, [], i, s, _, _, e => by
    have := Option.some.inj e
    omega
  | 0, _ :: _, _, _, hk, _, _ => by simp at hk
  | k + 1, w :: ws, i, s, hk, hl, e => by
    by_cases nd : (w :: ws).Nodup
    · exact h _ i s (by simp) nd hl e
    · obtain ⟨l, v, m, r, q⟩ := nodup_split _ nd
      rw [q] at e hl hk
      obtain ⟨x, y, z, h1, h2, h3, rfl⟩ := three e
      simp only [List.length_append, List.length_cons] at hk
      have hy : y ≤ 0 := circ_le h k (m ++ [v]) v y (by simp only [List.length_append, List.length_cons, List.length_nil]; omega) (lst_snoc v m v) h2
      have hxz : x + z ≤ 0 := circ_le h k (l ++ v :: r) i (x + z) (by simp only [List.length_append, List.length_cons]; omega) (by rw [lst_without, ← lst_three (i := i) (l := l) (m := m), hl]) (without h1 h3)
      omega
/-- where no circle is above 0, a way without a thing twice is as great -/
theorem shortcut (hc : ∀ ws i s, lst i ws = i → pw f i ws = some s → s ≤ 0) : ∀ (k : Nat) (ws : List Nat) (i : Nat) (s : Int), ws.length ≤ k → pw f i ws = some s →
    ∃ ws' s', ws'.Nodup ∧ (ws ≠ [] → ws' ≠ []) ∧ lst i ws' = lst i ws ∧ pw f i ws' = some s' ∧ s ≤ s'
  | k, [], i, s, _, e => ⟨[], s, List.nodup_nil, fun z => z, rfl, e, Int.le_refl _⟩
  | 0, _ :: _, _, _, hk, _ => by simp at hk
  | k + 1, w :: ws, i, s, hk, e => by
    by_cases nd : (w :: ws).Nodup
    · exact ⟨_, s, nd, fun z => z, rfl, e, Int.le_refl _⟩
    · obtain ⟨l, v, m, r, q⟩ := nodup_split _ nd
      rw [q] at e hk ⊢
      obtain ⟨x, y, z, h1, h2, h3, rfl⟩ := three e
      simp only [List.length_append, List.length_cons] at hk
      have hy : y ≤ 0 := hc (m ++ [v]) v y (lst_snoc v m v) h2
      obtain ⟨ws', s', a1, a2, a3, a4, a5⟩ := shortcut hc k (l ++ v :: r) i (x + z) (by simp only [List.length_append, List.length_cons]; omega) (without h1 h3)
      refine ⟨ws', s', a1, fun _ => a2 (by simp), ?_, a4, by omega⟩
      rw [a3, lst_without, lst_three]
end

/-! ### Floyd and Warshall -/
def fw (n : Nat) (a : Mat) (k : Nat) : Mat := (List.range k).foldl (through n) (made n fun i j => top (if i = j then some 0 else none) (entry a i j))
theorem fw_n (n : Nat) (a : Mat) : walks n a = fw n a n := rfl
theorem fw_succ (n : Nat) (a : Mat) (k : Nat) : fw n a (k + 1) = through n (fw n a k) k := by
  unfold fw
  rw [List.range_succ, List.foldl_append]
  rfl
theorem fw_zero (n : Nat) (a : Mat) : fw n a 0 = made n fun i j => top (if i = j then some 0 else none) (entry a i j) := rfl
theorem fw_sq (n : Nat) (a : Mat) : ∀ k, Sq n (fw n a k)
  | 0 => made_sq n _
  | k + 1 => by
    rw [fw_succ]
    exact made_sq n _
theorem walks_sq (n : Nat) (a : Mat) : Sq n (walks n a) := fw_sq n a n
theorem fw_step {n : Nat} {a : Mat} {k i j : Nat} (hi : i < n) (hj : j < n) : entry (fw n a (k + 1)) i j = top (entry (fw n a k) i j) (plus (entry (fw n a k) i k) (entry (fw n a k) k j)) := by
  rw [fw_succ]
  unfold through
  rw [entry_made hi hj]
theorem fw_sound {n : Nat} {a : Mat} : ∀ (k : Nat) {i j : Nat} {s : Int}, i < n → j < n → entry (fw n a k) i j = some s → ∃ l, Wk (entry a) l i j s
  | 0, i, j, s, hi, hj, e => by
    rw [fw_zero, entry_made hi hj] at e
    rcases top_cases (if i = j then some 0 else none) (entry a i j) with q | q
    · rw [q] at e
      by_cases h : i = j
      · rw [if_pos h] at e
        exact ⟨0, Wk.zero.mpr ⟨h, (Option.some.inj e).symm⟩⟩
      · rw [if_neg h] at e
        cases e
    · rw [q] at e
      exact ⟨1, Wk.one.mpr e⟩
  | k + 1, i, j, s, hi, hj, e => by
    rw [fw_step hi hj] at e
    rcases top_cases (entry (fw n a k) i j) (plus (entry (fw n a k) i k) (entry (fw n a k) k j)) with q | q
    · rw [q] at e
      exact fw_sound k hi hj e
    · rw [q] at e
      obtain ⟨x, y, e1, e2, rfl⟩ := plus_some.mp e
      have hk : k < n := (entry_out (fw_sq n a k) e1).2
      obtain ⟨l1, w1⟩ := fw_sound k hi hk e1
      obtain ⟨l2, w2⟩ := fw_sound k hk hj e2
      exact ⟨l1 + l2, w1.append w2⟩
theorem fw_mono {n : Nat} {a : Mat} {i j : Nat} (hi : i < n) (hj : j < n) : ∀ k, Le (entry (fw n a 0) i j) (entry (fw n a k) i j)
  | 0 => Le.refl _
  | k + 1 => by
    rw [fw_step hi hj]
    exact Le.trans (fw_mono hi hj k) (le_top_left _ _)
theorem fw_complete {n : Nat} {a : Mat} : ∀ (k : Nat) (vs : List Nat) (i j : Nat) (s : Int), k ≤ n → i < n → j < n → vs.Nodup → (∀ v ∈ vs, v < k) → pw (entry a) i (vs ++ [j]) = some s → Le (some s) (entry (fw n a k) i j)
  | 0, vs, i, j, s, _, hi, hj, nd, hv, e => by
    have : vs = [] := List.eq_nil_iff_forall_not_mem.mpr fun v h => absurd (hv v h) (Nat.not_lt_zero _)
    subst this
    have e : plus (entry a i j) (some 0) = some s := e
    rw [plus_zero] at e
    rw [fw_zero, entry_made hi hj, e]
    exact le_top_right _ _
  | k + 1, vs, i, j, s, hk, hi, hj, nd, hv, e => by
    rw [fw_step hi hj]
    by_cases hm : k ∈ vs
    · obtain ⟨l, r, q⟩ := List.append_of_mem hm
      subst q
      have e1 : l ++ k :: r ++ [j] = (l ++ [k]) ++ (r ++ [j]) := by simp
      rw [e1, pw_append i (l ++ [k]), lst_snoc] at e
      obtain ⟨x, y, h1, h2, rfl⟩ := plus_some.mp e
      have nd' := List.nodup_append.mp nd
      have ndr := List.nodup_cons.mp nd'.2.1
      have hl : ∀ v ∈ l, v < k := fun v h => by
        have h1 := hv v (List.mem_append_left _ h)
        have h2 : v ≠ k := nd'.2.2 v h k (List.mem_cons_self ..)
        omega
      have hr : ∀ v ∈ r, v < k := fun v h => by
        have h1 := hv v (List.mem_append_right _ (List.mem_cons_of_mem _ h))
        have h2 : v ≠ k := fun z => ndr.1 (z ▸ h)
        omega
      have hkn : k < n := hk
      have a1 := fw_complete k l i k x (by omega) hi hkn nd'.1 hl h1
      have a2 := fw_complete k r k j y (by omega) hkn hj ndr.2 hr h2
      exact Le.trans (plus_mono (a := some x) (c := some y) a1 a2) (le_top_right _ _)
    · have hv' : ∀ v ∈ vs, v < k := fun v h => by
        have h1 := hv v h
        have h2 : v ≠ k := fun z => hm (z ▸ h)
        omega
      exact Le.trans (fw_complete k vs i j s (by omega) hi hj nd hv' e) (le_top_left _ _)
theorem walks_sound {n : Nat} {a : Mat} {i j : Nat} {s : Int} (e : entry (walks n a) i j = some s) : ∃ l, Wk (entry a) l i j s :=
  have h := entry_out (walks_sq n a) e
  fw_sound n h.1 h.2 e
theorem walks_nodup {n : Nat} {a : Mat} (ha : Sq n a) {ws : List Nat} {i : Nat} {s : Int} (hi : i < n) (nd : ws.Nodup) (e : pw (entry a) i ws = some s) : Le (some s) (entry (walks n a) i (lst i ws)) := by
  rcases nil_or_last ws with rfl | ⟨vs, j, rfl⟩
  · have : s = 0 := (Option.some.inj e).symm
    subst this
    refine Le.trans ?_ (fw_mono hi hi n)
    rw [fw_zero, entry_made hi hi, if_pos rfl]
    exact le_top_left _ _
  · rw [lst_snoc]
    have hb := pw_bd (Bd.of ha) e
    have hj : j < n := hb j (by simp)
    have nd' := List.nodup_append.mp nd
    exact fw_complete n vs i j s (Nat.le_refl _) hi hj nd'.1 (fun v h => hb v (List.mem_append_left _ h)) e

/-! ### no circle above 0 -/
def levels (n : Nat) (a : Mat) : List Mat := (List.range n).map fun k => pow n a (k + 1)
/-- by the walks of length 1 to n -/
def NoGain (n : Nat) (a : Mat) : Prop := ∀ k i s, 1 ≤ k → k ≤ n → i < n → entry (pow n a k) i i = some s → s ≤ 0
theorem simple_le {n : Nat} {a : Mat} (ha : Sq n a) (h : NoGain n a) : ∀ ws i s, ws ≠ [] → ws.Nodup → lst i ws = i → pw (entry a) i ws = some s → s ≤ 0 := by
  intro ws i s h0 nd hl e
  have hb := pw_bd (Bd.of ha) e
  have hi : i < n := by
    cases ws with
    | nil => exact absurd rfl h0
    | cons w ws =>
      rw [← hl]
      exact hb _ (lst_mem i w ws)
  have hk := nodup_len n ws nd hb
  have w : Wk (entry a) ws.length i i s := ⟨ws, rfl, hl, e⟩
  obtain ⟨y, e1, e2⟩ := ((pow_wk ha ws.length hi hi).2 s w).of_some
  have := h ws.length i y (by cases ws with | nil => exact absurd rfl h0 | cons => simp) hk hi e1
  omega
theorem NoGain.circ {n : Nat} {a : Mat} (ha : Sq n a) (h : NoGain n a) : ∀ ws i s, lst i ws = i → pw (entry a) i ws = some s → s ≤ 0 := fun ws i s hl e => circ_le (simple_le ha h) ws.length ws i s (Nat.le_refl _) hl e
/-- without a circle above 0 the table is the greatest of all walks -/
theorem walks_sup {n : Nat} {a : Mat} (ha : Sq n a) (h : NoGain n a) {i j : Nat} (hi : i < n) : IsSup (fun s => ∃ k, Wk (entry a) k i j s) (entry (walks n a) i j) := by
  constructor
  · intro s e
    exact walks_sound e
  · rintro s ⟨k, ws, _, hl, e⟩
    obtain ⟨ws', s', a1, _, a3, a4, a5⟩ := shortcut (h.circ ha) ws.length ws i s (Nat.le_refl _) e
    have q := walks_nodup ha hi a1 a4
    rw [a3, hl] at q
    exact Le.trans (show Le (some s) (some s') from a5) q
theorem grows_iff {n : Nat} {a : Mat} (ha : Sq n a) : grows n a = true ↔ ¬ NoGain n a := by
  unfold grows
  rw [List.any_eq_true]
  constructor
  · rintro ⟨i, hi, e⟩ h
    rw [List.mem_range] at hi
    cases q : entry (walks n a) i i with
    | none =>
      rw [q] at e
      cases e
    | some x =>
      rw [q] at e
      have hx : 0 < x := of_decide_eq_true e
      obtain ⟨l, ws, _, hl, e⟩ := walks_sound q
      have := h.circ ha ws i x hl e
      omega
  · intro h
    have h2 : ¬ ∀ ws i s, ws ≠ [] → ws.Nodup → lst i ws = i → pw (entry a) i ws = some s → s ≤ 0 := fun z => h fun k i s _ _ hi e => by
      obtain ⟨ws, _, hl, e2⟩ := (pow_wk ha k hi hi).1 s e
      exact circ_le z ws.length ws i s (Nat.le_refl _) hl e2
    obtain ⟨ws, h2⟩ := Classical.not_forall.mp h2
    obtain ⟨i, h2⟩ := Classical.not_forall.mp h2
    obtain ⟨s, h2⟩ := Classical.not_forall.mp h2
    have h3 : ws ≠ [] ∧ ws.Nodup ∧ lst i ws = i ∧ pw (entry a) i ws = some s ∧ ¬ s ≤ 0 := by
      refine ⟨fun z => h2 fun q => absurd z q, Classical.byContradiction fun z => h2 fun _ q => absurd q z, Classical.byContradiction fun z => h2 fun _ _ q => absurd q z, Classical.byContradiction fun z => h2 fun _ _ _ q => absurd q z, fun z => h2 fun _ _ _ _ => z⟩
    obtain ⟨b1, b2, b3, b4, b5⟩ := h3
    have hi : i < n := by
      cases ws with
      | nil => exact absurd rfl b1
      | cons w ws =>
        rw [← b3]
        exact pw_bd (Bd.of ha) b4 _ (lst_mem i w ws)
    refine ⟨i, List.mem_range.mpr hi, ?_⟩
    have q := walks_nodup ha hi b2 b4
    rw [b3] at q
    obtain ⟨y, e1, e2⟩ := q.of_some
    rw [e1]
    exact decide_eq_true (by omega)

/-! ### the greatest of the walks of length 0 to n -/
def both (n : Nat) (a b : Mat) : Mat := made n fun i j => top (entry a i j) (entry b i j)
def closed (n : Nat) (a : Mat) : Mat := (levels n a).foldl (both n) (one n)
theorem both_sq (n : Nat) (a b : Mat) : Sq n (both n a b) := made_sq n _
theorem both_sup {n : Nat} {a b : Mat} {P Q : Int → Prop} {i j : Nat} (hi : i < n) (hj : j < n) (ha : IsSup P (entry a i j)) (hb : IsSup Q (entry b i j)) : IsSup (fun s => P s ∨ Q s) (entry (both n a b) i j) := by
  unfold both
  rw [entry_made hi hj]
  constructor
  · intro s e
    rcases top_cases (entry a i j) (entry b i j) with q | q
    · rw [q] at e
      exact .inl (ha.1 s e)
    · rw [q] at e
      exact .inr (hb.1 s e)
  · rintro s (p | q)
    · exact Le.trans (ha.2 s p) (le_top_left _ _)
    · exact Le.trans (hb.2 s q) (le_top_right _ _)
/-- of any start -/
theorem foldl_both_sq {n : Nat} : ∀ (l : List Mat) {b : Mat}, Sq n b → Sq n (l.foldl (both n) b)
  | [], _, h => h
  | _ :: l, _, _ => foldl_both_sq l (both_sq n _ _)
theorem foldl_levels {n : Nat} {a b : Mat} (ha : Sq n a) {P : Nat → Nat → Int → Prop} (hb : ∀ i j, i < n → j < n → IsSup (P i j) (entry b i j)) {i j : Nat} (hi : i < n) (hj : j < n) : ∀ m, IsSup (fun s => P i j s ∨ ∃ k, 1 ≤ k ∧ k ≤ m ∧ Wk (entry a) k i j s) (entry (((List.range m).map fun k => pow n a (k + 1)).foldl (both n) b) i j)
  | 0 => by
    refine (hb i j hi hj).congr fun s => ⟨fun h => .inl h, fun h => ?_⟩
    rcases h with h | ⟨k, h1, h2, _⟩
    · exact h
    · omega
  | m + 1 => by
    rw [List.range_succ, List.map_append, List.foldl_append]
    refine (both_sup hi hj (foldl_levels ha hb hi hj m) (pow_wk ha (m + 1) hi hj)).congr fun s => ?_
    constructor
    · rintro ((h | ⟨k, h1, h2, h3⟩) | h)
      · exact .inl h
      · exact .inr ⟨k, h1, by omega, h3⟩
      · exact .inr ⟨m + 1, by omega, by omega, h⟩
    · rintro (h | ⟨k, h1, h2, h3⟩)
      · exact .inl (.inl h)
      · by_cases hk : k ≤ m
        · exact .inl (.inr ⟨k, h1, hk, h3⟩)
        · have : k = m + 1 := by omega
          subst this
          exact .inr h3
theorem closed_sq (n : Nat) (a : Mat) : Sq n (closed n a) := foldl_both_sq _ (one_sq n)
theorem closed_sup {n : Nat} {a : Mat} (ha : Sq n a) {i j : Nat} (hi : i < n) (hj : j < n) : IsSup (fun s => ∃ k, k ≤ n ∧ Wk (entry a) k i j s) (entry (closed n a) i j) := by
  refine (foldl_levels ha (fun i j p q => one_sup (f := entry a) p q) hi hj n).congr fun s => ?_
  constructor
  · rintro (h | ⟨k, _, h2, h3⟩)
    · exact ⟨0, Nat.zero_le _, h⟩
    · exact ⟨k, h2, h3⟩
  · rintro ⟨k, h2, h3⟩
    cases k with
    | zero => exact .inl h3
    | succ k => exact .inr ⟨k + 1, by omega, h2, h3⟩
/-- **the table and the closing agree** -/
theorem closed_eq {n : Nat} {a : Mat} (ha : Sq n a) (h : NoGain n a) : closed n a = walks n a := by
  refine mat_ext (closed_sq n a) (walks_sq n a) fun i j hi hj => IsSup.unique (P := fun s => ∃ k, Wk (entry a) k i j s) ?_ (walks_sup ha h hi)
  have c := closed_sup ha hi hj
  constructor
  · intro s e
    obtain ⟨k, _, w⟩ := c.1 s e
    exact ⟨k, w⟩
  · rintro s ⟨k, ws, _, hl, e⟩
    obtain ⟨ws', s', a1, _, a3, a4, a5⟩ := shortcut (h.circ ha) ws.length ws i s (Nat.le_refl _) e
    have hb := pw_bd (Bd.of ha) a4
    refine Le.trans (show Le (some s) (some s') from a5) (c.2 s' ⟨ws'.length, nodup_len n ws' a1 hb, ws', rfl, ?_, a4⟩)
    rw [a3, hl]
def above (x : Num) : Bool := match x with
  | some z => decide (0 < z)
  | none => false
/-- some circle's sum is above 0, by the walks of each length -/
def gain (l : List Mat) : Bool := l.any fun m => (List.range m.length).any fun i => above (entry m i i)
theorem levels_sq {n : Nat} {a m : Mat} (h : m ∈ levels n a) : Sq n m := by
  obtain ⟨k, _, rfl⟩ := List.mem_map.mp h
  exact pow_sq n a _
theorem gain_iff {n : Nat} {a : Mat} : gain (levels n a) = true ↔ ¬ NoGain n a := by
  unfold gain
  rw [List.any_eq_true]
  constructor
  · rintro ⟨m, hm, e⟩ h
    have hs := (levels_sq hm).1
    obtain ⟨k, hk, rfl⟩ := List.mem_map.mp hm
    rw [List.mem_range] at hk
    rw [List.any_eq_true] at e
    obtain ⟨i, hi, e⟩ := e
    rw [List.mem_range, hs] at hi
    cases q : entry (pow n a (k + 1)) i i with
    | none =>
      rw [q] at e
      cases e
    | some z =>
      rw [q] at e
      have e : 0 < z := of_decide_eq_true e
      have := h (k + 1) i z (by omega) (by omega) hi q
      omega
  · intro h
    refine Classical.byContradiction fun z => h fun k i s h1 h2 hi e => ?_
    refine Classical.byContradiction fun hs => z ⟨pow n a k, ?_, ?_⟩
    · refine List.mem_map.mpr ⟨k - 1, List.mem_range.mpr (by omega), ?_⟩
      rw [Nat.sub_add_cancel h1]
    · rw [List.any_eq_true]
      refine ⟨i, List.mem_range.mpr (by rw [(pow_sq n a k).1]; exact hi), ?_⟩
      rw [e]
      exact decide_eq_true (by omega)
/-- **star**: what the specification answers -/
theorem star_eq {n : Nat} {a : Mat} (ha : Sq n a) : (if (star n a).isSome = true then (⟨1, (walks n a).flatten, []⟩ : Ans) else only 0) = if gain (levels n a) = true then only 0 else ⟨1, (closed n a).flatten, []⟩ := by
  by_cases h : gain (levels n a) = true
  · have g := (grows_iff ha).mpr (gain_iff.mp h)
    have : star n a = none := if_pos g
    rw [this, if_pos h]
    rfl
  · have ng : NoGain n a := Classical.byContradiction fun z => h (gain_iff.mpr z)
    have g : ¬ grows n a = true := fun z => (grows_iff ha).mp z ng
    have : star n a = some (walks n a) := if_neg g
    rw [this, if_neg h, closed_eq ha ng]
    rfl
end WsM

set_option Elab.async false
namespace WsM
open Rb23

/-! ### means -/
abbrev Mean := Int × Nat
/-- a mean is greater than another one, or that one is none -/
def isGr (m : Mean) : Option Mean → Bool
  | none => true
  | some o => greater m o
def keep (f : Option Mean) (m : Mean) : Option Mean := if isGr m f = true then some m else f
def sel (l : List Mean) : Option Mean := l.foldl keep none
def Mle (a b : Mean) : Prop := a.1 * (b.2 : Int) ≤ b.1 * (a.2 : Int)
theorem Mle.refl (a : Mean) : Mle a a := Int.le_refl _
theorem Mle.trans {a b c : Mean} (hb : 0 < b.2) (h : Mle a b) (k : Mle b c) : Mle a c := by
  have hb' : (0 : Int) < (b.2 : Int) := by omega
  have h1 : a.1 * (b.2 : Int) * (c.2 : Int) ≤ b.1 * (a.2 : Int) * (c.2 : Int) := Int.mul_le_mul_of_nonneg_right h (by omega)
  have h2 : b.1 * (c.2 : Int) * (a.2 : Int) ≤ c.1 * (b.2 : Int) * (a.2 : Int) := Int.mul_le_mul_of_nonneg_right k (by omega)
  refine Int.le_of_mul_le_mul_right (a := (b.2 : Int)) ?_ hb'
  calc a.1 * (c.2 : Int) * (b.2 : Int) = a.1 * (b.2 : Int) * (c.2 : Int) := by rw [Int.mul_assoc, Int.mul_comm (c.2 : Int), ← Int.mul_assoc]
    _ ≤ b.1 * (a.2 : Int) * (c.2 : Int) := h1
    _ = b.1 * (c.2 : Int) * (a.2 : Int) := by rw [Int.mul_assoc, Int.mul_comm (a.2 : Int), ← Int.mul_assoc]
    _ ≤ c.1 * (b.2 : Int) * (a.2 : Int) := h2
    _ = c.1 * (a.2 : Int) * (b.2 : Int) := by rw [Int.mul_assoc, Int.mul_comm (b.2 : Int), ← Int.mul_assoc]
theorem Mle.total (a b : Mean) : Mle a b ∨ Mle b a := Int.le_total _ _
theorem not_greater {a b : Mean} (h : ¬ greater a b = true) : Mle a b := by
  unfold greater at h
  rw [decide_eq_true_eq] at h
  exact Int.not_lt.mp h
theorem greater_le {a b : Mean} (h : greater a b = true) : Mle b a := by
  unfold greater at h
  rw [decide_eq_true_eq] at h
  exact Int.le_of_lt h
/-- b is one of l, none is greater -/
def Best (l : List Mean) (b : Mean) : Prop := b ∈ l ∧ ∀ m ∈ l, Mle m b
theorem foldl_keep : ∀ (l : List Mean) (f : Mean), (∀ m ∈ l, 0 < m.2) → 0 < f.2 → ∃ b, l.foldl keep (some f) = some b ∧ Best (f :: l) b
  | [], f, _, _ => ⟨f, rfl, List.mem_cons_self .., fun m hm => by
      rw [List.mem_singleton] at hm
      rw [hm]
      exact Mle.refl f⟩
  | x :: l, f, h, hf => by
    have hx := h x (List.mem_cons_self ..)
    have hl : ∀ m ∈ l, 0 < m.2 := fun m hm => h m (List.mem_cons_of_mem _ hm)
    show ∃ b, l.foldl keep (keep (some f) x) = some b ∧ _
    unfold keep isGr
    by_cases g : greater x f = true
    · rw [if_pos g]
      obtain ⟨b, e, h1, h2⟩ := foldl_keep l x hl hx
      refine ⟨b, e, List.mem_cons_of_mem _ h1, fun m hm => ?_⟩
      rcases List.mem_cons.mp hm with rfl | hm
      · exact Mle.trans hx (greater_le g) (h2 x (List.mem_cons_self ..))
      · exact h2 m hm
    · rw [if_neg g]
      obtain ⟨b, e, h1, h2⟩ := foldl_keep l f hl hf
      refine ⟨b, e, ?_, fun m hm => ?_⟩
      · rcases List.mem_cons.mp h1 with rfl | h1
        · exact List.mem_cons_self ..
        · exact List.mem_cons_of_mem _ (List.mem_cons_of_mem _ h1)
      · rcases List.mem_cons.mp hm with rfl | hm
        · exact h2 m (List.mem_cons_self ..)
        · rcases List.mem_cons.mp hm with rfl | hm
          · exact Mle.trans hf (not_greater g) (h2 f (List.mem_cons_self ..))
          · exact h2 m (List.mem_cons_of_mem _ hm)
theorem sel_nil {l : List Mean} (h : ∀ m ∈ l, 0 < m.2) (e : sel l = none) : l = [] := by
  cases l with
  | nil => rfl
  | cons x l =>
    obtain ⟨b, q, _⟩ := foldl_keep l x (fun m hm => h m (List.mem_cons_of_mem _ hm)) (h x (List.mem_cons_self ..))
    have e : l.foldl keep (some x) = none := e
    rw [q] at e
    cases e
theorem sel_best {l : List Mean} {b : Mean} (h : ∀ m ∈ l, 0 < m.2) (e : sel l = some b) : Best l b := by
  cases l with
  | nil => cases e
  | cons x l =>
    obtain ⟨c, q, k⟩ := foldl_keep l x (fun m hm => h m (List.mem_cons_of_mem _ hm)) (h x (List.mem_cons_self ..))
    have e : l.foldl keep (some x) = some b := e
    rw [q] at e
    cases e
    exact k
theorem greatest_best : ∀ {l : List Mean} {b : Mean}, (∀ m ∈ l, 0 < m.2) → greatest l = some b → Best l b
  | x :: l, b, h, e => by
    have hx := h x (List.mem_cons_self ..)
    have hl : ∀ m ∈ l, 0 < m.2 := fun m hm => h m (List.mem_cons_of_mem _ hm)
    unfold greatest at e
    cases q : greatest l with
    | none =>
      rw [q] at e
      cases e
      have : l = [] := by
        cases l with
        | nil => rfl
        | cons y l =>
          unfold greatest at q
          split at q <;> cases q
      subst this
      exact ⟨List.mem_cons_self .., fun m hm => by rw [List.mem_singleton.mp hm]; exact Mle.refl _⟩
    | some y =>
      rw [q] at e
      have ih := greatest_best hl q
      have hy := hl y ih.1
      have e : (if greater y x = true then y else x) = b := Option.some.inj e
      by_cases g : greater y x = true
      · rw [if_pos g] at e
        subst e
        refine ⟨List.mem_cons_of_mem _ ih.1, fun m hm => ?_⟩
        rcases List.mem_cons.mp hm with rfl | hm
        · exact greater_le g
        · exact ih.2 m hm
      · rw [if_neg g] at e
        subst e
        refine ⟨List.mem_cons_self .., fun m hm => ?_⟩
        rcases List.mem_cons.mp hm with rfl | hm
        · exact Mle.refl _
        · exact Mle.trans hy (ih.2 m hm) (not_greater g)
theorem greatest_none {l : List Mean} (e : greatest l = none) : l = [] := by
  cases l with
  | nil => rfl
  | cons x l =>
    unfold greatest at e
    split at e <;> cases e

/-! ### lowest terms -/
def lowest (x : Mean) : Mean := (x.1 / ((Nat.gcd x.1.natAbs x.2 : Nat) : Int), x.2 / Nat.gcd x.1.natAbs x.2)
theorem lowest_pos {x : Mean} (h : 0 < x.2) : 0 < (lowest x).2 := Nat.div_pos (Nat.le_of_dvd h (Nat.gcd_dvd_right _ _)) (Nat.gcd_pos_of_pos_right _ h)
theorem lowest_le {x : Mean} (h : 0 < x.2) : (lowest x).2 ≤ x.2 := Nat.div_le_self _ _
theorem lowest_mul {x : Mean} : x.1 = ((Nat.gcd x.1.natAbs x.2 : Nat) : Int) * (lowest x).1 ∧ x.2 = Nat.gcd x.1.natAbs x.2 * (lowest x).2 := by
  constructor
  · refine (Int.mul_ediv_cancel' ?_).symm
    exact Int.ofNat_dvd_left.mpr (Nat.gcd_dvd_left _ _)
  · exact (Nat.mul_div_cancel' (Nat.gcd_dvd_right _ _)).symm
/-- of one value -/
theorem lowest_cross {x : Mean} : x.1 * ((lowest x).2 : Int) = (lowest x).1 * (x.2 : Int) := by
  obtain ⟨h1, h2⟩ := lowest_mul (x := x)
  generalize hg : Nat.gcd x.1.natAbs x.2 = g at h1 h2
  have h2' : (x.2 : Int) = (g : Int) * ((lowest x).2 : Int) := by
    have := congrArg (Nat.cast : Nat → Int) h2
    rwa [Int.natCast_mul] at this
  rw [h2']
  conv => lhs; rw [h1]
  rw [Int.mul_assoc, Int.mul_left_comm]
theorem lowest_eq {x y : Mean} (hx : 0 < x.2) (hy : 0 < y.2) (e : x.1 * (y.2 : Int) = y.1 * (x.2 : Int)) : lowest x = lowest y := by
  have en : x.1.natAbs * y.2 = y.1.natAbs * x.2 := by
    have := congrArg Int.natAbs e
    rw [Int.natAbs_mul, Int.natAbs_mul] at this
    exact this
  have eg : Nat.gcd x.1.natAbs x.2 * y.2 = Nat.gcd y.1.natAbs y.2 * x.2 := by
    rw [← Nat.gcd_mul_right, ← Nat.gcd_mul_right, en, Nat.mul_comm x.2 y.2]
  obtain ⟨x1, x2⟩ := lowest_mul (x := x)
  obtain ⟨y1, y2⟩ := lowest_mul (x := y)
  have gx : 0 < Nat.gcd x.1.natAbs x.2 := Nat.gcd_pos_of_pos_right _ hx
  have gy : 0 < Nat.gcd y.1.natAbs y.2 := Nat.gcd_pos_of_pos_right _ hy
  generalize Nat.gcd x.1.natAbs x.2 = g at *
  generalize Nat.gcd y.1.natAbs y.2 = k at *
  have e2 : (lowest x).2 = (lowest y).2 := by
    rw [x2, y2] at eg
    have : g * k * (lowest y).2 = g * k * (lowest x).2 := by
      rw [Nat.mul_assoc, eg, Nat.mul_left_comm, Nat.mul_assoc]
    exact (Nat.eq_of_mul_eq_mul_left (Nat.mul_pos gx gy) this).symm
  have px := lowest_pos hx
  have e1 : (lowest x).1 = (lowest y).1 := by
    have c1 := lowest_cross (x := x)
    have c2 := lowest_cross (x := y)
    -- (lowest x).1 * x.2 * y.2 = (lowest y).1 * x.2 * y.2
    have h : (lowest x).1 * ((x.2 : Int) * (y.2 : Int)) = (lowest y).1 * ((x.2 : Int) * (y.2 : Int)) := by
      calc (lowest x).1 * ((x.2 : Int) * (y.2 : Int)) = (lowest x).1 * (x.2 : Int) * (y.2 : Int) := (Int.mul_assoc _ _ _).symm
        _ = x.1 * ((lowest x).2 : Int) * (y.2 : Int) := by rw [c1]
        _ = x.1 * (y.2 : Int) * ((lowest x).2 : Int) := by rw [Int.mul_assoc, Int.mul_comm ((lowest x).2 : Int), ← Int.mul_assoc]
        _ = y.1 * (x.2 : Int) * ((lowest y).2 : Int) := by rw [e, e2]
        _ = y.1 * ((lowest y).2 : Int) * (x.2 : Int) := by rw [Int.mul_assoc, Int.mul_comm (x.2 : Int), ← Int.mul_assoc]
        _ = (lowest y).1 * (y.2 : Int) * (x.2 : Int) := by rw [c2]
        _ = (lowest y).1 * ((x.2 : Int) * (y.2 : Int)) := by rw [Int.mul_assoc, Int.mul_comm (y.2 : Int)]
    exact Int.eq_of_mul_eq_mul_right (Int.ne_of_gt (Int.mul_pos (by omega) (by omega))) h
  exact Prod.ext e1 e2
theorem best_lowest {l l' : List Mean} {b b' : Mean} (hl : ∀ m ∈ l, 0 < m.2) (hm : ∀ m, m ∈ l ↔ m ∈ l') (h : Best l b) (h' : Best l' b') : lowest b = lowest b' :=
  lowest_eq (hl b h.1) (hl b' ((hm b').mpr h'.1)) (Int.le_antisymm (h'.2 b ((hm b).mp h.1)) (h.2 b' ((hm b').mpr h'.1)))

/-! ### the program's means, by the levels -/
/-- the sums of the circles through a thing, with their lengths -/
def cand (ls : List Mat) (i : Nat) : List Mean := ((List.range ls.length).zip ls).filterMap fun p => (entry p.2 i i).map fun s => (s, p.1 + 1)
def meanThrough (ls : List Mat) (i : Nat) : Option Mean := sel (cand ls i)
def greatestMean (ls : List Mat) : Option Mean := (sel ((List.range ls.length).filterMap (meanThrough ls))).map lowest
def thingsOn (ls : List Mat) (q : Mean) : List Nat := (List.range ls.length).filter fun i => match meanThrough ls i with
  | some t => t.1 * (q.2 : Int) == q.1 * (t.2 : Int)
  | none => false
theorem cand_pos {ls : List Mat} {i : Nat} : ∀ m ∈ cand ls i, 0 < m.2 := fun m hm => by
  obtain ⟨p, _, e⟩ := List.mem_filterMap.mp hm
  obtain ⟨s, _, rfl⟩ := Option.map_eq_some_iff.mp e
  exact Nat.succ_pos _
theorem cand_le {ls : List Mat} {i : Nat} : ∀ m ∈ cand ls i, m.2 ≤ ls.length := fun m hm => by
  obtain ⟨p, hp, e⟩ := List.mem_filterMap.mp hm
  obtain ⟨s, _, rfl⟩ := Option.map_eq_some_iff.mp e
  have := List.mem_range.mp (List.of_mem_zip (a := p.1) (b := p.2) hp).1
  exact this
theorem levels_zip (n : Nat) (a : Mat) : (List.range (levels n a).length).zip (levels n a) = (List.range n).map fun k => (k, pow n a (k + 1)) := by
  have hl : (levels n a).length = n := by simp [levels]
  rw [hl]
  apply List.ext_getElem
  · simp [hl]
  · intro i h1 h2
    simp [levels]
theorem levels_len (n : Nat) (a : Mat) : (levels n a).length = n := by simp [levels]
theorem mem_cand {n : Nat} {a : Mat} {i : Nat} {m : Mean} : m ∈ cand (levels n a) i ↔ ∃ k, 1 ≤ k ∧ k ≤ n ∧ entry (pow n a k) i i = some m.1 ∧ m.2 = k := by
  unfold cand
  rw [levels_zip, List.mem_filterMap]
  constructor
  · rintro ⟨p, hp, e⟩
    obtain ⟨k, hk, rfl⟩ := List.mem_map.mp hp
    obtain ⟨s, h1, rfl⟩ := Option.map_eq_some_iff.mp e
    rw [List.mem_range] at hk
    exact ⟨k + 1, by omega, by omega, h1, rfl⟩
  · rintro ⟨k, h1, h2, h3, h4⟩
    refine ⟨(k - 1, pow n a k), List.mem_map.mpr ⟨k - 1, List.mem_range.mpr (by omega), by rw [Nat.sub_add_cancel h1]⟩, ?_⟩
    show (entry (pow n a k) i i).map _ = some m
    rw [h3]
    show some (m.1, k - 1 + 1) = some m
    rw [Nat.sub_add_cancel h1, ← h4]
/-- the powers of the specification, by their places -/
theorem powers_zip (n : Nat) (a : Mat) (k : Nat) : (powers n a k).zipIdx.drop 1 = (List.range k).map fun i => (pow n a (i + 1), i + 1) := by
  rw [powers_eq]
  apply List.ext_getElem
  · simp
  · intro i h1 h2
    simp [Nat.add_comm]
theorem mem_circles {n : Nat} {a : Mat} {m : Mean} : m ∈ circles n a ↔ ∃ i, i < n ∧ m ∈ cand (levels n a) i := by
  unfold circles
  rw [powers_zip, List.mem_flatMap]
  constructor
  · rintro ⟨p, hp, e⟩
    obtain ⟨k, hk, rfl⟩ := List.mem_map.mp hp
    obtain ⟨i, hi, e⟩ := List.mem_filterMap.mp e
    obtain ⟨s, h1, rfl⟩ := Option.map_eq_some_iff.mp e
    rw [List.mem_range] at hk hi
    exact ⟨i, hi, mem_cand.mpr ⟨k + 1, by omega, by omega, h1, rfl⟩⟩
  · rintro ⟨i, hi, hm⟩
    obtain ⟨k, h1, h2, h3, h4⟩ := mem_cand.mp hm
    refine ⟨(pow n a k, k), List.mem_map.mpr ⟨k - 1, List.mem_range.mpr (by omega), by rw [Nat.sub_add_cancel h1]⟩, List.mem_filterMap.mpr ⟨i, List.mem_range.mpr hi, ?_⟩⟩
    show (entry (pow n a k) i i).map _ = some m
    rw [h3, ← h4]
    rfl
theorem circles_pos {n : Nat} {a : Mat} : ∀ m ∈ circles n a, 0 < m.2 := fun m hm => by
  obtain ⟨i, _, h⟩ := mem_circles.mp hm
  exact cand_pos m h
/-- the greatest of the greatest through each thing is greatest of all -/
theorem through_best {n : Nat} {a : Mat} {b : Mean} (h : sel ((List.range n).filterMap (meanThrough (levels n a))) = some b) : Best (circles n a) b := by
  have hp : ∀ m ∈ (List.range n).filterMap (meanThrough (levels n a)), 0 < m.2 := fun m hm => by
    obtain ⟨i, _, e⟩ := List.mem_filterMap.mp hm
    exact cand_pos m (sel_best cand_pos e).1
  have hb := sel_best hp h
  obtain ⟨i, hi, e⟩ := List.mem_filterMap.mp hb.1
  rw [List.mem_range] at hi
  refine ⟨mem_circles.mpr ⟨i, hi, (sel_best cand_pos e).1⟩, fun m hm => ?_⟩
  obtain ⟨j, hj, hm⟩ := mem_circles.mp hm
  cases q : meanThrough (levels n a) j with
  | none =>
    rw [sel_nil cand_pos q] at hm
    cases hm
  | some t =>
    have ht := sel_best cand_pos q
    exact Mle.trans (cand_pos t ht.1) (ht.2 m hm) (hb.2 t (List.mem_filterMap.mpr ⟨j, List.mem_range.mpr hj, q⟩))
theorem mean_eq (n : Nat) (a : Mat) : greatestMean (levels n a) = mean n a := by
  unfold greatestMean mean
  rw [levels_len]
  cases q : sel ((List.range n).filterMap (meanThrough (levels n a))) with
  | none =>
    have hp : ∀ m ∈ (List.range n).filterMap (meanThrough (levels n a)), 0 < m.2 := fun m hm => by
      obtain ⟨i, _, e⟩ := List.mem_filterMap.mp hm
      exact cand_pos m (sel_best cand_pos e).1
    have h0 := sel_nil hp q
    have : circles n a = [] := List.eq_nil_iff_forall_not_mem.mpr fun m hm => by
      obtain ⟨i, hi, hm⟩ := mem_circles.mp hm
      cases z : meanThrough (levels n a) i with
      | none =>
        rw [sel_nil cand_pos z] at hm
        cases hm
      | some t =>
        have : t ∈ (List.range n).filterMap (meanThrough (levels n a)) := List.mem_filterMap.mpr ⟨i, List.mem_range.mpr hi, z⟩
        rw [h0] at this
        cases this
    rw [this]
    rfl
  | some b =>
    have hb := through_best q
    cases z : greatest (circles n a) with
    | none =>
      have := greatest_none z
      rw [this] at hb
      exact absurd hb.1 (List.not_mem_nil)
    | some c =>
      have hc := greatest_best circles_pos z
      show some (lowest b) = some (lowest c)
      rw [best_lowest circles_pos (fun _ => Iff.rfl) hb hc]
/-- what the mean is: of a circle, and none is greater -/
theorem mean_best {n : Nat} {a : Mat} {q : Mean} (h : mean n a = some q) : 0 < q.2 ∧ q.2 ≤ n ∧ (∃ m ∈ circles n a, m.1 * (q.2 : Int) = q.1 * (m.2 : Int)) ∧ ∀ m ∈ circles n a, m.1 * (q.2 : Int) ≤ q.1 * (m.2 : Int) := by
  unfold mean at h
  obtain ⟨b, hb, rfl⟩ := Option.map_eq_some_iff.mp h
  have hb := greatest_best circles_pos hb
  have hp := circles_pos b hb.1
  show 0 < (lowest b).2 ∧ (lowest b).2 ≤ n ∧ (∃ m ∈ circles n a, m.1 * ((lowest b).2 : Int) = (lowest b).1 * (m.2 : Int)) ∧ ∀ m ∈ circles n a, m.1 * ((lowest b).2 : Int) ≤ (lowest b).1 * (m.2 : Int)
  have hn : b.2 ≤ n := by
    obtain ⟨i, _, hm⟩ := mem_circles.mp hb.1
    have := cand_le b hm
    rwa [levels_len] at this
  refine ⟨lowest_pos hp, Nat.le_trans (lowest_le hp) hn, ⟨b, hb.1, lowest_cross⟩, fun m hm => ?_⟩
  exact Mle.trans (c := lowest b) hp (hb.2 m hm) (Int.le_of_eq lowest_cross)
theorem mean_none {n : Nat} {a : Mat} (h : mean n a = none) : circles n a = [] := by
  unfold mean at h
  exact greatest_none (Option.map_eq_none_iff.mp h)
/-- a thing lies on a circle of the greatest mean -/
theorem on_iff {n : Nat} {a : Mat} {q : Mean} (h : mean n a = some q) {i : Nat} (hi : i < n) : (match meanThrough (levels n a) i with
    | some t => t.1 * (q.2 : Int) == q.1 * (t.2 : Int)
    | none => false) = true ↔ ∃ m ∈ cand (levels n a) i, m.1 * (q.2 : Int) = q.1 * (m.2 : Int) := by
  obtain ⟨hq, _, _, hall⟩ := mean_best h
  cases z : meanThrough (levels n a) i with
  | none =>
    have := sel_nil cand_pos z
    rw [this]
    simp
  | some t =>
    have ht := sel_best cand_pos z
    constructor
    · intro e
      exact ⟨t, ht.1, eq_of_beq e⟩
    · rintro ⟨m, hm, e⟩
      refine beq_iff_eq.mpr ?_
      have h1 : Mle q t := Mle.trans (cand_pos m hm) (show Mle q m from Int.le_of_eq e.symm) (ht.2 m hm)
      exact Int.le_antisymm (hall t (mem_circles.mpr ⟨i, hi, ht.1⟩)) h1
theorem critical_eq {n : Nat} {a : Mat} {q : Mean} (h : mean n a = some q) : thingsOn (levels n a) q = critical n a := by
  unfold thingsOn critical
  rw [h, levels_len, powers_zip]
  dsimp only
  refine List.filter_congr fun i hi => ?_
  rw [List.mem_range] at hi
  rw [Bool.eq_iff_iff, on_iff h hi, List.any_eq_true]
  constructor
  · rintro ⟨m, hm, e⟩
    obtain ⟨k, h1, h2, h3, h4⟩ := mem_cand.mp hm
    refine ⟨(pow n a k, k), List.mem_map.mpr ⟨k - 1, List.mem_range.mpr (by omega), by rw [Nat.sub_add_cancel h1]⟩, ?_⟩
    dsimp only
    rw [h3]
    rw [h4] at e
    exact beq_iff_eq.mpr e
  · rintro ⟨p, hp, e⟩
    obtain ⟨k, hk, rfl⟩ := List.mem_map.mp hp
    rw [List.mem_range] at hk
    dsimp only at e
    cases z : entry (pow n a (k + 1)) i i with
    | none =>
      rw [z] at e
      cases e
    | some s =>
      rw [z] at e
      exact ⟨(s, k + 1), mem_cand.mpr ⟨k + 1, by omega, by omega, z, rfl⟩, eq_of_beq e⟩

theorem through_le {ls : List Mat} {i : Nat} {m : Mean} (h : meanThrough ls i = some m) : 0 < m.2 ∧ m.2 ≤ ls.length :=
  have hb := sel_best cand_pos h
  ⟨cand_pos m hb.1, cand_le m hb.1⟩
theorem sel_through_le {ls : List Mat} {r : List Nat} {m : Mean} (h : sel (r.filterMap (meanThrough ls)) = some m) : 0 < m.2 ∧ m.2 ≤ ls.length := by
  have hp : ∀ c ∈ r.filterMap (meanThrough ls), 0 < c.2 ∧ c.2 ≤ ls.length := fun c hc => by
    obtain ⟨i, _, e⟩ := List.mem_filterMap.mp hc
    exact through_le e
  exact hp m (sel_best (fun c hc => (hp c hc).1) h).1
/-! ### a bit for each -/
theorem or_bit {m i : Nat} (h : m < 2 ^ i) : m ||| 2 ^ i = m + 2 ^ i := by
  have := Nat.two_pow_add_eq_or_of_lt h 1
  rw [Nat.mul_one] at this
  rw [Nat.or_comm, ← this, Nat.add_comm]
theorem foldl_bits : ∀ (l : List Nat) (m : Nat), l.Pairwise (· < ·) → (∀ i ∈ l, m < 2 ^ i) → l.foldl (fun m i => m ||| 2 ^ i) m = m + (l.map fun i => 2 ^ i).sum
  | [], m, _, _ => (Nat.add_zero m).symm
  | i :: l, m, h, k => by
    have hm := k i (List.mem_cons_self ..)
    rw [List.pairwise_cons] at h
    rw [List.foldl_cons, or_bit hm, foldl_bits l (m + 2 ^ i) h.2 fun j hj => ?_]
    · rw [List.map_cons, List.sum_cons]
      omega
    · have h1 := h.1 j hj
      have : 2 ^ (i + 1) ≤ 2 ^ j := Nat.pow_le_pow_right (by decide) h1
      rw [Nat.pow_succ] at this
      omega
theorem range_pairwise : ∀ n, (List.range n).Pairwise (· < ·) := fun n => List.pairwise_lt_range
theorem setOf_eq {n : Nat} (p : Nat → Bool) : setOf ((List.range n).filter p) = (((List.range n).filter p).map fun i => 2 ^ i).sum := by
  unfold setOf
  rw [foldl_bits _ 0 ((range_pairwise n).filter p) (fun i _ => Nat.pow_pos (by decide)), Nat.zero_add]
end WsM

set_option Elab.async false
namespace WsM
open Rb23

/-! ### each number so many times, less a number -/
def changed (n : Nat) (a : Mat) (q : Mean) : Mat := made n fun i j => (entry a i j).map fun s => (q.2 : Int) * s - q.1
theorem levelled_eq (n : Nat) (a : Mat) (q : Mean) : levelled n a q = changed n a q := made_congr fun i j _ _ => by
  cases entry a i j with
  | none => rfl
  | some s => exact congrArg some (by show s * (q.2 : Int) - q.1 = (q.2 : Int) * s - q.1; rw [Int.mul_comm])
theorem changed_sq (n : Nat) (a : Mat) (q : Mean) : Sq n (changed n a q) := made_sq n _
theorem changed_entry {n : Nat} {a : Mat} (ha : Sq n a) {q : Mean} (i j : Nat) : entry (changed n a q) i j = (entry a i j).map fun s => (q.2 : Int) * s - q.1 := by
  by_cases h : i < n ∧ j < n
  · exact entry_made h.1 h.2
  · rw [show entry (changed n a q) i j = none from entry_made_out h]
    cases e : entry a i j with
    | none => rfl
    | some s => exact absurd (entry_out ha e) h
theorem pw_map {f g : Nat → Nat → Num} {c d : Int} (h : ∀ i j, g i j = (f i j).map fun s => c * s - d) : ∀ (vs : List Nat) (i : Nat), pw g i vs = (pw f i vs).map fun s => c * s - d * (vs.length : Int)
  | [], i => by
    show some 0 = some (c * 0 - d * 0)
    simp
  | v :: vs, i => by
    show plus (g i v) (pw g v vs) = (plus (f i v) (pw f v vs)).map _
    rw [pw_map h vs v, h i v]
    cases f i v with
    | none => rfl
    | some x =>
      cases pw f v vs with
      | none => rfl
      | some y =>
        show some (c * x - d + (c * y - d * (vs.length : Int))) = some (c * (x + y) - d * ((vs.length + 1 : Nat) : Int))
        congr 1
        rw [Int.mul_add, Int.natCast_add, Int.mul_add]
        show c * x - d + (c * y - d * (vs.length : Int)) = c * x + c * y - (d * (vs.length : Int) + d * 1)
        omega
theorem wk_changed {n : Nat} {a : Mat} (ha : Sq n a) {q : Mean} {k i j : Nat} {t : Int} : Wk (entry (changed n a q)) k i j t ↔ ∃ s, Wk (entry a) k i j s ∧ t = (q.2 : Int) * s - q.1 * (k : Int) := by
  constructor
  · rintro ⟨vs, h1, h2, h3⟩
    rw [pw_map (c := (q.2 : Int)) (d := q.1) (f := entry a) (fun i j => changed_entry ha i j)] at h3
    obtain ⟨s, e1, e2⟩ := Option.map_eq_some_iff.mp h3
    exact ⟨s, ⟨vs, h1, h2, e1⟩, by rw [← e2, h1]⟩
  · rintro ⟨s, ⟨vs, h1, h2, h3⟩, rfl⟩
    refine ⟨vs, h1, h2, ?_⟩
    rw [pw_map (c := (q.2 : Int)) (d := q.1) (f := entry a) (fun i j => changed_entry ha i j), h3, ← h1]
    rfl
/-- with the greatest mean no circle's sum is above 0 -/
theorem changed_nogain {n : Nat} {a : Mat} (ha : Sq n a) {q : Mean} (h : mean n a = some q) : NoGain n (changed n a q) := by
  obtain ⟨_, _, _, hall⟩ := mean_best h
  intro k i t h1 h2 hi e
  obtain ⟨s, w, rfl⟩ := (wk_changed ha).mp ((pow_wk (changed_sq n a q) k hi hi).1 t e)
  obtain ⟨y, e1, e2⟩ := ((pow_wk ha k hi hi).2 s w).of_some
  have hq := (mean_best h).1
  have := hall (y, k) (mem_circles.mpr ⟨i, hi, mem_cand.mpr ⟨k, h1, h2, e1, rfl⟩⟩)
  have this : y * (q.2 : Int) ≤ q.1 * (k : Int) := this
  have h3 : (q.2 : Int) * s ≤ (q.2 : Int) * y := Int.mul_le_mul_of_nonneg_left e2 (by omega)
  rw [Int.mul_comm y] at this
  omega
theorem closed_changed {n : Nat} {a : Mat} (ha : Sq n a) {q : Mean} (h : mean n a = some q) : closed n (changed n a q) = walks n (levelled n a q) := by
  rw [levelled_eq]
  exact closed_eq (changed_sq n a q) (changed_nogain ha h)

/-! ### tied together -/
/-- by the walks of length 1 to n: from each thing to each -/
def Tied (n : Nat) (a : Mat) : Prop := ∀ i j, i < n → j < n → ∃ k s, 1 ≤ k ∧ k ≤ n ∧ Wk (entry a) k i j s
/-- the program's test -/
def tiedB (ls : List Mat) : Bool := (ls.foldl (both (ls.getD 0 []).length) (ls.getD 0 [])).all fun r => r.all fun x => x.isSome
theorem isSup_isSome {P : Int → Prop} {x : Num} (h : IsSup P x) : x.isSome = true ↔ ∃ s, P s := by
  constructor
  · intro e
    obtain ⟨s, e⟩ := Option.isSome_iff_exists.mp e
    exact ⟨s, h.1 s e⟩
  · rintro ⟨s, p⟩
    obtain ⟨y, e, _⟩ := (h.2 s p).of_some
    rw [e]
    rfl
theorem all_entries {n : Nat} {m : Mat} (h : Sq n m) : (m.all fun r => r.all fun x => x.isSome) = true ↔ ∀ i j, i < n → j < n → (entry m i j).isSome = true := by
  rw [List.all_eq_true]
  constructor
  · intro k i j hi hj
    have hi' : i < List.length m := by rw [h.1]; exact hi
    have hl := h.2 _ (List.getElem_mem hi')
    have := k _ (List.getElem_mem hi')
    rw [List.all_eq_true] at this
    rw [entry_get hi', List.getD_eq_getElem?_getD, List.getElem?_eq_getElem (by omega)]
    exact this _ (List.getElem_mem (by omega))
  · intro k r hr
    rw [List.all_eq_true]
    intro x hx
    obtain ⟨i, hi, rfl⟩ := List.getElem_of_mem hr
    obtain ⟨j, hj, rfl⟩ := List.getElem_of_mem hx
    have hl := h.2 _ (List.getElem_mem hi)
    have := k i j (by rw [← h.1]; exact hi) (by omega)
    rw [entry_get hi, List.getD_eq_getElem?_getD, List.getElem?_eq_getElem hj] at this
    exact this
theorem levels_zero {n : Nat} {a : Mat} (ha : Sq n a) (hn : 1 ≤ n) : (levels n a).getD 0 [] = a := by
  have : (levels n a)[0]? = some (pow n a 1) := by
    unfold levels
    rw [List.getElem?_map, List.getElem?_range (by omega)]
    rfl
  rw [List.getD_eq_getElem?_getD, this]
  exact pow_one ha
theorem tied_iff {n : Nat} {a : Mat} (ha : Sq n a) (hn : 1 ≤ n) : tiedB (levels n a) = true ↔ Tied n a := by
  unfold tiedB
  rw [levels_zero ha hn, ha.1, all_entries (foldl_both_sq _ ha)]
  have key : ∀ i j, i < n → j < n → ((entry ((levels n a).foldl (both n) a) i j).isSome = true ↔ ∃ k s, 1 ≤ k ∧ k ≤ n ∧ Wk (entry a) k i j s) := fun i j hi hj => by
    have hu : levels n a = (List.range n).map fun k => pow n a (k + 1) := rfl
    rw [hu, isSup_isSome (foldl_levels ha (fun i j _ _ => entry_sup (entry a) i j) hi hj n)]
    constructor
    · rintro ⟨s, h | ⟨k, h1, h2, h3⟩⟩
      · exact ⟨1, s, Nat.le_refl _, hn, h⟩
      · exact ⟨k, s, h1, h2, h3⟩
    · rintro ⟨k, s, h1, h2, h3⟩
      exact ⟨s, .inr ⟨k, h1, h2, h3⟩⟩
  constructor
  · exact fun h i j hi hj => (key i j hi hj).mp (h i j hi hj)
  · exact fun h i j hi hj => (key i j hi hj).mpr (h i j hi hj)
/-- walks of the matrix of noughts are those of the matrix -/
theorem pw_zero {f g : Nat → Nat → Num} (h : ∀ i j, g i j = (f i j).map fun _ => 0) : ∀ (vs : List Nat) (i : Nat), pw g i vs = (pw f i vs).map fun _ => 0
  | [], _ => rfl
  | v :: vs, i => by
    show plus (g i v) (pw g v vs) = (plus (f i v) (pw f v vs)).map _
    rw [pw_zero h vs v, h i v]
    cases f i v with
    | none => rfl
    | some x =>
      cases pw f v vs with
      | none => rfl
      | some y => rfl
theorem strong_iff {n : Nat} {a : Mat} (ha : Sq n a) : strong n a = true ↔ Tied n a := by
  have hp : Sq n (made n fun i j => (entry a i j).map fun _ => (0 : Int)) := made_sq n _
  have he : ∀ i j, entry (made n fun i j => (entry a i j).map fun _ => (0 : Int)) i j = (entry a i j).map fun _ => 0 := fun i j => by
    by_cases h : i < n ∧ j < n
    · exact entry_made h.1 h.2
    · rw [entry_made_out h]
      cases e : entry a i j with
      | none => rfl
      | some s => exact absurd (entry_out ha e) h
  have hpw := pw_zero he
  generalize hP : (made n fun i j => (entry a i j).map fun _ => (0 : Int)) = p at hp he hpw
  -- every walk's sum there is 0
  have h0 : ∀ {k i j : Nat} {s : Int}, Wk (entry p) k i j s → s = 0 ∧ ∃ t, Wk (entry a) k i j t := by
    rintro k i j s ⟨vs, h1, h2, h3⟩
    rw [hpw] at h3
    obtain ⟨t, e1, e2⟩ := Option.map_eq_some_iff.mp h3
    exact ⟨e2.symm, t, vs, h1, h2, e1⟩
  have h1 : ∀ {k i j : Nat} {t : Int}, Wk (entry a) k i j t → Wk (entry p) k i j 0 := by
    rintro k i j t ⟨vs, h1, h2, h3⟩
    refine ⟨vs, h1, h2, ?_⟩
    rw [hpw, h3]
    rfl
  have ng : NoGain n p := fun k i s _ _ hi e => by
    have := (h0 ((pow_wk hp k hi hi).1 s e)).1
    omega
  have hc := ng.circ hp
  have key : ∀ i j, i < n → j < n → ((entry (mul n p (walks n p)) i j).isSome = true ↔ ∃ k s, 1 ≤ k ∧ k ≤ n ∧ Wk (entry a) k i j s) := fun i j hi hj => by
    rw [isSup_isSome (mul_sup (P := fun i k s => entry p i k = some s) (Q := fun k j s => ∃ l, Wk (entry p) l k j s) hi hj (fun k hk => ⟨fun s e => e, fun s e => by rw [e]; exact Le.refl _⟩) (fun k hk => walks_sup hp ng hk))]
    constructor
    · rintro ⟨s, k, x, y, hk, e, ⟨l, w⟩, _⟩
      have w2 : Wk (entry p) (1 + l) i j (x + y) := (Wk.one.mpr e).append w
      obtain ⟨vs, v1, v2, v3⟩ := w2
      obtain ⟨ws, t, a1, a2, a3, a4, _⟩ := shortcut hc vs.length vs i (x + y) (Nat.le_refl _) v3
      have hb := pw_bd (Bd.of hp) a4
      have hne : ws ≠ [] := a2 fun z => by rw [z] at v1; simp at v1; omega
      obtain ⟨_, t', w'⟩ := h0 (k := ws.length) (i := i) (j := j) (s := t) ⟨ws, rfl, by rw [a3, v2], a4⟩
      exact ⟨ws.length, t', by cases ws with | nil => exact absurd rfl hne | cons => simp, nodup_len n ws a1 hb, w'⟩
    · rintro ⟨k, s, k1, k2, w⟩
      have w0 : Wk (entry p) (1 + (k - 1)) i j 0 := by
        rw [Nat.add_sub_cancel' k1]
        exact h1 w
      obtain ⟨m, x, y, b1, b2, b3⟩ := w0.split
      exact ⟨0, m, x, y, b1.lt (Bd.of hp) hi, Wk.one.mp b1, ⟨k - 1, b2⟩, b3⟩
  unfold strong
  dsimp only
  rw [hP, List.all_eq_true]
  constructor
  · intro h i j hi hj
    have := h i (List.mem_range.mpr hi)
    rw [List.all_eq_true] at this
    exact (key i j hi hj).mp (this j (List.mem_range.mpr hj))
  · intro h i hi
    rw [List.all_eq_true]
    intro j hj
    exact (key i j (List.mem_range.mp hi) (List.mem_range.mp hj)).mpr (h i j (List.mem_range.mp hi) (List.mem_range.mp hj))
theorem strong_eq {n : Nat} {a : Mat} (ha : Sq n a) (hn : 1 ≤ n) : strong n a = tiedB (levels n a) := by
  rw [Bool.eq_iff_iff, strong_iff ha, tied_iff ha hn]
/-- where it's tied together there is a circle -/
theorem tied_mean {n : Nat} {a : Mat} (ha : Sq n a) (hn : 1 ≤ n) (h : Tied n a) : ∃ q, mean n a = some q := by
  cases z : mean n a with
  | some q => exact ⟨q, rfl⟩
  | none =>
    obtain ⟨k, s, h1, h2, w⟩ := h 0 0 hn hn
    obtain ⟨y, e, _⟩ := ((pow_wk ha k hn hn).2 s w).of_some
    have := mean_none z
    have hm : (y, k) ∈ circles n a := mem_circles.mpr ⟨0, hn, mem_cand.mpr ⟨k, h1, h2, e, rfl⟩⟩
    rw [this] at hm
    cases hm
/-- some thing lies on a circle of the greatest mean -/
theorem critical_ne {n : Nat} {a : Mat} {q : Mean} (h : mean n a = some q) : thingsOn (levels n a) q ≠ [] := by
  obtain ⟨_, _, ⟨m, hm, e⟩, _⟩ := mean_best h
  obtain ⟨i, hi, hm⟩ := mem_circles.mp hm
  have : i ∈ thingsOn (levels n a) q := by
    unfold thingsOn
    rw [levels_len]
    exact List.mem_filter.mpr ⟨List.mem_range.mpr hi, (on_iff h hi).mpr ⟨m, hm, e⟩⟩
  intro z
  rw [z] at this
  cases this
theorem thingsOn_lt {ls : List Mat} {q : Mean} {i : Nat} (h : i ∈ thingsOn ls q) : i < ls.length := List.mem_range.mp (List.mem_filter.mp h).1
/-- **potentials**: what the specification answers -/
theorem potentials_eq {n : Nat} {a : Mat} (ha : Sq n a) (hn : 1 ≤ n) {q : Mean} {c : Nat} {l : List Nat} (h : tiedB (levels n a) = true) (hq : mean n a = some q) (hc : thingsOn (levels n a) q = c :: l) :
    potentials n a = some ((List.range n).map fun i => (entry (closed n (changed n a q)) i c).getD 0) ∧ ∀ i, i < n → (entry (closed n (changed n a q)) i c).isSome = true := by
  have hT := (tied_iff ha hn).mp h
  constructor
  · unfold potentials
    rw [strong_eq ha hn, h, if_neg (by simp), hq, ← critical_eq hq, hc, closed_changed ha hq]
    rfl
  · intro i hi
    have hcn : c < n := by
      have := thingsOn_lt (ls := levels n a) (q := q) (i := c) (by rw [hc]; exact List.mem_cons_self ..)
      rwa [levels_len] at this
    rw [isSup_isSome (closed_sup (changed_sq n a q) hi hcn)]
    obtain ⟨k, s, _, k2, w⟩ := hT i c hi hcn
    exact ⟨_, k, k2, (wk_changed ha).mpr ⟨s, w, rfl⟩⟩
theorem potentials_none {n : Nat} {a : Mat} (ha : Sq n a) (hn : 1 ≤ n) (h : tiedB (levels n a) = false) : potentials n a = none := by
  unfold potentials
  rw [strong_eq ha hn, h, if_pos rfl]
end WsM

set_option Elab.async false
namespace WsM
open Rb23

/-! ### steps that lie on a greatest circle -/
def isOn (a b : Num) : Bool := decide (plus a b = some 0)
def stepsOn (n : Nat) (low w : Mat) : List (List Nat) := (List.range n).map fun i => (List.range n).filter fun j => isOn (entry low i j) (entry w j i)
theorem tight_eq {n : Nat} {a : Mat} (ha : Sq n a) {q : Mean} (h : mean n a = some q) : tight n a q = made n fun i j => if plus (entry (changed n a q) i j) (entry (closed n (changed n a q)) j i) = some 0 then some 0 else none := by
  unfold tight
  dsimp only
  rw [closed_changed ha h, levelled_eq]
theorem tight_some {n : Nat} {a : Mat} (ha : Sq n a) {q : Mean} (h : mean n a = some q) {i j : Nat} (hi : i < n) (hj : j < n) : (entry (tight n a q) i j).isSome = isOn (entry (changed n a q) i j) (entry (closed n (changed n a q)) j i) := by
  rw [tight_eq ha h, entry_made hi hj]
  unfold isOn
  split
  · rename_i z
    rw [decide_eq_true z]
    rfl
  · rename_i z
    rw [decide_eq_false z]
    rfl
theorem mem_steps {n : Nat} {low w : Mat} {i j : Nat} (hi : i < n) : j ∈ (stepsOn n low w).getD i [] ↔ j < n ∧ isOn (entry low i j) (entry w j i) = true := by
  unfold stepsOn
  rw [List.getD_eq_getElem?_getD, List.getElem?_map, List.getElem?_range hi]
  show j ∈ (List.range n).filter _ ↔ _
  rw [List.mem_filter, List.mem_range]

/-! ### marks -/
def marks (l : List Nat) (f : List Bool) : List Bool := l.foldl (fun f j => f.set j true) f
theorem marks_len : ∀ (l : List Nat) (f : List Bool), (marks l f).length = f.length
  | [], _ => rfl
  | j :: l, f => by
    show (marks l (f.set j true)).length = _
    rw [marks_len l, List.length_set]
theorem set_getD (f : List Bool) (j k : Nat) : (f.set j true).getD k false = if j = k ∧ k < f.length then true else f.getD k false := by
  rw [List.getD_eq_getElem?_getD, List.getElem?_set, List.getD_eq_getElem?_getD]
  by_cases h : j = k
  · subst h
    by_cases hl : j < f.length
    · rw [if_pos rfl, if_pos hl, if_pos ⟨rfl, hl⟩]
      rfl
    · rw [if_pos rfl, if_neg hl, if_neg (fun z => hl z.2), List.getElem?_eq_none (by omega)]
  · rw [if_neg h, if_neg (fun z => h z.1)]
theorem marks_get : ∀ (l : List Nat) (f : List Bool) (k : Nat), k < f.length → ((marks l f).getD k false = true ↔ f.getD k false = true ∨ k ∈ l)
  | [], f, k, _ => by
    show f.getD k false = true ↔ _
    simp
  | j :: l, f, k, hk => by
    show (marks l (f.set j true)).getD k false = true ↔ _
    rw [marks_get l (f.set j true) k (by rw [List.length_set]; exact hk), set_getD, List.mem_cons]
    by_cases h : j = k
    · subst h
      rw [if_pos ⟨rfl, hk⟩]
      simp
    · rw [if_neg (fun z => h z.1)]
      constructor
      · rintro (h1 | h1)
        · exact .inl h1
        · exact .inr (.inr h1)
      · rintro (h1 | h1 | h1)
        · exact .inl h1
        · exact absurd h1.symm h
        · exact .inr h1
/-- the marks of all things to which a step leads from a marked one, by the first m things -/
def onwardTo (steps : List (List Nat)) (marked : List Bool) (m : Nat) : List Bool := (List.range m).foldl (fun f i => if marked.getD i false = true then marks (steps.getD i []) f else f) (marked.map fun _ => false)
def onward (steps : List (List Nat)) (marked : List Bool) : List Bool := onwardTo steps marked marked.length
theorem onwardTo_succ (steps : List (List Nat)) (marked : List Bool) (m : Nat) : onwardTo steps marked (m + 1) = if marked.getD m false = true then marks (steps.getD m []) (onwardTo steps marked m) else onwardTo steps marked m := by
  unfold onwardTo
  rw [List.range_succ, List.foldl_append]
  rfl
theorem onwardTo_len (steps : List (List Nat)) (marked : List Bool) : ∀ m, (onwardTo steps marked m).length = marked.length
  | 0 => by
    show (marked.map fun _ => false).length = _
    rw [List.length_map]
  | m + 1 => by
    rw [onwardTo_succ]
    split
    · rw [marks_len, onwardTo_len steps marked m]
    · exact onwardTo_len steps marked m
theorem onward_len (steps : List (List Nat)) (marked : List Bool) : (onward steps marked).length = marked.length := onwardTo_len _ _ _
theorem onwardTo_get {steps : List (List Nat)} {marked : List Bool} {k : Nat} (hk : k < marked.length) : ∀ m, (onwardTo steps marked m).getD k false = true ↔ ∃ i, i < m ∧ marked.getD i false = true ∧ k ∈ steps.getD i []
  | 0 => by
    show (marked.map fun _ => false).getD k false = true ↔ _
    rw [List.getD_eq_getElem?_getD, List.getElem?_map, List.getElem?_eq_getElem hk]
    constructor
    · intro h
      cases h
    · rintro ⟨i, h, _⟩
      omega
  | m + 1 => by
    rw [onwardTo_succ]
    have ih := onwardTo_get (steps := steps) hk m
    by_cases h : marked.getD m false = true
    · rw [if_pos h, marks_get _ _ _ (by rw [onwardTo_len]; exact hk), ih]
      constructor
      · rintro (⟨i, h1, h2, h3⟩ | h1)
        · exact ⟨i, by omega, h2, h3⟩
        · exact ⟨m, by omega, h, h1⟩
      · rintro ⟨i, h1, h2, h3⟩
        by_cases hi : i = m
        · subst hi
          exact .inr h3
        · exact .inl ⟨i, by omega, h2, h3⟩
    · rw [if_neg h, ih]
      constructor
      · rintro ⟨i, h1, h2, h3⟩
        exact ⟨i, by omega, h2, h3⟩
      · rintro ⟨i, h1, h2, h3⟩
        refine ⟨i, ?_, h2, h3⟩
        by_cases hi : i = m
        · subst hi
          exact absurd h2 h
        · omega
def markedAt (steps : List (List Nat)) (i : Nat) : Nat → List Bool
  | 0 => (List.range steps.length).map fun p => decide (p = i)
  | k + 1 => onward steps (markedAt steps i k)
theorem markedAt_len (steps : List (List Nat)) (i : Nat) : ∀ k, (markedAt steps i k).length = steps.length
  | 0 => by
    show ((List.range steps.length).map _).length = _
    rw [List.length_map, List.length_range]
  | k + 1 => by
    show (onward steps (markedAt steps i k)).length = _
    rw [onward_len, markedAt_len steps i k]
/-- marked behind k steps: there is a walk of length k -/
theorem markedAt_iff {n : Nat} {low w t : Mat} (ht : ∀ i j, i < n → j < n → (entry t i j).isSome = isOn (entry low i j) (entry w j i)) {i : Nat} (hi : i < n) : ∀ (k : Nat) {j : Nat}, j < n → ((markedAt (stepsOn n low w) i k).getD j false = true ↔ (entry (pow n t k) i j).isSome = true)
  | 0, j, hj => by
    have hl : (stepsOn n low w).length = n := by simp [stepsOn]
    show ((List.range (stepsOn n low w).length).map fun p => decide (p = i)).getD j false = true ↔ (entry (one n) i j).isSome = true
    unfold one
    rw [hl, entry_made hi hj, List.getD_eq_getElem?_getD, List.getElem?_map, List.getElem?_range hj]
    show decide (j = i) = true ↔ _
    rw [decide_eq_true_eq]
    by_cases h : i = j
    · rw [if_pos h]
      exact ⟨fun _ => rfl, fun _ => h.symm⟩
    · rw [if_neg h]
      exact ⟨fun z => absurd z.symm h, fun z => by cases z⟩
  | k + 1, j, hj => by
    have hl : (stepsOn n low w).length = n := by simp [stepsOn]
    have hm : (markedAt (stepsOn n low w) i k).length = n := by rw [markedAt_len, hl]
    show (onwardTo (stepsOn n low w) (markedAt (stepsOn n low w) i k) (markedAt (stepsOn n low w) i k).length).getD j false = true ↔ (entry (mul n (pow n t k) t) i j).isSome = true
    rw [onwardTo_get (by rw [hm]; exact hj), hm,
      isSup_isSome (mul_sup (P := fun i k' s => entry (pow n t k) i k' = some s) (Q := fun k j s => entry t k j = some s) hi hj (fun k' _ => ⟨fun s e => e, fun s e => by rw [e]; exact Le.refl _⟩) (fun k' _ => ⟨fun s e => e, fun s e => by rw [e]; exact Le.refl _⟩))]
    constructor
    · rintro ⟨m, h1, h2, h3⟩
      obtain ⟨x, hx⟩ := Option.isSome_iff_exists.mp ((markedAt_iff ht hi k h1).mp h2)
      have h4 := ((mem_steps h1).mp h3).2
      rw [← ht m j h1 hj] at h4
      obtain ⟨y, hy⟩ := Option.isSome_iff_exists.mp h4
      exact ⟨x + y, m, x, y, h1, hx, hy, rfl⟩
    · rintro ⟨s, m, x, y, h1, hx, hy, _⟩
      refine ⟨m, h1, (markedAt_iff ht hi k h1).mpr (by rw [hx]; rfl), (mem_steps h1).mpr ⟨hj, ?_⟩⟩
      rw [← ht m j h1 hj, hy]
      rfl

/-! ### the greatest number that divides the lengths -/
def lengthsTo (steps : List (List Nat)) (i m : Nat) : Nat := (List.range m).foldl (fun g k => if (markedAt steps i (k + 1)).getD i false = true then Nat.gcd g (k + 1) else g) 0
def lengthsDiv (steps : List (List Nat)) (i : Nat) : Nat := lengthsTo steps i (3 * steps.length)
theorem lengthsTo_succ (steps : List (List Nat)) (i m : Nat) : lengthsTo steps i (m + 1) = if (markedAt steps i (m + 1)).getD i false = true then Nat.gcd (lengthsTo steps i m) (m + 1) else lengthsTo steps i m := by
  unfold lengthsTo
  rw [List.range_succ, List.foldl_append]
  rfl
theorem lengthsTo_le (steps : List (List Nat)) (i : Nat) : ∀ m, lengthsTo steps i m ≤ m
  | 0 => Nat.le_refl _
  | m + 1 => by
    rw [lengthsTo_succ]
    split
    · exact Nat.le_of_dvd (Nat.succ_pos _) (Nat.gcd_dvd_right _ _)
    · exact Nat.le_succ_of_le (lengthsTo_le steps i m)
theorem lengthsTo_pos {steps : List (List Nat)} {i k : Nat} (h1 : 1 ≤ k) (h : (markedAt steps i k).getD i false = true) : ∀ m, k ≤ m → 0 < lengthsTo steps i m
  | 0, hk => by omega
  | m + 1, hk => by
    rw [lengthsTo_succ]
    by_cases e : k = m + 1
    · subst e
      rw [if_pos h]
      exact Nat.gcd_pos_of_pos_right _ (Nat.succ_pos _)
    · have ih := lengthsTo_pos h1 h m (by omega)
      split
      · exact Nat.gcd_pos_of_pos_right _ (Nat.succ_pos _)
      · exact ih
theorem lengths_eq {n : Nat} {low w t : Mat} (ht : ∀ i j, i < n → j < n → (entry t i j).isSome = isOn (entry low i j) (entry w j i)) {i : Nat} (hi : i < n) : lengthsDiv (stepsOn n low w) i = lengths n ((powers n t (3 * n)).zipIdx.drop 1) i := by
  have hl : (stepsOn n low w).length = n := by simp [stepsOn]
  unfold lengthsDiv lengths
  rw [powers_zip, hl, List.foldl_map]
  unfold lengthsTo
  have : (fun (g k : Nat) => if (markedAt (stepsOn n low w) i (k + 1)).getD i false = true then Nat.gcd g (k + 1) else g) = fun (g k : Nat) => if (entry (pow n t (k + 1)) i i).isSome = true then Nat.gcd g (k + 1) else g := by
    funext g k
    by_cases h : (entry (pow n t (k + 1)) i i).isSome = true
    · rw [if_pos h, if_pos ((markedAt_iff ht hi (k + 1) hi).mpr h)]
    · rw [if_neg h, if_neg (fun z => h ((markedAt_iff ht hi (k + 1) hi).mp z))]
  rw [this]

/-! ### a thing on a greatest circle has one of tight steps -/
/-- a step of a circle whose sum is 0, where no circle's sum is above 0, is tight -/
theorem step_tight {n : Nat} {b : Mat} (hb : Sq n b) (ng : NoGain n b) {i : Nat} (hi : i < n) {l r : List Nat} {v : Nat} (hl : lst i (l ++ v :: r) = i) (e : pw (entry b) i (l ++ v :: r) = some 0) : plus (entry b (lst i l) v) (entry (walks n b) v (lst i l)) = some 0 := by
  rw [pw_append] at e
  obtain ⟨y, z, e1, e2, e3⟩ := plus_some.mp e
  obtain ⟨x, z', e4, e5, e6⟩ := plus_some.mp (show plus (entry b (lst i l) v) (pw (entry b) v r) = some z from e2)
  rw [lst_append] at hl
  have hl : lst v r = i := hl
  have hv : v < n := (Bd.of hb _ _ _ e4).2
  have hu : lst i l < n := (Bd.of hb _ _ _ e4).1
  have W := walks_sup hb ng (i := v) (j := lst i l) hv
  -- the rest of the circle is a walk back
  have back : Wk (entry b) (r ++ l).length v (lst i l) (z' + y) := by
    refine ⟨r ++ l, rfl, ?_, ?_⟩
    · rw [lst_append, hl]
    · rw [pw_append, e5, hl, e1]
      rfl
  obtain ⟨w, hw, hle⟩ := (W.2 _ ⟨_, back⟩).of_some
  obtain ⟨k, vs, k1, k2, k3⟩ := W.1 w hw
  have hcirc := ng.circ hb (vs ++ [v]) v (w + x) (lst_snoc v vs v) (by
    rw [pw_append, k3, k2]
    show plus (some w) (plus (entry b (lst i l) v) (some 0)) = some (w + x)
    rw [plus_zero, e4]
    rfl)
  rw [e4, hw]
  show some (x + w) = some 0
  congr 1
  omega
theorem walk_tight {n : Nat} {b t : Mat} (hb : Sq n b) (ng : NoGain n b) (ht : ∀ u v, u < n → v < n → plus (entry b u v) (entry (walks n b) v u) = some 0 → entry t u v = some 0) {i : Nat} (hi : i < n) :
    ∀ (r l : List Nat), lst i (l ++ r) = i → pw (entry b) i (l ++ r) = some 0 → ∃ s, pw (entry t) (lst i l) r = some s
  | [], _, _, _ => ⟨0, rfl⟩
  | v :: r, l, hl, e => by
    have h1 := step_tight hb ng hi hl e
    obtain ⟨x, _, e1, _, _⟩ := plus_some.mp h1
    have hb1 := Bd.of hb _ _ _ e1
    have h2 := ht _ _ hb1.1 hb1.2 h1
    have el : l ++ v :: r = (l ++ [v]) ++ r := by simp
    obtain ⟨s, hs⟩ := walk_tight hb ng ht hi r (l ++ [v]) (by rw [← el]; exact hl) (by rw [← el]; exact e)
    rw [lst_snoc] at hs
    refine ⟨0 + s, ?_⟩
    show plus (entry t (lst i l) v) (pw (entry t) v r) = _
    rw [h2, hs]
    rfl
theorem critical_circle {n : Nat} {a : Mat} (ha : Sq n a) {q : Mean} (h : mean n a = some q) {i : Nat} (hc : i ∈ thingsOn (levels n a) q) : ∃ k, 1 ≤ k ∧ k ≤ n ∧ (entry (pow n (tight n a q) k) i i).isSome = true := by
  have hi : i < n := by
    have := thingsOn_lt hc
    rwa [levels_len] at this
  obtain ⟨m, hm, e⟩ := (on_iff h hi).mp (List.mem_filter.mp hc).2
  obtain ⟨k, k1, k2, k3, k4⟩ := mem_cand.mp hm
  obtain ⟨vs, v1, v2, v3⟩ := (pow_wk ha k hi hi).1 m.1 k3
  have hw : Wk (entry (changed n a q)) k i i 0 := (wk_changed ha).mpr ⟨m.1, ⟨vs, v1, v2, v3⟩, by rw [← k4, Int.mul_comm, e]; omega⟩
  obtain ⟨ws, w1, w2, w3⟩ := hw
  have ng := changed_nogain ha h
  have ht : ∀ u v, u < n → v < n → plus (entry (changed n a q) u v) (entry (walks n (changed n a q)) v u) = some 0 → entry (tight n a q) u v = some 0 := fun u v hu hv z => by
    rw [tight_eq ha h, entry_made hu hv, closed_eq (changed_sq n a q) ng, if_pos z]
  obtain ⟨s, hs⟩ := walk_tight (changed_sq n a q) ng ht hi ws [] w2 w3
  have tq : Sq n (tight n a q) := made_sq n _
  refine ⟨k, k1, k2, ?_⟩
  rw [isSup_isSome (pow_wk tq k hi hi)]
  exact ⟨s, ws, w1, w2, hs⟩
/-- **period**: what the specification answers -/
theorem period_eq {n : Nat} {a : Mat} (ha : Sq n a) (hn : 1 ≤ n) {q : Mean} (h : tiedB (levels n a) = true) (hq : mean n a = some q) :
    period n a = (thingsOn (levels n a) q).foldl (fun l i => Nat.lcm l (lengthsDiv (stepsOn n (changed n a q) (closed n (changed n a q))) i)) 1 ∧
    ∀ i ∈ thingsOn (levels n a) q, 0 < lengthsDiv (stepsOn n (changed n a q) (closed n (changed n a q))) i ∧ lengthsDiv (stepsOn n (changed n a q) (closed n (changed n a q))) i ≤ 3 * n := by
  have ht : ∀ i j, i < n → j < n → (entry (tight n a q) i j).isSome = isOn (entry (changed n a q) i j) (entry (closed n (changed n a q)) j i) := fun i j hi hj => tight_some ha hq hi hj
  have hlt : ∀ i ∈ thingsOn (levels n a) q, i < n := fun i hi => by
    have := thingsOn_lt hi
    rwa [levels_len] at this
  have hl : (stepsOn n (changed n a q) (closed n (changed n a q))).length = n := by simp [stepsOn]
  constructor
  · unfold period
    rw [strong_eq ha hn, h, if_neg (by simp), hq, ← critical_eq hq]
    dsimp only
    have : ∀ (l : List Nat) (c : Nat), (∀ i ∈ l, i < n) → l.foldl (fun l i => Nat.lcm l (lengths n ((powers n (tight n a q) (3 * n)).zipIdx.drop 1) i)) c = l.foldl (fun l i => Nat.lcm l (lengthsDiv (stepsOn n (changed n a q) (closed n (changed n a q))) i)) c := by
      intro l
      induction l with
      | nil => intro c _; rfl
      | cons x l ih =>
        intro c hx
        rw [List.foldl_cons, List.foldl_cons, ← lengths_eq ht (hx x (List.mem_cons_self ..))]
        exact ih _ fun i hi => hx i (List.mem_cons_of_mem _ hi)
    exact this _ 1 hlt
  · intro i hi
    obtain ⟨k, k1, k2, k3⟩ := critical_circle ha hq hi
    have hm := (markedAt_iff ht (hlt i hi) k (hlt i hi)).mpr k3
    unfold lengthsDiv
    rw [hl]
    exact ⟨lengthsTo_pos k1 hm _ (by omega), lengthsTo_le _ _ _⟩
theorem period_none {n : Nat} {a : Mat} (ha : Sq n a) (hn : 1 ≤ n) (h : tiedB (levels n a) = false) : period n a = 0 := by
  unfold period
  rw [strong_eq ha hn, h, if_pos rfl]
theorem lcm_eq (m k : Nat) : m / Nat.gcd m k * k = Nat.lcm m k := by
  unfold Nat.lcm
  rw [Nat.mul_comm m k, Nat.mul_div_assoc k (Nat.gcd_dvd_left m k), Nat.mul_comm]
end WsM

namespace Ws
open PySem PySem.Spec PyProof.Rows L2
def topS (i : Nat) : Stmt := PySem.Challenge.pw_waitsums_s06_period.main.body.getD i (.Pass ⟨0, 0, 0, 0⟩)
abbrev s_read : Stmt := topS 1
abbrev s_plus : Stmt := topS 2
abbrev s_greater : Stmt := topS 3
abbrev s_common : Stmt := topS 5
abbrev s_column : Stmt := topS 8
abbrev s_unit_row : Stmt := topS 12
abbrev s_changed_number : Stmt := topS 15
abbrev s_is_greater : Stmt := topS 21
abbrev s_is_equal : Stmt := topS 22
abbrev s_is_on : Stmt := topS 30
abbrev s_onward : Stmt := topS 32
abbrev s_greatest : Stmt := topS 4
abbrev s_matrix_of : Stmt := topS 7
abbrev s_unit : Stmt := topS 11
abbrev s_both : Stmt := topS 13
abbrev s_changed : Stmt := topS 14
abbrev s_mean_through : Stmt := topS 23
abbrev s_lowest : Stmt := topS 24
abbrev s_lengths_divisor : Stmt := topS 33
abbrev s_multiple : Stmt := topS 34
abbrev s_along : Stmt := topS 9
abbrev s_closed : Stmt := topS 18
abbrev s_is_tied : Stmt := topS 19
abbrev s_greatest_mean : Stmt := topS 25
abbrev s_things_on : Stmt := topS 26
abbrev s_brought : Stmt := topS 27
abbrev s_period_of : Stmt := topS 35
abbrev s_product : Stmt := topS 10
abbrev s_by_length : Stmt := topS 17
abbrev s_all_walks : Stmt := topS 28
abbrev s_steps_on : Stmt := topS 29
abbrev s_period : Stmt := topS 37
theorem rowsOf_sq (n : Nat) : ∀ (k : Nat) (l : List Int), l.length = k * n → (Rb23Neutral.rowsOf n k l).length = k ∧ ∀ r ∈ Rb23Neutral.rowsOf n k l, r.length = n
  | 0, _, _ => ⟨rfl, fun _ h => nomatch h⟩
  | k + 1, l, h => by
    rw [Nat.succ_mul] at h
    have ih := rowsOf_sq n k (l.drop n) (by rw [List.length_drop]; omega)
    refine ⟨congrArg (· + 1) ih.1, fun r hr => ?_⟩
    rcases List.mem_cons.mp hr with rfl | hr
    · rw [List.length_map, List.length_take]
      omega
    · exact ih.2 r hr
theorem mat_sq {n : Int} {l : List Int} (_h1 : 1 ≤ n) (hl : l.length = n.toNat * n.toNat) : WsM.Sq n.toNat (Rb23Neutral.mat n l) := rowsOf_sq n.toNat n.toNat l hl
theorem flatten_len {m : List (List (Option Int))} {c : Nat} (h : ∀ r ∈ m, r.length ≤ c) : m.flatten.length ≤ m.length * c := by
  induction m with
  | nil => exact Nat.zero_le _
  | cons r m ih =>
    have h1 := h r (List.mem_cons_self ..)
    have h2 := ih fun r hr => h r (List.mem_cons_of_mem _ hr)
    rw [List.flatten_cons, List.length_append, List.length_cons, Nat.succ_mul]
    omega
theorem flat_len {n : Nat} {m : Rb23.Mat} (h : WsM.Sq n m) (hn : n ≤ 16) {z : Int} : [z].length + (m.flatten.map Rb23Neutral.spelled).length ≤ 1000000 := by
  have h1 := flatten_len (m := m) (c := 16) fun r hr => by rw [h.2 r hr]; exact hn
  have h2 := h.1
  rw [List.length_map]
  show 1 + _ ≤ _
  have h3 : List.length m * 16 ≤ 16 * 16 := Nat.mul_le_mul_right _ (by omega)
  omega
theorem row_asked {l : List Int} {n : Nat} {m : Int} (h : Rb23Neutral.row l n m = true) : l.length = n ∧ ∀ d ∈ l, 0 ≤ d := by
  unfold Rb23Neutral.row at h
  rw [Bool.and_eq_true, List.all_eq_true] at h
  refine ⟨eq_of_beq h.1, fun d hd => ?_⟩
  have := h.2 d hd
  rw [Bool.and_eq_true] at this
  exact of_decide_eq_true this.1
theorem asked_one {c : Rb23Neutral.Call} (h : Rb23Neutral.asked [c] = true) : Rb23Neutral.asked1 c = true := by
  have h : (!([c] : List Rb23Neutral.Call).isEmpty && (decide (([c] : List Rb23Neutral.Call).length ≤ 3000) && [c].all Rb23Neutral.asked1)) = true := h
  rw [Bool.and_eq_true, Bool.and_eq_true, List.all_eq_true] at h
  exact h.2.2 c (List.mem_cons_self ..)
theorem within_iff {n lo hi : Int} (h : NeutralIO.within n lo hi = true) : lo ≤ n ∧ n ≤ hi := by
  unfold NeutralIO.within at h
  rw [Bool.and_eq_true] at h
  exact ⟨of_decide_eq_true h.1, of_decide_eq_true h.2⟩
theorem gives_ints {K : PySem.W.Frag} {H : Hp} {l : List Int} : Gives H H (rL rInt) l fun v H' => Dw K H' v (.list (l.map PySem.W.WData.int)) := fun v S' H' g r => by
  obtain ⟨p, rfl, h⟩ := rL_flat.mp r
  exact .lst (SqL.of (g.sh _ _ h)) (dw_ints _)

section
variable {P : Program} {w : World} {K : PySem.W.Frag} {mg : Str → Option Value} {base : Heap}
abbrev sp_read : Sp := sp1 rInt rNum (fun d => 0 ≤ d) Rb23Neutral.num
theorem sc_read : FnScope ["spelled"] ["spelled"] (defScope s_read) := ⟨rfl, rfl, rfl, by decide +kernel, rfl, by decide +kernel, by decide +kernel⟩
theorem ok_read {f : Addr} {fd : FuncData} (F : Fun K "read" "read" s_read f fd) : FnOk P w K mg base CX0 1 f fd ["spelled"] sp_read := by
  refine F.ok sc_read (fun vs H Q E h => ?_) (fun cdv A outer s H vs Q E hr h => ?_)
  · obtain ⟨v1, x1, S, rfl, _⟩ := h
    rfl
  · obtain ⟨v1, x1, S, rfl, e, r1, hp, q⟩ := h
    try dsimp only at q
    refine ⟨_, (pss_cons (ps_if (pt_cmpR op_eq (pv 0) pe_int (nomark _)) (pss_one (ps_ret pe_non)) pss_nil)
      (pss_cons (ps_if (pt_cmpR op_eq (pe_op op_mod (pv 0) pe_int) pe_int (nomark _)) (pss_one (ps_ret (pe_op op_fdiv (pv 0) pe_int))) pss_nil)
      (pss_one (ps_ret (pe_op op_sub pe_int (pe_op op_fdiv (pv 0) pe_int)))))), ?_⟩
    cases r1
    have q : ∀ z, Rb23Neutral.num x1 = z → Q (nV z) H := fun z hz => q _ S H (Gr.refl e) (by rw [hz]; rfl)
    refine ⟨.int x1, rfl, rfl, _, rfl, ite2 (fun h => ?_) (fun h => ?_)⟩
    · have h : x1 = 0 := V.int.inj (of_decide_eq_true h)
      exact q none (by unfold Rb23Neutral.num; rw [if_pos h])
    · have h : ¬ x1 = 0 := fun z => h (decide_eq_true (by rw [z]))
      refine ⟨.int x1, rfl, x1, 2, rfl, rfl, (by show (0 : Int) < 2; decide), rfl, _, rfl, ite2 (fun h2 => ?_) (fun h2 => ?_)⟩
      · have h2 : x1 % 2 = 1 := V.int.inj (of_decide_eq_true h2)
        refine ⟨.int x1, rfl, x1, 2, rfl, rfl, ⟨by decide, by decide⟩, ?_⟩
        refine q (some (x1 / 2)) ?_
        unfold Rb23Neutral.num
        rw [if_neg h, if_pos h2]
        congr 1
        omega
      · have h2 : ¬ x1 % 2 = 1 := fun z => h2 (decide_eq_true (by show V.int (x1 % 2) = V.int 1; rw [z]))
        refine ⟨.int x1, rfl, x1, 2, rfl, rfl, ⟨by decide, by decide⟩, 0, x1 / 2, rfl, rfl, ?_⟩
        refine q (some (0 - x1 / 2)) ?_
        unfold Rb23Neutral.num
        rw [if_neg h, if_neg h2]
        congr 1
        omega

abbrev sp_plus : Sp := sp2 rNum rNum rNum (fun _ _ => True) Rb23.plus
theorem sc_plus : FnScope ["one", "other"] ["one", "other"] (defScope s_plus) := ⟨rfl, rfl, rfl, by decide +kernel, rfl, by decide +kernel, by decide +kernel⟩
theorem ok_plus {f : Addr} {fd : FuncData} (F : Fun K "plus" "plus" s_plus f fd) : FnOk P w K mg base CX0 1 f fd ["one", "other"] sp_plus := by
  refine F.ok sc_plus (fun vs H Q E h => ?_) (fun cdv A outer s H vs Q E hr h => ?_)
  · obtain ⟨v1, x1, v2, x2, S, rfl, _⟩ := h
    rfl
  · obtain ⟨v1, x1, v2, x2, S, rfl, e, r1, r2, hp, q⟩ := h
    try dsimp only at q
    refine ⟨_, (pss_cons (ps_if (PW.pt (pw_or (pt_cmp (pc_isN (pv 0))) (pw_or1 (pt_cmp (pc_isN (pv 1)))))) (pss_one (ps_ret pe_non)) pss_nil)
      (pss_one (ps_ret (pe_op op_add (pv 0) (pv 1))))), ?_⟩
    cases r1
    cases r2
    refine q_when (et_or (et_none (ev_var rfl rfl)) fun _ => et_none (ev_var rfl rfl)) (Gr.refl e) (fun h S1 H1 g1 _ => ?_) (fun h S1 H1 g1 s1 => ?_)
    · refine s_ret (ev_c (R := rNum) (x := none) rfl) g1 fun v S2 H2 g2 r => q v S2 H2 g2 ?_
      cases x1 with
      | none => exact r
      | some a =>
        cases x2 with
        | none => exact r
        | some b => cases h
    · cases x1 with
      | none => cases h
      | some a =>
        cases x2 with
        | none => cases h
        | some b => exact s_ret (ev_add (i := a) (j := b) (ev_var rfl rfl) (ev_var rfl rfl)) g1 q

abbrev sp_greater : Sp := sp2 rNum rNum rNum (fun _ _ => True) Rb23.top
theorem sc_greater : FnScope ["one", "other"] ["one", "other"] (defScope s_greater) := ⟨rfl, rfl, rfl, by decide +kernel, rfl, by decide +kernel, by decide +kernel⟩
theorem ok_greater {f : Addr} {fd : FuncData} (F : Fun K "greater" "greater" s_greater f fd) : FnOk P w K mg base CX0 1 f fd ["one", "other"] sp_greater := by
  refine F.ok sc_greater (fun vs H Q E h => ?_) (fun cdv A outer s H vs Q E hr h => ?_)
  · obtain ⟨v1, x1, v2, x2, S, rfl, _⟩ := h
    rfl
  · obtain ⟨v1, x1, v2, x2, S, rfl, e, r1, r2, hp, q⟩ := h
    try dsimp only at q
    refine ⟨_, (pss_cons (ps_if (pt_cmp (pc_isN (pv 0))) (pss_one (ps_ret (pv 1))) pss_nil)
      (pss_cons (ps_if (PW.pt (pw_or (pt_cmp (pc_isN (pv 1))) (pw_or1 (pt_cmpR op_lt (pv 1) (pv 0) (nomark _))))) (pss_one (ps_ret (pv 0))) pss_nil)
      (pss_one (ps_ret (pv 1))))), ?_⟩
    cases r1
    cases r2
    refine q_when (et_none (ev_var rfl rfl)) (Gr.refl e) (fun h S1 H1 g1 _ => ?_) (fun h S1 H1 g1 s1 => ?_)
    · cases x1 with
      | none => exact s_ret (ev_var rfl rfl) g1 q
      | some a => cases h
    · cases x1 with
      | none => cases h
      | some a =>
        refine q_when (b := x2.isNone || (x2.getD 0 < a)) (et_or (et_none (ev_var rfl rfl)) fun h => ?_) g1 (fun h S2 H2 g2 _ => ?_) (fun h S2 H2 g2 _ => ?_)
        · cases x2 with
          | none => cases h
          | some b => exact et_test (ev_I0 (i := b) (j := a) (ev_var rfl rfl) (ev_var rfl rfl) fun _ => rfl)
        · refine s_ret (R := rNum) (x := some a) (ev_var rfl rfl) g2 fun v S3 H3 g3 r3 => q v S3 H3 g3 ?_
          cases x2 with
          | none => exact r3
          | some b =>
            have h : b < a := of_decide_eq_true h
            show v = nV (some (max a b))
            rw [Int.max_eq_left (by omega)]
            exact r3
        · cases x2 with
          | none => cases h
          | some b =>
            refine s_ret (R := rNum) (x := some b) (ev_var rfl rfl) g2 fun v S3 H3 g3 r3 => q v S3 H3 g3 ?_
            have h : ¬ b < a := of_decide_eq_false h
            show v = nV (some (max a b))
            rw [Int.max_eq_right (by omega)]
            exact r3

abbrev sp_common : Sp := sp2 rNat rNat rNat (fun _ _ => True) Nat.gcd
theorem sc_common : FnScope ["one", "other", "high", "low", "rest"] ["one", "other"] (defScope s_common) := ⟨rfl, rfl, rfl, by decide +kernel, rfl, by decide +kernel, by decide +kernel⟩
theorem ok_common {f : Addr} {fd : FuncData} (F : Fun K "common" "common" s_common f fd) (m_min : mg "min" = none) (m_max : mg "max" = none) : FnOk P w K mg base CX0 1 f fd ["one", "other"] sp_common := by
  refine F.ok sc_common (fun vs H Q E h => ?_) (fun cdv A outer s H vs Q E hr h => ?_)
  · obtain ⟨v1, x1, v2, x2, S, rfl, _⟩ := h
    rfl
  · obtain ⟨v1, x1, v2, x2, S, rfl, e, r1, r2, hp, q⟩ := h
    try dsimp only at q
    refine ⟨_, (pss_cons (ps_set (i := 2) sc_common.nd rfl (Or.inl rfl) (pe_callB (call_max2 rfl) (by rfl) m_max (by decide +kernel) (pa_cons (pv 0) (pa_cons (pv 1) pa_nil))))
      (pss_cons (ps_set (i := 3) sc_common.nd rfl (Or.inl rfl) (pe_callB (call_min2 rfl) (by rfl) m_min (by decide +kernel) (pa_cons (pv 0) (pa_cons (pv 1) pa_nil))))
      (pss_cons (ps_while PassesOwn.never (pt_cmpR op_gt (pv 3) pe_int (nomark _)) (pss_cons (ps_set (i := 4) sc_common.nd rfl (Or.inl rfl) (pe_op op_mod (pv 2) (pv 3)))
      (pss_cons (ps_set (i := 2) sc_common.nd rfl (Or.inl rfl) (pv 3))
      (pss_one (ps_set (i := 3) sc_common.nd rfl (Or.inl rfl) (pv 4))))))
      (pss_one (ps_ret (pv 2)))))), ?_⟩
    cases r1
    cases r2
    refine q_asg (R := rNat) (x := max x1 x2) (ev_max (ev_var rfl rfl) (ev_var rfl rfl)) (Gr.refl e) fun v3 S1 H1 g1 s1 r3 => ?_
    refine q_asg (R := rNat) (x := min x1 x2) (ev_min (ev_var rfl rfl) (ev_var rfl rfl)) g1 fun v4 S2 H2 g2 s2 r4 => ?_
    cases r3
    cases r4
    refine while_by (fun σ H' => H' = H2 ∧ ∃ (hi lo : Nat) (y : Option V), σ = [some (.int (x1 : Int)), some (.int (x2 : Int)), some (.int (hi : Int)), some (.int (lo : Int)), y] ∧ Nat.gcd hi lo = Nat.gcd x1 x2) (fun σ _ => match σ with | [_, _, _, some (.int lo), _] => lo.toNat | _ => 0) ⟨rfl, max x1 x2, min x1 x2, none, rfl, ?_⟩ (fun σ H' hP => ?_) (fun σ H' Q Q' hQ h => ?_)
    · rcases Nat.le_total x1 x2 with h | h
      · rw [Nat.max_eq_right h, Nat.min_eq_left h, Nat.gcd_comm]
      · rw [Nat.max_eq_left h, Nat.min_eq_right h]
    · obtain ⟨rfl, hi, lo, y, rfl, hg⟩ := hP
      refine ⟨.int (lo : Int), rfl, (lo : Int), 0, rfl, rfl, _, rfl, ite2 (fun h => ?_) (fun h => ?_)⟩
      · have h : (0 : Int) < (lo : Int) := of_decide_eq_true h
        refine ⟨.int (hi : Int), rfl, .int (lo : Int), rfl, (hi : Int), (lo : Int), rfl, rfl, h, ?_⟩
        refine ⟨.int (lo : Int), rfl, .int ((hi : Int) % (lo : Int)), rfl, ⟨rfl, lo, hi % lo, some (.int ((hi : Int) % (lo : Int))), ?_, ?_⟩, ?_⟩
        · rw [Int.natCast_emod]
          rfl
        · rw [← hg, Nat.gcd_comm hi lo, Nat.gcd_rec lo hi, Nat.gcd_comm]
        · show ((hi : Int) % (lo : Int)).toNat < (lo : Int).toNat
          have h1 := Int.emod_lt_of_pos (hi : Int) h
          have h2 := Int.emod_nonneg (hi : Int) (Int.ne_of_gt h)
          omega
      · have h : ¬ (0 : Int) < (lo : Int) := fun z => h (decide_eq_true z)
        have h0 : lo = 0 := by omega
        subst h0
        refine s_ret (R := rNat) (x := Nat.gcd x1 x2) (ev_var rfl ?_) g2 q
        rw [← hg, Nat.gcd_zero_right]
        rfl
    · obtain ⟨v, h1, i, j, h2, h3, k, h4, h5⟩ := h
      exact ⟨v, h1, i, j, h2, h3, k, h4, hQ _ _ h5⟩

abbrev sp_column : Sp := sp2 (rL (rL rNum)) rInt (rL rNum) (fun m j => ∃ n : Nat, n ≤ 16 ∧ WsM.Sq n m ∧ 0 ≤ j ∧ j < n) (fun m j => m.map fun r => r.getD j.toNat none)
theorem sc_column : FnScope ["matrix", "j", "row"] ["matrix", "j"] (defScope s_column) := ⟨rfl, rfl, rfl, by decide +kernel, rfl, by decide +kernel, by decide +kernel⟩
theorem ok_column {f : Addr} {fd : FuncData} (F : Fun K "column" "column" s_column f fd) : FnOk P w K mg base CX0 1 f fd ["matrix", "j"] sp_column := by
  refine F.ok sc_column (fun vs H Q E h => ?_) (fun cdv A outer s H vs Q E hr h => ?_)
  · obtain ⟨v1, x1, v2, x2, S, rfl, _⟩ := h
    rfl
  · obtain ⟨v1, x1, v2, x2, S, rfl, e, r1, r2, hp, q⟩ := h
    try dsimp only at q
    refine ⟨_, (pss_one (ps_ret (pe_lc (own := [("row", 2)]) (wi := (iList K (tVar 0))) (g := (gName 2)) (tt := tYes) (te := (tOp (rIxL K) (tVar 2) (tVar 1))) rfl sc_column.nd (pi_list (pv 0)) (blkOk_by (N := ["matrix", "j", "row"]) (sc := (defScope s_column)) (by decide +kernel)) (fun _ _ _ _ _ => (pg_name (i := 2) sc_column.nd rfl (Or.inl rfl))) (fun _ _ _ _ _ => pts_nil) (fun _ _ _ _ _ => (pe_ix ix_list (pv 2) (pv 1) (fun _ _ => rfl)))))), ?_⟩
    obtain ⟨n, hn, hs, h0, hj⟩ := hp
    obtain ⟨j, rfl⟩ : ∃ j : Nat, x2 = (j : Int) := ⟨x2.toNat, by omega⟩
    refine s_ret (ev_lcY (fun r : List (Option Int) => r.getD j none) (src_list (ev_var rfl r1)) (by rw [hs.1]; omega) (fun _ => rfl) fun r hr v S1 s1 rr => ?_) (Gr.refl e) q
    have hl := hs.2 r hr
    refine ev_ix (ev_var rfl rr) (ev_var rfl r2) ?_
    rw [List.getElem?_eq_getElem (by omega), List.getD_eq_getElem?_getD, List.getElem?_eq_getElem (by omega)]
    rfl

abbrev sp_unit_row : Sp := sp2 rInt rInt (rL rNum) (fun n i => 0 ≤ i ∧ i < n ∧ n ≤ 16) (fun n i => (List.range n.toNat).map fun j => if i.toNat = j then some 0 else none)
theorem sc_unit_row : FnScope ["n", "i", "row", "j"] ["n", "i"] (defScope s_unit_row) := ⟨rfl, rfl, rfl, by decide +kernel, rfl, by decide +kernel, by decide +kernel⟩
theorem ok_unit_row {f : Addr} {fd : FuncData} (F : Fun K "unit_row" "unit_row" s_unit_row f fd) (m_range : mg "range" = none) : FnOk P w K mg base CX0 1 f fd ["n", "i"] sp_unit_row := by
  refine F.ok sc_unit_row (fun vs H Q E h => ?_) (fun cdv A outer s H vs Q E hr h => ?_)
  · obtain ⟨v1, x1, v2, x2, S, rfl, _⟩ := h
    rfl
  · obtain ⟨v1, x1, v2, x2, S, rfl, e, r1, r2, hp, q⟩ := h
    try dsimp only at q
    refine ⟨_, (pss_cons (ps_setLc (i := 2) (own := [("j", 3)]) (wi := (iRng1 (tCons (tVar 0) tNil))) (g := (gName 3)) (tt := tYes) (te := (tC .non)) rfl sc_unit_row.nd rfl rfl (sw_true rfl rfl rfl (by decide +kernel)) (pi_range1 (by rfl) m_range (pa_cons (pv 0) pa_nil)) (blkOk_by (N := ["n", "i", "row", "j"]) (sc := (defScope s_unit_row)) (by decide +kernel)) (fun _ _ _ _ _ => (pg_name (i := 3) sc_unit_row.nd rfl (Or.inl rfl))) (fun _ _ _ _ _ => pts_nil) (fun _ _ _ _ _ => pe_non))
      (pss_cons (ps_asg pe_int (pg_sub (pv 2) (pv 1) set_list))
      (pss_one (ps_ret (pv 2))))), ?_⟩
    obtain ⟨h0, h1, h16⟩ := hp
    obtain ⟨n, rfl⟩ : ∃ n : Nat, x1 = (n : Int) := ⟨x1.toNat, by omega⟩
    obtain ⟨i, rfl⟩ : ∃ i : Nat, x2 = (i : Int) := ⟨x2.toNat, by omega⟩
    refine q_new (R := rNum) (en_lcY (fun _ => (none : Option Int)) (src_range (n := n) (by omega) (ev_var rfl r1)) (by rw [List.length_range]; omega) (fun _ => rfl) fun _ _ _ _ _ _ => ev_c rfl) (Gr.refl e) fun p vs S1 H1 hB g1 hp s1 pr => ?_
    have ev := paired_flat.mp pr
    have hl : vs.length = n := by rw [ev]; simp
    refine q_setL (R := rNum) (x := some 0) g1 hp (i := 2) (j := i) rfl (ev_c rfl) (ev_var rfl (rInt.mono s1 r2)) (by omega) fun v S2 H2 g2 hp2 s2 rv => ?_
    cases rv
    have g3 := g2.shut hp2 hB
    refine s_ret (R := rL rNum) (ev_var rfl (rL_flat.mpr ⟨p, rfl, ?_⟩)) g3 q
    rw [upd_same, ev]
    refine congrArg (fun z => some (HO.lst z)) ?_
    show _ = ((List.range n).map fun j => if i = j then some 0 else none).map nV
    apply List.ext_getElem
    · simp
    · intro k k1 k2
      simp only [List.getElem_set, List.getElem_map, List.getElem_range]
      by_cases hk : i = k
      · rw [if_pos hk, if_pos hk]
      · rw [if_neg hk, if_neg hk]

abbrev sp_changed_number : Sp := sp3 rNum rInt rInt rNum (fun _ t _ => 0 ≤ t ∧ t ≤ 16) (fun x t d => x.map fun s => t * s - d)
theorem sc_changed_number : FnScope ["number", "times", "less"] ["number", "times", "less"] (defScope s_changed_number) := ⟨rfl, rfl, rfl, by decide +kernel, rfl, by decide +kernel, by decide +kernel⟩
theorem ok_changed_number {f : Addr} {fd : FuncData} (F : Fun K "changed_number" "changed_number" s_changed_number f fd) : FnOk P w K mg base CX0 1 f fd ["number", "times", "less"] sp_changed_number := by
  refine F.ok sc_changed_number (fun vs H Q E h => ?_) (fun cdv A outer s H vs Q E hr h => ?_)
  · obtain ⟨v1, x1, v2, x2, v3, x3, S, rfl, _⟩ := h
    rfl
  · obtain ⟨v1, x1, v2, x2, v3, x3, S, rfl, e, r1, r2, r3, hp, q⟩ := h
    try dsimp only at q
    refine ⟨_, (pss_cons (ps_if (pt_cmp (pc_isN (pv 0))) (pss_one (ps_ret pe_non)) pss_nil)
      (pss_one (ps_ret (pe_op op_sub (pe_op op_mul (pv 1) (pv 0)) (pv 2))))), ?_⟩
    cases r1
    cases r2
    cases r3
    refine q_when (et_none (x := x1) (ev_var rfl rfl)) (Gr.refl e) (fun h S1 H1 g1 _ => ?_) (fun h S1 H1 g1 s1 => ?_)
    · cases x1 with
      | none => exact s_ret (ev_c (R := rNum) (x := none) rfl) g1 q
      | some z => cases h
    · cases x1 with
      | none => cases h
      | some z => exact s_ret (EvR.num (ev_sub (ev_mul (i := x2) (j := z) (.inl ⟨by omega, by omega⟩) (ev_var rfl rfl) (ev_var rfl rfl)) (ev_var rfl rfl))) g1 q

abbrev sp_is_greater : Sp := sp2 rM (rO rM) rBool (fun m o => m.2 ≤ 16 ∧ ∀ x, o = some x → x.2 ≤ 16) WsM.isGr
theorem sc_is_greater : FnScope ["one", "other"] ["one", "other"] (defScope s_is_greater) := ⟨rfl, rfl, rfl, by decide +kernel, rfl, by decide +kernel, by decide +kernel⟩
theorem ok_is_greater {f : Addr} {fd : FuncData} (F : Fun K "is_greater" "is_greater" s_is_greater f fd) : FnOk P w K mg base CX0 1 f fd ["one", "other"] sp_is_greater := by
  refine F.ok sc_is_greater (fun vs H Q E h => ?_) (fun cdv A outer s H vs Q E hr h => ?_)
  · obtain ⟨v1, x1, v2, x2, S, rfl, _⟩ := h
    rfl
  · obtain ⟨v1, x1, v2, x2, S, rfl, e, r1, r2, hp, q⟩ := h
    try dsimp only at q
    refine ⟨_, (pss_cons (ps_if (pt_cmp (pc_isN (pv 1))) (pss_one (ps_ret pe_bl)) pss_nil)
      (pss_one (ps_ret (pe_cmpR op_gt (pe_op op_mul (pe_ix ix_tup (pv 0) pe_int (fun _ _ => rfl)) (pe_ix ix_tup (pv 1) pe_int (fun _ _ => rfl))) (pe_op op_mul (pe_ix ix_tup (pv 1) pe_int (fun _ _ => rfl)) (pe_ix ix_tup (pv 0) pe_int (fun _ _ => rfl))) (nomark _))))), ?_⟩
    obtain ⟨h1, h2⟩ := hp
    refine q_when (et_noneO (ev_var rfl r2)) (Gr.refl e) (fun h S1 H1 g1 s1 => ?_) (fun h S1 H1 g1 s1 => ?_)
    · cases x2 with
      | none => exact s_ret (ev_c (R := rBool) (x := true) rfl) g1 q
      | some o => cases h
    · cases x2 with
      | none => cases h
      | some o =>
        have ho := h2 o rfl
        have ra := rM.mono s1 r1
        have rb : rM.is S1 v2 o := rM.mono s1 r2.2
        refine s_ret (R := rBool) (ev_I0 (i := x1.1 * (o.2 : Int)) (j := o.1 * (x1.2 : Int)) (ev_mul (.inr ⟨by omega, by omega⟩) (ev_fst (ev_var rfl ra) (ev_c rfl)) (ev_snd (R' := rNat) (ev_var rfl rb) (ev_c rfl)).int) (ev_mul (.inr ⟨by omega, by omega⟩) (ev_fst (ev_var rfl rb) (ev_c rfl)) (ev_snd (R' := rNat) (ev_var rfl ra) (ev_c rfl)).int) fun _ => rfl) g1 q

abbrev sp_is_equal : Sp := sp2 rM rM rBool (fun m o => m.2 ≤ 16 ∧ o.2 ≤ 16) (fun a b => a.1 * (b.2 : Int) == b.1 * (a.2 : Int))
theorem sc_is_equal : FnScope ["one", "other"] ["one", "other"] (defScope s_is_equal) := ⟨rfl, rfl, rfl, by decide +kernel, rfl, by decide +kernel, by decide +kernel⟩
theorem ok_is_equal {f : Addr} {fd : FuncData} (F : Fun K "is_equal" "is_equal" s_is_equal f fd) : FnOk P w K mg base CX0 1 f fd ["one", "other"] sp_is_equal := by
  refine F.ok sc_is_equal (fun vs H Q E h => ?_) (fun cdv A outer s H vs Q E hr h => ?_)
  · obtain ⟨v1, x1, v2, x2, S, rfl, _⟩ := h
    rfl
  · obtain ⟨v1, x1, v2, x2, S, rfl, e, r1, r2, hp, q⟩ := h
    try dsimp only at q
    refine ⟨_, (pss_one (ps_ret (pe_cmpR op_eq (pe_op op_mul (pe_ix ix_tup (pv 0) pe_int (fun _ _ => rfl)) (pe_ix ix_tup (pv 1) pe_int (fun _ _ => rfl))) (pe_op op_mul (pe_ix ix_tup (pv 1) pe_int (fun _ _ => rfl)) (pe_ix ix_tup (pv 0) pe_int (fun _ _ => rfl))) (nomark _)))), ?_⟩
    obtain ⟨h1, h2⟩ := hp
    refine s_ret (R := rBool) (ev_eq (v := .non) (w := .non) (R := rInt) (x := x1.1 * (x2.2 : Int)) (R' := rInt) (y := x2.1 * (x1.2 : Int)) (ev_mul (.inr ⟨by omega, by omega⟩) (ev_fst (ev_var rfl r1) (ev_c rfl)) (ev_snd (R' := rNat) (ev_var rfl r2) (ev_c rfl)).int) (ev_mul (.inr ⟨by omega, by omega⟩) (ev_fst (ev_var rfl r2) (ev_c rfl)) (ev_snd (R' := rNat) (ev_var rfl r1) (ev_c rfl)).int) ?_) (Gr.refl e) q
    rintro S v w rfl rfl
    refine ⟨rfl, ?_⟩
    rw [Bool.eq_iff_iff, decide_eq_true_eq, beq_iff_eq]
    exact ⟨V.int.inj, fun h => by rw [h]⟩

abbrev sp_is_on : Sp := sp2 rNum rNum rBool (fun _ _ => True) WsM.isOn
theorem sc_is_on : FnScope ["step", "back"] ["step", "back"] (defScope s_is_on) := ⟨rfl, rfl, rfl, by decide +kernel, rfl, by decide +kernel, by decide +kernel⟩
theorem ok_is_on {f : Addr} {fd : FuncData} (F : Fun K "is_on" "is_on" s_is_on f fd) : FnOk P w K mg base CX0 1 f fd ["step", "back"] sp_is_on := by
  refine F.ok sc_is_on (fun vs H Q E h => ?_) (fun cdv A outer s H vs Q E hr h => ?_)
  · obtain ⟨v1, x1, v2, x2, S, rfl, _⟩ := h
    rfl
  · obtain ⟨v1, x1, v2, x2, S, rfl, e, r1, r2, hp, q⟩ := h
    try dsimp only at q
    refine ⟨_, (pss_one (ps_ret (pe_and (pe_cmp (pc_notN (pv 0))) (pe_and (pe_cmp (pc_notN (pv 1))) (pe_one (pe_cmpR op_eq (pe_op op_add (pv 0) (pv 1)) pe_int (nomark _))))))), ?_⟩
    cases r1
    cases r2
    refine s_ret (R := rBool) (EvR.is (x := (x1.isSome && (x2.isSome && WsM.isOn x1 x2))) (ev_andV (ev_notN (R := rNum) (x := x1) (ev_var rfl rfl) fun S v r => ?_) fun h => ev_andV (ev_notN (R := rNum) (x := x2) (ev_var rfl rfl) fun S v r => ?_) fun h2 => ?_) ?_) (Gr.refl e) q
    · cases r
      rw [nV_non]
      cases x1 <;> rfl
    · cases r
      rw [nV_non]
      cases x2 <;> rfl
    · cases x1 with
      | none => cases h
      | some a =>
        cases x2 with
        | none => cases h2
        | some b =>
          refine ev_eq (v := .non) (w := .non) (R := rInt) (x := a + b) (R' := rInt) (y := 0) (ev_add (ev_var rfl rfl) (ev_var rfl rfl)) (ev_c rfl) ?_
          rintro S v w rfl rfl
          refine ⟨rfl, ?_⟩
          show _ = decide (some (a + b) = some 0)
          rw [Bool.eq_iff_iff, decide_eq_true_eq, decide_eq_true_eq]
          exact ⟨fun z => by rw [V.int.inj z], fun z => by rw [Option.some.inj z]⟩
    · cases x1 with
      | none => rfl
      | some a =>
        cases x2 with
        | none => rfl
        | some b => rfl

theorem set_map_bl (f : List Bool) (j : Nat) : (f.map V.bl).set j (.bl true) = (f.set j true).map V.bl := by rw [List.map_set]
abbrev sp_onward : Sp := sp2 (rL (rL rNat)) (rL rBool) (rL rBool) (fun st mk => mk.length ≤ 16 ∧ st.length = mk.length ∧ ∀ l ∈ st, l.length ≤ 16 ∧ ∀ j ∈ l, j < mk.length) WsM.onward
theorem sc_onward : FnScope ["steps", "marked", "found", "i", "mark", "j"] ["steps", "marked"] (defScope s_onward) := ⟨rfl, rfl, rfl, by decide +kernel, rfl, by decide +kernel, by decide +kernel⟩
theorem ok_onward {f : Addr} {fd : FuncData} (F : Fun K "onward" "onward" s_onward f fd) (m_range : mg "range" = none) (m_len : mg "len" = none) : FnOk P w K mg base CX0 1 f fd ["steps", "marked"] sp_onward := by
  refine F.ok sc_onward (fun vs H Q E h => ?_) (fun cdv A outer s H vs Q E hr h => ?_)
  · obtain ⟨v1, x1, v2, x2, S, rfl, _⟩ := h
    rfl
  · obtain ⟨v1, x1, v2, x2, S, rfl, e, r1, r2, hp, q⟩ := h
    try dsimp only at q
    refine ⟨_, (pss_cons (ps_setLc (i := 2) (own := [("mark", 4)]) (wi := (iList K (tVar 1))) (g := (gName 4)) (tt := tYes) (te := (tC (.bl false))) rfl sc_onward.nd rfl rfl (sw_true rfl rfl rfl (by decide +kernel)) (pi_list (pv 1)) (blkOk_by (N := ["steps", "marked", "found", "i", "mark", "j"]) (sc := (defScope s_onward)) (by decide +kernel)) (fun _ _ _ _ _ => (pg_name (i := 4) sc_onward.nd rfl (Or.inl rfl))) (fun _ _ _ _ _ => pts_nil) (fun _ _ _ _ _ => pe_bl))
      (pss_cons (ps_for PassesOwn.never rfl (pi_range1 (by rfl) m_range (pa_cons (pe_callB call_len_seq (by rfl) m_len (by decide +kernel) (pa_cons (pv 1) pa_nil)) pa_nil)) (pg_name (i := 3) sc_onward.nd rfl (Or.inl rfl)) (pss_one (ps_if (pt_val (pe_ix ix_list (pv 1) (pv 3) (fun _ _ => rfl))) (pss_one (ps_for PassesOwn.never rfl (pi_list (pe_ix ix_list (pv 0) (pv 3) (fun _ _ => rfl))) (pg_name (i := 5) sc_onward.nd rfl (Or.inl rfl)) (pss_one (ps_asg pe_bl (pg_sub (pv 2) (pv 5) set_list))))) pss_nil)))
      (pss_one (ps_ret (pv 2))))), ?_⟩
    obtain ⟨hn, hl, hj⟩ := hp
    refine q_new (R := rBool) (en_lcY (fun _ : Bool => false) (src_list (ev_var rfl r2)) (by omega) (fun _ => rfl) fun _ _ _ _ _ _ => ev_c rfl) (Gr.refl e) fun p vs S1 H1 hB g1 hp s1 pr => ?_
    have ev := paired_flat.mp pr
    have r1' := (rL (rL rNat)).mono s1 r1
    have r2' := (rL rBool).mono s1 r2
    refine q_forO (fun i σ' S' vs => vs = (WsM.onwardTo x1 x2 i).map V.bl ∧ (rL (rL rNat)).is S' v1 x1 ∧ (rL rBool).is S' v2 x2 ∧ ∃ y z, σ' = [some v1, some v2, some (.ref p), y, none, z])
      (src_range (n := x2.length) (by omega) (ev_len (ev_var rfl r2'))) g1 hp (fun S4 s4 => ⟨ev, (rL (rL rNat)).mono s4 r1', (rL rBool).mono s4 r2', none, none, rfl⟩) (fun i σ' S4 S5 vs s h => ?_) (fun S0 s0 i x σ' S4 H4 vs v hx g4 hp4 s4 hP rx => ?_) (fun σ' S4 H4 vs g4 hp4 s4 hP => ?_)
    · obtain ⟨a1, a2, a3, a4⟩ := h
      exact ⟨a1, (rL (rL rNat)).mono s a2, (rL rBool).mono s a3, a4⟩
    · obtain ⟨a1, a2, a3, y, z, rfl⟩ := hP
      have hi : i < x2.length := by
        have := (List.getElem?_eq_some_iff.mp hx).1
        simpa using this
      rw [List.getElem?_range hi] at hx
      have ex : i = x := Option.some.inj hx
      subst ex
      cases rx
      have g2 : x2[i]? = some (x2.getD i false) := by
        rw [List.getD_eq_getElem?_getD, List.getElem?_eq_getElem hi]
        rfl
      have g1' : x1[i]? = some (x1.getD i []) := by
        rw [List.getD_eq_getElem?_getD, List.getElem?_eq_getElem (by omega)]
        rfl
      have hsi := hj _ (List.mem_of_getElem? g1')
      have tst : EvT (tB (tOp (rIxL K) (tVar 1) (tVar 3))) [some v1, some v2, some (.ref p), some (.int (i : Int)), none, z] S4 (x2.getD i false) := et_B (ev_ix (j := i) (ev_var rfl a3) (ev_var rfl rfl) g2)
      refine tst H4 g4.hole_same _ fun S5 H5 g5 => ?_
      obtain ⟨c1, c2⟩ := g4.hole hp4 g5
      rw [a1] at c2
      rw [WsM.onwardTo_succ]
      have hF := WsM.onwardTo_len x1 x2 i
      generalize hb : x2.getD i false = b
      generalize hFF : WsM.onwardTo x1 x2 i = F at c2 hF
      generalize hss : x1.getD i [] = st at g1' hsi
      cases b with
      | true =>
        refine iteT ?_
        refine for_open (fun k σ' S' vs => vs = (WsM.marks (st.take k) F).map V.bl ∧ (rL (rL rNat)).is S' v1 x1 ∧ (rL rBool).is S' v2 x2 ∧ ∃ z, σ' = [some v1, some v2, some (.ref p), some (.int (i : Int)), none, z]) (src_list (R := rNat) (l := st) (ev_ix (R := rL rNat) (j := i) (ev_var rfl ((rL (rL rNat)).mono g5.ss a2)) (ev_var rfl rfl) g1')) c1 c2 (fun S6 s6 => ⟨rfl, (rL (rL rNat)).mono (g5.ss.trans s6) a2, (rL rBool).mono (g5.ss.trans s6) a3, z, rfl⟩) (fun k σ' S6 S7 vs s h => ?_) (fun S00 s00 k j σ' S6 H6 ws w hjx g6 hp6 s6 hP rj => ?_) (fun σ' S6 H6 ws g6 hp6 s6 hP => ?_)
        · obtain ⟨b1, b2, b3, b4⟩ := h
          exact ⟨b1, (rL (rL rNat)).mono s b2, (rL rBool).mono s b3, b4⟩
        · obtain ⟨b1, b2, b3, z2, rfl⟩ := hP
          cases rj
          have hjl := hsi.2 j (List.mem_of_getElem? hjx)
          have hws : ws.length = x2.length := by rw [b1, List.length_map, WsM.marks_len, hF]
          refine s_setL (R := rBool) (x := true) g6 hp6 (i := 2) (j := j) rfl (ev_c rfl) (ev_var rfl rfl) (by omega) fun u S7 H7 g7 hp7 s7 ru => ?_
          cases ru
          refine ⟨S7, _, g7, hp7, s6.trans s7, ?_, (rL (rL rNat)).mono s7 b2, (rL rBool).mono s7 b3, _, rfl⟩
          rw [b1, set_map_bl, take_succ_get hjx]
          unfold WsM.marks
          rw [List.foldl_append]
          rfl
        · obtain ⟨b1, b2, b3, z2, rfl⟩ := hP
          rw [List.take_length] at b1
          exact ⟨S6, ws, g6, hp6, (s4.trans g5.ss).trans s6, by rw [b1, if_pos rfl], b2, b3, _, _, rfl⟩
      | false =>
        exact iteF ⟨S5, _, c1, c2, s4.trans g5.ss, by rw [if_neg Bool.false_ne_true], (rL (rL rNat)).mono g5.ss a2, (rL rBool).mono g5.ss a3, _, _, rfl⟩
    · obtain ⟨a1, a2, a3, y, z, rfl⟩ := hP
      rw [List.length_range] at a1
      refine s_ret (R := rL rBool) (x := WsM.onward x1 x2) (ev_var rfl (rL_flat.mpr ⟨p, rfl, ?_⟩)) (g4.shut hp4 hB) q
      rw [upd_same, a1]
      rfl

abbrev sp_greatest : Sp := sp1 (rL rNum) rNum (fun _ => True) Rb23.best
theorem sc_greatest : FnScope ["numbers", "found", "number"] ["numbers"] (defScope s_greatest) := ⟨rfl, rfl, rfl, by decide +kernel, rfl, by decide +kernel, by decide +kernel⟩
theorem ok_greatest {f : Addr} {fd : FuncData} (F : Fun K "greatest" "greatest" s_greatest f fd) (c_greater : Cal P w K mg base "greater" 1 ["one", "other"] sp_greater) : FnOk P w K mg base CX0 2 f fd ["numbers"] sp_greatest := by
  refine F.ok sc_greatest (fun vs H Q E h => ?_) (fun cdv A outer s H vs Q E hr h => ?_)
  · obtain ⟨v1, x1, S, rfl, _⟩ := h
    rfl
  · obtain ⟨v1, x1, S, rfl, e, r1, hp, q⟩ := h
    try dsimp only at q
    refine ⟨_, (pss_cons (ps_set (i := 1) sc_greatest.nd rfl (Or.inl rfl) pe_non)
      (pss_cons (ps_for PassesOwn.never rfl (pi_list (pv 0)) (pg_name (i := 2) sc_greatest.nd rfl (Or.inl rfl)) (pss_one (ps_set (i := 1) sc_greatest.nd rfl (Or.inl rfl) (pe_cal c_greater (hr.mono (by decide)) (by rfl) (pa_cons (pv 1) (pa_cons (pv 2) pa_nil))))))
      (pss_one (ps_ret (pv 1))))), ?_⟩
    refine q_asg (ev_c (R := rNum) (x := none) rfl) (Gr.refl e) fun v2 S1 H1 g1 s1 rv => ?_
    cases rv
    refine q_for (fun i σ' S' => ∃ y, σ' = [some v1, some (nV ((x1.take i).foldl Rb23.top none)), y]) (src_list (ev_var rfl ((rL rNum).mono s1 r1))) g1 (fun _ _ => ⟨none, rfl⟩) (fun _ _ _ _ _ h => h) (fun S0 s0 i x σ' S2 H2 v hx g2 s2 hP rx => ?_) (fun σ' S2 H2 g2 s2 hP => ?_)
    · obtain ⟨y, rfl⟩ := hP
      refine s_asg (ev_call2 (ev_var rfl rfl) (ev_var rfl rx) trivial) g2 fun v3 S3 H3 g3 s3 r3 => ⟨S3, g3, s2.trans s3, some v, ?_⟩
      rw [take_succ_get hx, List.foldl_append]
      cases r3
      rfl
    · obtain ⟨y, rfl⟩ := hP
      rw [List.take_length]
      exact s_ret (ev_var rfl rfl) g2 q

theorem rowsOf_eq (n : Nat) : ∀ (k : Nat) (l : List Int), Rb23Neutral.rowsOf n k l = (List.range k).map fun i => ((l.drop (i * n)).take ((i + 1) * n - i * n)).map Rb23Neutral.num
  | 0, _ => rfl
  | k + 1, l => by
    show (l.take n).map Rb23Neutral.num :: Rb23Neutral.rowsOf n k (l.drop n) = _
    rw [rowsOf_eq n k (l.drop n), List.range_succ_eq_map, List.map_cons, List.map_map]
    refine congr (congrArg _ ?_) (List.map_congr_left fun i _ => ?_)
    · simp
    · show _ = ((l.drop ((i + 1) * n)).take ((i + 1 + 1) * n - (i + 1) * n)).map Rb23Neutral.num
      rw [List.drop_drop]
      have e1 : n + i * n = (i + 1) * n := by rw [Nat.succ_mul, Nat.add_comm]
      have e2 : (i + 1) * n - i * n = (i + 1 + 1) * n - (i + 1) * n := by rw [Nat.succ_mul (i + 1), Nat.succ_mul i]; omega
      rw [e1, e2]
abbrev sp_matrix_of (K : PySem.W.Frag) : Sp := sp2 rInt (rA K V.int) (rL (rL rNum)) (fun n l => 1 ≤ n ∧ n ≤ 16 ∧ ∀ d ∈ l, 0 ≤ d) Rb23Neutral.mat
theorem sc_matrix_of : FnScope ["n", "spelled", "i", "number"] ["n", "spelled"] (defScope s_matrix_of) := ⟨rfl, rfl, rfl, by decide +kernel, rfl, by decide +kernel, by decide +kernel⟩
theorem ok_matrix_of {f : Addr} {fd : FuncData} (F : Fun K "matrix_of" "matrix_of" s_matrix_of f fd) (c_read : Cal P w K mg base "read" 1 ["spelled"] sp_read) (m_range : mg "range" = none) : FnOk P w K mg base CX0 2 f fd ["n", "spelled"] (sp_matrix_of K) := by
  refine F.ok sc_matrix_of (fun vs H Q E h => ?_) (fun cdv A outer s H vs Q E hr h => ?_)
  · obtain ⟨v1, x1, v2, x2, S, rfl, _⟩ := h
    rfl
  · obtain ⟨v1, x1, v2, x2, S, rfl, e, r1, r2, hp, q⟩ := h
    try dsimp only at q
    refine ⟨_, (pss_one (ps_ret (pe_lc (own := [("i", 2)]) (wi := (iRng1 (tCons (tVar 0) tNil))) (g := (gName 2)) (tt := tYes) (te := (tLc (iList K (tSl (rSlL K) (tVar 1) (tPart (tOp _ (tVar 2) (tVar 0))) (tPart (tOp _ (tOp _ (tVar 2) (tC (.int 1))) (tVar 0))))) (gName 3) tYes (tCall sp_read [] E0 (tCons (tVar 3) tNil)) _)) rfl sc_matrix_of.nd (pi_range1 (by rfl) m_range (pa_cons (pv 0) pa_nil)) (blkOk_by (N := ["n", "spelled", "i", "number"]) (sc := (defScope s_matrix_of)) (by decide +kernel)) (fun _ _ _ _ _ => (pg_name (i := 2) sc_matrix_of.nd rfl (Or.inl rfl))) (fun _ _ _ _ _ => pts_nil) (fun _ _ _ _ _ => (pe_lc (own := [("number", 3)]) (wi := (iList K (tSl (rSlL K) (tVar 1) (tPart (tOp _ (tVar 2) (tVar 0))) (tPart (tOp _ (tOp _ (tVar 2) (tC (.int 1))) (tVar 0)))))) (g := (gName 3)) (tt := tYes) (te := (tCall sp_read [] E0 (tCons (tVar 3) tNil))) rfl sc_matrix_of.nd (pi_list (pe_slice sl_list (pv 1) (po_some (pe_op op_mul (pv 2) (pv 0))) (po_some (pe_op op_mul (pe_op op_add (pv 2) pe_int) (pv 0))))) (blkOk_in (blkOk_by (N := ["n", "spelled", "i", "number"]) (by decide +kernel))) (fun _ _ _ _ _ => (pg_name (i := 3) sc_matrix_of.nd rfl (Or.inl rfl))) (fun _ _ _ _ _ => pts_nil) (fun _ _ _ _ _ => (pe_cal c_read (hr.mono (by decide)) (by rfl) (pa_cons (pv 3) pa_nil)))))))), ?_⟩
    obtain ⟨h1, h16, h0⟩ := hp
    obtain ⟨n, rfl⟩ : ∃ n : Nat, x1 = (n : Int) := ⟨x1.toNat, by omega⟩
    have em : Rb23Neutral.mat (n : Int) x2 = (List.range n).map fun i => ((x2.drop (i * n)).take ((i + 1) * n - i * n)).map Rb23Neutral.num := by
      unfold Rb23Neutral.mat
      rw [Int.toNat_natCast]
      exact rowsOf_eq n n x2
    rw [em] at q
    refine s_ret (ev_lcY _ (src_range (n := n) (by omega) (ev_var rfl r1)) (by rw [List.length_range]; omega) (fun _ => rfl) fun i hi v S1 s1 ri => ?_) (Gr.refl e) q
    rw [List.mem_range] at hi
    have vn : ∀ {S2 : Hp}, EvR (tVar 0) [some v1, some v2, some v, none] S2 rInt (n : Int) := ev_var rfl r1
    have vi : ∀ {S2 : Hp}, EvR (tVar 2) [some v1, some v2, some v, none] S2 rInt (i : Int) := ev_var rfl ri
    refine ev_lcY _ (src_list (ev_slice (K := K) (f := V.int) (a := i * n) (b := (i + 1) * n) (Int.natCast_mul i n).symm ?_ (ev_var rfl ((rA K V.int).mono s1 r2)) (ev_mul (.inr ⟨by omega, by omega⟩) vi vn) (ev_mul (.inr ⟨by omega, by omega⟩) (ev_add vi (ev_c (x := (1 : Int)) rfl)) vn))) ?_ (fun _ => rfl) fun d hd w S2 s2 rd => ?_
    · rw [Int.natCast_mul, Int.natCast_add]
      rfl
    · rw [List.length_take]
      have h2 : (i + 1) * n - i * n = n := by rw [Nat.succ_mul]; omega
      omega
    · exact ev_call1 (ev_var rfl rd) (h0 d (List.mem_of_mem_drop (List.mem_of_mem_take hd)))

abbrev sp_unit : Sp := sp1 rInt (rL (rL rNum)) (fun n => 0 ≤ n ∧ n ≤ 16) (fun n => Rb23.one n.toNat)
theorem sc_unit : FnScope ["n", "i"] ["n"] (defScope s_unit) := ⟨rfl, rfl, rfl, by decide +kernel, rfl, by decide +kernel, by decide +kernel⟩
theorem ok_unit {f : Addr} {fd : FuncData} (F : Fun K "unit" "unit" s_unit f fd) (c_unit_row : Cal P w K mg base "unit_row" 1 ["n", "i"] sp_unit_row) (m_range : mg "range" = none) : FnOk P w K mg base CX0 2 f fd ["n"] sp_unit := by
  refine F.ok sc_unit (fun vs H Q E h => ?_) (fun cdv A outer s H vs Q E hr h => ?_)
  · obtain ⟨v1, x1, S, rfl, _⟩ := h
    rfl
  · obtain ⟨v1, x1, S, rfl, e, r1, hp, q⟩ := h
    try dsimp only at q
    refine ⟨_, (pss_one (ps_ret (pe_lc (own := [("i", 1)]) (wi := (iRng1 (tCons (tVar 0) tNil))) (g := (gName 1)) (tt := tYes) (te := (tCall sp_unit_row [] E0 (tCons (tVar 0) (tCons (tVar 1) tNil)))) rfl sc_unit.nd (pi_range1 (by rfl) m_range (pa_cons (pv 0) pa_nil)) (blkOk_by (N := ["n", "i"]) (sc := (defScope s_unit)) (by decide +kernel)) (fun _ _ _ _ _ => (pg_name (i := 1) sc_unit.nd rfl (Or.inl rfl))) (fun _ _ _ _ _ => pts_nil) (fun _ _ _ _ _ => (pe_cal c_unit_row (hr.mono (by decide)) (by rfl) (pa_cons (pv 0) (pa_cons (pv 1) pa_nil))))))), ?_⟩
    obtain ⟨h0, h16⟩ := hp
    obtain ⟨n, rfl⟩ : ∃ n : Nat, x1 = (n : Int) := ⟨x1.toNat, by omega⟩
    refine s_ret (ev_lcY (R' := rL rNum) (fun i : Nat => (List.range n).map fun j => if i = j then some 0 else none) (src_range (n := n) (by omega) (ev_var rfl r1)) (by rw [List.length_range]; omega) (fun _ => rfl) fun i hi v S1 s1 ri => ?_) (Gr.refl e) q
    rw [List.mem_range] at hi
    exact ev_call2 (x1 := (n : Int)) (x2 := (i : Int)) (ev_var rfl (rInt.mono s1 r1)) (ev_var rfl ri) ⟨by omega, by omega, by omega⟩

theorem both_zip {n : Nat} {a b : Rb23.Mat} (ha : WsM.Sq n a) (hb : WsM.Sq n b) : ((a.zip b).map fun p => (p.1.zip p.2).map fun q => Rb23.top q.1 q.2) = WsM.both n a b := by
  unfold WsM.both Rb23.made
  apply List.ext_getElem
  · simp [ha.1, hb.1]
  · intro i h1 h2
    have hi : i < n := by simpa using h2
    have hia : i < List.length a := by rw [ha.1]; exact hi
    have hib : i < List.length b := by rw [hb.1]; exact hi
    rw [List.getElem_map, List.getElem_map, List.getElem_range, List.getElem_zip]
    have la := ha.2 _ (List.getElem_mem hia)
    have lb := hb.2 _ (List.getElem_mem hib)
    apply List.ext_getElem
    · simp [la, lb]
    · intro j g1 g2
      have hj : j < n := by simpa using g2
      simp [WsM.entry_get hia, WsM.entry_get hib, la, lb, hj]
abbrev sp_both : Sp := sp2 (rL (rL rNum)) (rL (rL rNum)) (rL (rL rNum)) (fun a b => a.length ≤ 16 ∧ WsM.Sq a.length a ∧ WsM.Sq a.length b) (fun a b => WsM.both a.length a b)
theorem sc_both : FnScope ["one", "other", "row", "numbers", "a", "b"] ["one", "other"] (defScope s_both) := ⟨rfl, rfl, rfl, by decide +kernel, rfl, by decide +kernel, by decide +kernel⟩
theorem ok_both {f : Addr} {fd : FuncData} (F : Fun K "both" "both" s_both f fd) (c_greater : Cal P w K mg base "greater" 1 ["one", "other"] sp_greater) (m_zip : mg "zip" = none) : FnOk P w K mg base CX0 2 f fd ["one", "other"] sp_both := by
  refine F.ok sc_both (fun vs H Q E h => ?_) (fun cdv A outer s H vs Q E hr h => ?_)
  · obtain ⟨v1, x1, v2, x2, S, rfl, _⟩ := h
    rfl
  · obtain ⟨v1, x1, v2, x2, S, rfl, e, r1, r2, hp, q⟩ := h
    try dsimp only at q
    refine ⟨_, (pss_one (ps_ret (pe_lc (own := [("row", 2), ("numbers", 3)]) (wi := (iZip K (tCons (tVar 0) (tCons (tVar 1) tNil)))) (g := (gTup K 2 (gCons (gName 2) (gCons (gName 3) gNil)))) (tt := tYes) (te := (tLc (iZip K (tCons (tVar 2) (tCons (tVar 3) tNil))) (gTup K 2 (gCons (gName 4) (gCons (gName 5) gNil))) tYes (tCall sp_greater [] E0 (tCons (tVar 4) (tCons (tVar 5) tNil))) _)) rfl sc_both.nd (pi_zip (by rfl) m_zip (pa_cons (pv 0) (pa_cons (pv 1) pa_nil))) (blkOk_by (N := ["one", "other", "row", "numbers", "a", "b"]) (sc := (defScope s_both)) (by decide +kernel)) (fun _ _ _ _ _ => (pg_tup rfl (pgs_cons (pg_name (i := 2) sc_both.nd rfl (Or.inl rfl)) (pgs_cons (pg_name (i := 3) sc_both.nd rfl (Or.inl rfl)) pgs_nil)))) (fun _ _ _ _ _ => pts_nil) (fun _ _ _ _ _ => (pe_lc (own := [("a", 4), ("b", 5)]) (wi := (iZip K (tCons (tVar 2) (tCons (tVar 3) tNil)))) (g := (gTup K 2 (gCons (gName 4) (gCons (gName 5) gNil)))) (tt := tYes) (te := (tCall sp_greater [] E0 (tCons (tVar 4) (tCons (tVar 5) tNil)))) rfl sc_both.nd (pi_zip (by rfl) m_zip (pa_cons (pv 2) (pa_cons (pv 3) pa_nil))) (blkOk_in (blkOk_by (N := ["one", "other", "row", "numbers", "a", "b"]) (by decide +kernel))) (fun _ _ _ _ _ => (pg_tup rfl (pgs_cons (pg_name (i := 4) sc_both.nd rfl (Or.inl rfl)) (pgs_cons (pg_name (i := 5) sc_both.nd rfl (Or.inl rfl)) pgs_nil)))) (fun _ _ _ _ _ => pts_nil) (fun _ _ _ _ _ => (pe_cal c_greater (hr.mono (by decide)) (by rfl) (pa_cons (pv 4) (pa_cons (pv 5) pa_nil))))))))), ?_⟩
    obtain ⟨hn, ha, hb⟩ := hp
    have q : Gives S H (rL (rL rNum)) (WsM.both x1.length x1 x2) Q := q
    rw [← both_zip ha hb] at q
    refine s_ret (ev_lcP (R' := rL rNum) (fun p : List (Option Int) × List (Option Int) => (p.1.zip p.2).map fun q : Option Int × Option Int => Rb23.top q.1 q.2) (src_zip (ev_var rfl r1) (ev_var rfl r2)) (by rw [List.length_zip]; omega) (fun _ _ => rfl) fun p hp v w S1 s1 rv rw' => ?_) (Gr.refl e) q
    refine ev_lcP (R' := rNum) (fun q : Option Int × Option Int => Rb23.top q.1 q.2) (src_zip (ev_var rfl rv) (ev_var rfl rw')) ?_ (fun _ _ => rfl) fun c hc v3 w3 S3 s3 rc rd => ?_
    · have := ha.2 p.1 (List.of_mem_zip hp).1
      rw [List.length_zip]
      omega
    · exact ev_call2 (ev_var rfl rc) (ev_var rfl rd) trivial

theorem changed_map {n : Nat} {a : Rb23.Mat} (ha : WsM.Sq n a) (q : WsM.Mean) : (a.map fun r => r.map fun x : Option Int => x.map fun s => (q.2 : Int) * s - q.1) = WsM.changed n a q := by
  unfold WsM.changed Rb23.made
  apply List.ext_getElem
  · simp [ha.1]
  · intro i h1 h2
    have hi : i < n := by simpa using h2
    have hia : i < List.length a := by rw [ha.1]; exact hi
    rw [List.getElem_map, List.getElem_map, List.getElem_range]
    have la := ha.2 _ (List.getElem_mem hia)
    apply List.ext_getElem
    · simp [la]
    · intro j g1 g2
      have hj : j < n := by simpa using g2
      simp [WsM.entry_get hia, la, hj]
abbrev sp_changed : Sp := sp3 (rL (rL rNum)) rInt rInt (rL (rL rNum)) (fun m t _ => m.length ≤ 16 ∧ (∀ r ∈ m, r.length ≤ 16) ∧ 0 ≤ t ∧ t ≤ 16) (fun m t d => m.map fun r => r.map fun x => x.map fun s => t * s - d)
theorem sc_changed : FnScope ["matrix", "times", "less", "row", "number"] ["matrix", "times", "less"] (defScope s_changed) := ⟨rfl, rfl, rfl, by decide +kernel, rfl, by decide +kernel, by decide +kernel⟩
theorem ok_changed {f : Addr} {fd : FuncData} (F : Fun K "changed" "changed" s_changed f fd) (c_changed_number : Cal P w K mg base "changed_number" 1 ["number", "times", "less"] sp_changed_number) : FnOk P w K mg base CX0 2 f fd ["matrix", "times", "less"] sp_changed := by
  refine F.ok sc_changed (fun vs H Q E h => ?_) (fun cdv A outer s H vs Q E hr h => ?_)
  · obtain ⟨v1, x1, v2, x2, v3, x3, S, rfl, _⟩ := h
    rfl
  · obtain ⟨v1, x1, v2, x2, v3, x3, S, rfl, e, r1, r2, r3, hp, q⟩ := h
    try dsimp only at q
    refine ⟨_, (pss_one (ps_ret (pe_lc (own := [("row", 3)]) (wi := (iList K (tVar 0))) (g := (gName 3)) (tt := tYes) (te := (tLc (iList K (tVar 3)) (gName 4) tYes (tCall sp_changed_number [] E0 (tCons (tVar 4) (tCons (tVar 1) (tCons (tVar 2) tNil)))) _)) rfl sc_changed.nd (pi_list (pv 0)) (blkOk_by (N := ["matrix", "times", "less", "row", "number"]) (sc := (defScope s_changed)) (by decide +kernel)) (fun _ _ _ _ _ => (pg_name (i := 3) sc_changed.nd rfl (Or.inl rfl))) (fun _ _ _ _ _ => pts_nil) (fun _ _ _ _ _ => (pe_lc (own := [("number", 4)]) (wi := (iList K (tVar 3))) (g := (gName 4)) (tt := tYes) (te := (tCall sp_changed_number [] E0 (tCons (tVar 4) (tCons (tVar 1) (tCons (tVar 2) tNil))))) rfl sc_changed.nd (pi_list (pv 3)) (blkOk_in (blkOk_by (N := ["matrix", "times", "less", "row", "number"]) (by decide +kernel))) (fun _ _ _ _ _ => (pg_name (i := 4) sc_changed.nd rfl (Or.inl rfl))) (fun _ _ _ _ _ => pts_nil) (fun _ _ _ _ _ => (pe_cal c_changed_number (hr.mono (by decide)) (by rfl) (pa_cons (pv 4) (pa_cons (pv 1) (pa_cons (pv 2) pa_nil)))))))))), ?_⟩
    obtain ⟨hn, hs, h0, h16⟩ := hp
    cases r2
    cases r3
    refine s_ret (ev_lcY (R' := rL rNum) (fun r : List (Option Int) => r.map fun x : Option Int => x.map fun s => x2 * s - x3) (src_list (ev_var rfl r1)) (by omega) (fun _ => rfl) fun r hr v S1 s1 rr => ?_) (Gr.refl e) q
    have hl := hs r hr
    refine ev_lcY (R' := rNum) (fun x : Option Int => x.map fun s => x2 * s - x3) (src_list (ev_var rfl rr)) (by omega) (fun _ => rfl) fun x hx w S2 s2 rx => ?_
    exact ev_call3 (x2 := x2) (x3 := x3) (ev_var rfl rx) (ev_var rfl rfl) (ev_var rfl rfl) ⟨h0, h16⟩

abbrev sp_mean_through : Sp := sp2 (rL (rL (rL rNum))) rNat (rO rM) (fun ls i => ls.length ≤ 16 ∧ ∀ m ∈ ls, WsM.Sq m.length m ∧ i < m.length) WsM.meanThrough
theorem sc_mean_through : FnScope ["levels", "i", "found", "at", "level"] ["levels", "i"] (defScope s_mean_through) := ⟨rfl, rfl, rfl, by decide +kernel, rfl, by decide +kernel, by decide +kernel⟩
theorem ok_mean_through {f : Addr} {fd : FuncData} (F : Fun K "mean_through" "mean_through" s_mean_through f fd) (c_is_greater : Cal P w K mg base "is_greater" 1 ["one", "other"] sp_is_greater) (m_enumerate : mg "enumerate" = none) : FnOk P w K mg base CX0 2 f fd ["levels", "i"] sp_mean_through := by
  refine F.ok sc_mean_through (fun vs H Q E h => ?_) (fun cdv A outer s H vs Q E hr h => ?_)
  · obtain ⟨v1, x1, v2, x2, S, rfl, _⟩ := h
    rfl
  · obtain ⟨v1, x1, v2, x2, S, rfl, e, r1, r2, hp, q⟩ := h
    try dsimp only at q
    refine ⟨_, (pss_cons (ps_set (i := 2) sc_mean_through.nd rfl (Or.inl rfl) pe_non)
      (pss_cons (ps_for PassesOwn.never rfl (pi_enum (by rfl) m_enumerate (pa_cons (pv 0) pa_nil)) (pg_tup rfl (pgs_cons (pg_name (i := 3) sc_mean_through.nd rfl (Or.inl rfl)) (pgs_cons (pg_name (i := 4) sc_mean_through.nd rfl (Or.inl rfl)) pgs_nil))) (pss_one (ps_if (PW.pt (pw_and (pt_cmp (pc_notN (pe_ix ix_list (pe_ix ix_list (pv 4) (pv 1) (fun _ _ => rfl)) (pv 1) (fun _ _ => rfl)))) (pw_and1 (pt_val (pe_cal c_is_greater (hr.mono (by decide)) (by rfl) (pa_cons (pe_tup (pa_cons (pe_ix ix_list (pe_ix ix_list (pv 4) (pv 1) (fun _ _ => rfl)) (pv 1) (fun _ _ => rfl)) (pa_cons (pe_op op_add (pv 3) pe_int) pa_nil))) (pa_cons (pv 2) pa_nil))))))) (pss_one (ps_set (i := 2) sc_mean_through.nd rfl (Or.inl rfl) (pe_tup (pa_cons (pe_ix ix_list (pe_ix ix_list (pv 4) (pv 1) (fun _ _ => rfl)) (pv 1) (fun _ _ => rfl)) (pa_cons (pe_op op_add (pv 3) pe_int) pa_nil))))) pss_nil)))
      (pss_one (ps_ret (pv 2))))), ?_⟩
    obtain ⟨hn, hm⟩ := hp
    cases r2
    refine q_asg (R := rO rM) (x := none) (ev_c rfl) (Gr.refl e) fun v3 S1 H1 g1 s1 r3 => ?_
    refine q_for (fun i σ' S' => ∃ v y z, (rO rM).is S' v (WsM.sel ((((List.range x1.length).zip x1).take i).filterMap fun p => (Rb23.entry p.2 x2 x2).map fun s => (s, p.1 + 1))) ∧ σ' = [some v1, some (.int (x2 : Int)), some v, y, z]) (src_enum (ev_var rfl ((rL (rL (rL rNum))).mono s1 r1))) g1 (fun S2 s2 => ⟨v3, none, none, (rO rM).mono s2 r3, rfl⟩) (fun i σ' S3 S4 s h => ?_) (fun S0 s0 i x σ' S2 H2 v hx g2 s2 hP rx => ?_) (fun σ' S2 H2 g2 s2 hP => ?_)
    · obtain ⟨v, y, z, a1, a2⟩ := h
      exact ⟨v, y, z, (rO rM).mono s a1, a2⟩
    · obtain ⟨w, y, z, a1, rfl⟩ := hP
      obtain ⟨k, m⟩ := x
      have hz := List.mem_of_getElem? hx
      have hz2 := List.of_mem_zip hz
      have hk : k < x1.length := List.mem_range.mp hz2.1
      obtain ⟨hs, hi⟩ := hm m hz2.2
      have hc : ∀ o, WsM.sel ((((List.range x1.length).zip x1).take i).filterMap fun p => (Rb23.entry p.2 x2 x2).map fun s => (s, p.1 + 1)) = some o → o.2 ≤ 16 := fun o ho => by
        have hp : ∀ c ∈ (((List.range x1.length).zip x1).take i).filterMap fun p => (Rb23.entry p.2 x2 x2).map fun s => (s, p.1 + 1), c ∈ WsM.cand x1 x2 := fun c hc => by
          obtain ⟨p, hp, e⟩ := List.mem_filterMap.mp hc
          exact List.mem_filterMap.mpr ⟨p, List.mem_of_mem_take hp, e⟩
        have hb := WsM.sel_best (fun c hc => WsM.cand_pos c (hp c hc)) ho
        have := WsM.cand_le o (hp o hb.1)
        omega
      rw [take_succ_get hx, List.filterMap_append]
      generalize hF : WsM.sel ((((List.range x1.length).zip x1).take i).filterMap fun p => (Rb23.entry p.2 x2 x2).map fun s => (s, p.1 + 1)) = F at a1 hc
      refine g_pair g2.sh rx fun w1 w2 q1 q2 => ?_
      cases q1
      have hl := hs.2 _ (List.getElem_mem hi)
      have ee : Rb23.entry m x2 x2 = (m[x2])[x2]'(by omega) := by
        rw [WsM.entry_get hi, List.getD_eq_getElem?_getD, List.getElem?_eq_getElem (by omega)]
        rfl
      have ent : ∀ {S3 : Hp}, Same S2 S3 → EvR (tOp (rIxL K) (tOp (rIxL K) (tVar 4) (tVar 1)) (tVar 1)) [some v1, some (.int (x2 : Int)), some w, some (.int (k : Int)), some w2] S3 rNum (Rb23.entry m x2 x2) := fun {S3} s3 =>
        ev_ix (l := m[x2]) (j := x2) (ev_ix (R := rL rNum) (l := m) (j := x2) (ev_var rfl ((rL (rL rNum)).mono s3 q2)) (ev_var rfl rfl) (List.getElem?_eq_getElem hi)) (ev_var rfl rfl) (by rw [ee]; exact List.getElem?_eq_getElem (by omega))
      refine s_when (b := (Rb23.entry m x2 x2).isSome && WsM.isGr ((Rb23.entry m x2 x2).getD 0, k + 1) F) (et_and (et_some (ent (Same.refl _))) fun h => et_B ?_) g2 (fun h S3 H3 g3 s3 => ?_) (fun h S3 H3 g3 s3 => ?_)
      · cases z : Rb23.entry m x2 x2 with
        | none =>
          rw [z] at h
          cases h
        | some s =>
          refine ev_call2 (x1 := (s, k + 1)) (ev_tup (p := (s, k + 1)) ((ent (Same.refl _)).of_num z) ?_) (ev_var rfl a1) ⟨?_, hc⟩
          · exact EvR.is (w := k + 1) (R := rNat) (ev_I0 (g := fun i j => .int (i + j)) (i := (k : Int)) (j := 1) (x := k + 1) (ev_var rfl rfl) (ev_c rfl) fun _ => rfl) rfl
          · show k + 1 ≤ 16
            omega
      · cases z : Rb23.entry m x2 x2 with
        | none =>
          rw [z] at h
          cases h
        | some s =>
          rw [z] at h
          have h : WsM.isGr (s, k + 1) F = true := h
          refine s_asg (R := rM) (x := (s, k + 1)) (ev_tup (p := (s, k + 1)) ((ent s3).of_num z) (ev_I0 (g := fun i j => .int (i + j)) (i := (k : Int)) (j := 1) (ev_var rfl rfl) (ev_c rfl) fun _ => rfl)) g3 fun v7 S4 H4 g4 s4 r7 => ⟨S4, g4, (s2.trans s3).trans s4, v7, _, _, ?_, rfl⟩
          unfold WsM.sel at hF ⊢
          rw [List.foldl_append, hF]
          simp only [List.filterMap_cons, List.filterMap_nil, z, Option.map_some]
          show (rO rM).is S4 v7 (WsM.keep F (s, k + 1))
          unfold WsM.keep
          rw [if_pos h]
          exact rO_pair r7
      · refine ⟨S3, g3, s2.trans s3, w, _, _, ?_, rfl⟩
        refine (rO rM).mono s3 ?_
        unfold WsM.sel at hF ⊢
        rw [List.foldl_append, hF]
        cases z : Rb23.entry m x2 x2 with
        | none =>
          simp only [List.filterMap_cons, List.filterMap_nil, z, Option.map_none]
          exact a1
        | some s =>
          rw [z] at h
          have h : WsM.isGr (s, k + 1) F = false := h
          simp only [List.filterMap_cons, List.filterMap_nil, z, Option.map_some]
          show (rO rM).is S2 w (WsM.keep F (s, k + 1))
          unfold WsM.keep
          rw [if_neg (by rw [h]; exact Bool.false_ne_true)]
          exact a1
    · obtain ⟨w, y, z, a1, rfl⟩ := hP
      rw [List.take_length] at a1
      exact s_ret (R := rO rM) (ev_var rfl a1) g2 q

abbrev sp_lowest : Sp := sp1 rM rM (fun m => 0 < m.2 ∧ m.2 ≤ 16) WsM.lowest
theorem sc_lowest : FnScope ["mean", "by"] ["mean"] (defScope s_lowest) := ⟨rfl, rfl, rfl, by decide +kernel, rfl, by decide +kernel, by decide +kernel⟩
theorem ok_lowest {f : Addr} {fd : FuncData} (F : Fun K "lowest" "lowest" s_lowest f fd) (c_common : Cal P w K mg base "common" 1 ["one", "other"] sp_common) (m_abs : mg "abs" = none) : FnOk P w K mg base CX0 2 f fd ["mean"] sp_lowest := by
  refine F.ok sc_lowest (fun vs H Q E h => ?_) (fun cdv A outer s H vs Q E hr h => ?_)
  · obtain ⟨v1, x1, S, rfl, _⟩ := h
    rfl
  · obtain ⟨v1, x1, S, rfl, e, r1, hp, q⟩ := h
    try dsimp only at q
    refine ⟨_, (pss_cons (ps_set (i := 1) sc_lowest.nd rfl (Or.inl rfl) (pe_cal c_common (hr.mono (by decide)) (by rfl) (pa_cons (pe_callB call_abs (by rfl) m_abs (by decide +kernel) (pa_cons (pe_ix ix_tup (pv 0) pe_int (fun _ _ => rfl)) pa_nil)) (pa_cons (pe_ix ix_tup (pv 0) pe_int (fun _ _ => rfl)) pa_nil))))
      (pss_one (ps_ret (pe_tup (pa_cons (pe_op op_fdiv (pe_ix ix_tup (pv 0) pe_int (fun _ _ => rfl)) (pv 1)) (pa_cons (pe_op op_fdiv (pe_ix ix_tup (pv 0) pe_int (fun _ _ => rfl)) (pv 1)) pa_nil)))))), ?_⟩
    obtain ⟨h0, h16⟩ := hp
    have hg : 0 < Nat.gcd x1.1.natAbs x1.2 := Nat.gcd_pos_of_pos_right _ h0
    have hg2 : Nat.gcd x1.1.natAbs x1.2 ≤ x1.2 := Nat.le_of_dvd h0 (Nat.gcd_dvd_right _ _)
    refine q_asg (R := rNat) (x := Nat.gcd x1.1.natAbs x1.2) (ev_call2 (ev_abs (ev_fst (R' := rNat) (ev_var rfl r1) (ev_c rfl))) (ev_snd (R := rInt) (ev_var rfl r1) (ev_c rfl)) trivial) (Gr.refl e) fun v3 S1 H1 g1 s1 r3 => ?_
    cases r3
    refine s_ret (ev_tup (R := rInt) (R' := rNat) (p := WsM.lowest x1) (ev_I (i := x1.1) (j := ((Nat.gcd x1.1.natAbs x1.2 : Nat) : Int)) (ev_fst (R' := rNat) (ev_var rfl (rM.mono s1 r1)) (ev_c rfl)) (ev_var rfl rfl) ⟨by omega, by omega⟩ fun _ => rfl) (ev_I (i := (x1.2 : Int)) (j := ((Nat.gcd x1.1.natAbs x1.2 : Nat) : Int)) (ev_snd (R := rInt) (R' := rNat) (ev_var rfl (rM.mono s1 r1)) (ev_c rfl)).int (ev_var rfl rfl) ⟨by omega, by omega⟩ fun _ => ?_)) g1 q
    show V.int ((x1.2 : Int) / ((Nat.gcd x1.1.natAbs x1.2 : Nat) : Int)) = V.int ((x1.2 / Nat.gcd x1.1.natAbs x1.2 : Nat) : Int)
    rw [Int.natCast_ediv]

abbrev sp_lengths_divisor : Sp := sp2 (rL (rL rNat)) rNat rNat (fun st i => st.length ≤ 16 ∧ i < st.length ∧ ∀ l ∈ st, l.length ≤ 16 ∧ ∀ j ∈ l, j < st.length) WsM.lengthsDiv
theorem sc_lengths_divisor : FnScope ["steps", "i", "marked", "found", "length", "place"] ["steps", "i"] (defScope s_lengths_divisor) := ⟨rfl, rfl, rfl, by decide +kernel, rfl, by decide +kernel, by decide +kernel⟩
theorem ok_lengths_divisor {f : Addr} {fd : FuncData} (F : Fun K "lengths_divisor" "lengths_divisor" s_lengths_divisor f fd) (c_common : Cal P w K mg base "common" 1 ["one", "other"] sp_common) (c_onward : Cal P w K mg base "onward" 1 ["steps", "marked"] sp_onward) (m_range : mg "range" = none) (m_len : mg "len" = none) : FnOk P w K mg base CX0 2 f fd ["steps", "i"] sp_lengths_divisor := by
  refine F.ok sc_lengths_divisor (fun vs H Q E h => ?_) (fun cdv A outer s H vs Q E hr h => ?_)
  · obtain ⟨v1, x1, v2, x2, S, rfl, _⟩ := h
    rfl
  · obtain ⟨v1, x1, v2, x2, S, rfl, e, r1, r2, hp, q⟩ := h
    try dsimp only at q
    refine ⟨_, (pss_cons (ps_setLc (i := 2) (own := [("place", 5)]) (wi := (iRng1 (tCons (tCB (rLen K) (tCons (tVar 0) tNil)) tNil))) (g := (gName 5)) (tt := tYes) (te := (tOp _ (tVar 5) (tVar 1))) rfl sc_lengths_divisor.nd rfl rfl (sw_true rfl rfl rfl (by decide +kernel)) (pi_range1 (by rfl) m_range (pa_cons (pe_callB call_len_seq (by rfl) m_len (by decide +kernel) (pa_cons (pv 0) pa_nil)) pa_nil)) (blkOk_by (N := ["steps", "i", "marked", "found", "length", "place"]) (sc := (defScope s_lengths_divisor)) (by decide +kernel)) (fun _ _ _ _ _ => (pg_name (i := 5) sc_lengths_divisor.nd rfl (Or.inl rfl))) (fun _ _ _ _ _ => pts_nil) (fun _ _ _ _ _ => (pe_cmpR op_eq (pv 5) (pv 1) (nomark _))))
      (pss_cons (ps_set (i := 3) sc_lengths_divisor.nd rfl (Or.inl rfl) pe_int)
      (pss_cons (ps_for PassesOwn.never rfl (pi_range2 (by rfl) m_range (pa_cons pe_int (pa_cons (pe_op op_add (pe_op op_mul pe_int (pe_callB call_len_seq (by rfl) m_len (by decide +kernel) (pa_cons (pv 0) pa_nil))) pe_int) pa_nil))) (pg_name (i := 4) sc_lengths_divisor.nd rfl (Or.inl rfl)) (pss_cons (ps_set (i := 2) sc_lengths_divisor.nd rfl (Or.inl rfl) (pe_cal c_onward (hr.mono (by decide)) (by rfl) (pa_cons (pv 0) (pa_cons (pv 2) pa_nil))))
      (pss_one (ps_if (pt_val (pe_ix ix_list (pv 2) (pv 1) (fun _ _ => rfl))) (pss_one (ps_set (i := 3) sc_lengths_divisor.nd rfl (Or.inl rfl) (pe_cal c_common (hr.mono (by decide)) (by rfl) (pa_cons (pv 3) (pa_cons (pv 4) pa_nil))))) pss_nil))))
      (pss_one (ps_ret (pv 3)))))), ?_⟩
    obtain ⟨hn, hi, hj⟩ := hp
    cases r2
    refine q_asg (R := rL rBool) (x := WsM.markedAt x1 x2 0) (ev_lcY (fun p : Nat => decide (p = x2)) (src_range (n := x1.length) (by omega) (ev_len (ev_var rfl r1))) (by rw [List.length_range]; omega) (fun _ => rfl) fun k _ v S1 s1 rk => ?_) (Gr.refl e) fun v3 S1 H1 g1 s1 r3 => ?_
    · cases rk
      refine ev_eq (v := .non) (w := .non) (R := rNat) (x := k) (R' := rNat) (y := x2) (ev_var rfl rfl) (ev_var rfl rfl) ?_
      rintro S v w rfl rfl
      refine ⟨rfl, ?_⟩
      rw [Bool.eq_iff_iff, decide_eq_true_eq, decide_eq_true_eq]
      exact ⟨fun z => by have := V.int.inj z; omega, fun z => by rw [z]⟩
    · refine q_asg (R := rNat) (x := 0) (ev_c rfl) g1 fun v4 S2 H2 g2 s2 r4 => ?_
      cases r4
      have r1' := (rL (rL rNat)).mono (s1.trans s2) r1
      refine q_for (fun k σ' S' => ∃ v y, (rL rBool).is S' v (WsM.markedAt x1 x2 k) ∧ (rL (rL rNat)).is S' v1 x1 ∧ σ' = [some v1, some (.int (x2 : Int)), some v, some (.int ((WsM.lengthsTo x1 x2 k : Nat) : Int)), y, none])
        (src_range2 (a := 1) (n := 3 * x1.length) (by omega) (by omega) (hi := 3 * (x1.length : Int) + 1) (by omega) (ev_c rfl) (ev_add (ev_mul (i := 3) (j := (x1.length : Int)) (.inl ⟨by decide, by decide⟩) (ev_c rfl) (ev_len (ev_var rfl r1'))) (ev_c (x := (1 : Int)) rfl))) g2 (fun S3 s3 => ⟨v3, none, (rL rBool).mono (s2.trans s3) r3, (rL (rL rNat)).mono s3 r1', rfl⟩) (fun k σ' S3 S4 s h => ?_) (fun S0 s0 k x σ' S3 H3 v hx g3 s3 hP rx => ?_) (fun σ' S3 H3 g3 s3 hP => ?_)
      · obtain ⟨v, y, a1, a2, a3⟩ := h
        exact ⟨v, y, (rL rBool).mono s a1, (rL (rL rNat)).mono s a2, a3⟩
      · obtain ⟨w, y, a1, a2, rfl⟩ := hP
        have hk : k < 3 * x1.length := by
          have := (List.getElem?_eq_some_iff.mp hx).1
          simpa using this
        rw [List.getElem?_range' hk, Nat.one_mul] at hx
        have ex : k + 1 = x := by
          have := Option.some.inj hx
          omega
        subst ex
        cases rx
        have hml := WsM.markedAt_len x1 x2 k
        have hml2 := WsM.markedAt_len x1 x2 (k + 1)
        refine q_asg (R := rL rBool) (x := WsM.markedAt x1 x2 (k + 1)) (ev_call2 (ev_var rfl a2) (ev_var rfl a1) ⟨by omega, by omega, by rw [hml]; exact hj⟩) g3 fun v5 S4 H4 g4 s4 r5 => ?_
        have gm : (WsM.markedAt x1 x2 (k + 1))[x2]? = some ((WsM.markedAt x1 x2 (k + 1)).getD x2 false) := by
          rw [List.getD_eq_getElem?_getD, List.getElem?_eq_getElem (by omega)]
          rfl
        refine s_when (b := (WsM.markedAt x1 x2 (k + 1)).getD x2 false) (et_B (ev_ix (j := x2) (ev_var rfl r5) (ev_var rfl rfl) gm)) g4 (fun h S5 H5 g5 s5 => ?_) (fun h S5 H5 g5 s5 => ?_)
        · refine s_asg (R := rNat) (x := Nat.gcd (WsM.lengthsTo x1 x2 k) (k + 1)) (ev_call2 (x2 := k + 1) (ev_var rfl rfl) (ev_var rfl rfl) trivial) g5 fun v6 S6 H6 g6 s6 r6 => ?_
          cases r6
          refine ⟨S6, g6, ((s3.trans s4).trans s5).trans s6, v5, some (.int ((k + 1 : Nat) : Int)), (rL rBool).mono (s5.trans s6) r5, (rL (rL rNat)).mono ((s4.trans s5).trans s6) a2, ?_⟩
          rw [WsM.lengthsTo_succ, if_pos h]
          rfl
        · refine ⟨S5, g5, (s3.trans s4).trans s5, v5, some (.int ((k + 1 : Nat) : Int)), (rL rBool).mono s5 r5, (rL (rL rNat)).mono (s4.trans s5) a2, ?_⟩
          rw [WsM.lengthsTo_succ, if_neg (by rw [h]; exact Bool.false_ne_true)]
          rfl
      · obtain ⟨w, y, a1, a2, rfl⟩ := hP
        rw [List.length_range']
        exact s_ret (R := rNat) (x := WsM.lengthsDiv x1 x2) (ev_var rfl rfl) g3 q

abbrev sp_multiple : Sp := sp2 rNat rNat rNat (fun _ b => 0 < b ∧ b ≤ 1000) Nat.lcm
theorem sc_multiple : FnScope ["one", "other"] ["one", "other"] (defScope s_multiple) := ⟨rfl, rfl, rfl, by decide +kernel, rfl, by decide +kernel, by decide +kernel⟩
theorem ok_multiple {f : Addr} {fd : FuncData} (F : Fun K "multiple" "multiple" s_multiple f fd) (c_common : Cal P w K mg base "common" 1 ["one", "other"] sp_common) : FnOk P w K mg base CX0 2 f fd ["one", "other"] sp_multiple := by
  refine F.ok sc_multiple (fun vs H Q E h => ?_) (fun cdv A outer s H vs Q E hr h => ?_)
  · obtain ⟨v1, x1, v2, x2, S, rfl, _⟩ := h
    rfl
  · obtain ⟨v1, x1, v2, x2, S, rfl, e, r1, r2, hp, q⟩ := h
    try dsimp only at q
    refine ⟨_, (pss_one (ps_ret (pe_op op_mul (pe_op op_fdiv (pv 0) (pe_cal c_common (hr.mono (by decide)) (by rfl) (pa_cons (pv 0) (pa_cons (pv 1) pa_nil)))) (pv 1)))), ?_⟩
    obtain ⟨h0, h1⟩ := hp
    cases r1
    cases r2
    have hg : 0 < Nat.gcd x1 x2 := Nat.gcd_pos_of_pos_right _ h0
    have hg2 : Nat.gcd x1 x2 ≤ x2 := Nat.le_of_dvd h0 (Nat.gcd_dvd_right _ _)
    refine s_ret (R := rInt) (ev_mul (i := ((x1 / Nat.gcd x1 x2 : Nat) : Int)) (j := (x2 : Int)) (.inr ⟨by omega, by omega⟩) (ev_I (i := (x1 : Int)) (j := ((Nat.gcd x1 x2 : Nat) : Int)) (ev_var rfl rfl) (EvR.int (ev_call2 (ev_var rfl rfl) (ev_var rfl rfl) trivial)) ⟨by omega, by omega⟩ fun _ => ?_) (ev_var rfl rfl)) (Gr.refl e) fun v S1 H1 g1 r => q v S1 H1 g1 ?_
    · show V.int ((x1 : Int) / ((Nat.gcd x1 x2 : Nat) : Int)) = V.int ((x1 / Nat.gcd x1 x2 : Nat) : Int)
      rw [Int.natCast_ediv]
    · show v = V.int ((Nat.lcm x1 x2 : Nat) : Int)
      rw [← WsM.lcm_eq, Int.natCast_mul]
      exact r

abbrev sp_along : Sp := sp2 (rL rNum) (rL rNum) rNum (fun l _ => l.length ≤ 1000) (fun l m => Rb23.best (l.zipWith Rb23.plus m))
theorem sc_along : FnScope ["row", "numbers", "one", "other"] ["row", "numbers"] (defScope s_along) := ⟨rfl, rfl, rfl, by decide +kernel, rfl, by decide +kernel, by decide +kernel⟩
theorem ok_along {f : Addr} {fd : FuncData} (F : Fun K "along" "along" s_along f fd) (c_greatest : Cal P w K mg base "greatest" 2 ["numbers"] sp_greatest) (c_plus : Cal P w K mg base "plus" 1 ["one", "other"] sp_plus) (m_zip : mg "zip" = none) : FnOk P w K mg base CX0 3 f fd ["row", "numbers"] sp_along := by
  refine F.ok sc_along (fun vs H Q E h => ?_) (fun cdv A outer s H vs Q E hr h => ?_)
  · obtain ⟨v1, x1, v2, x2, S, rfl, _⟩ := h
    rfl
  · obtain ⟨v1, x1, v2, x2, S, rfl, e, r1, r2, hp, q⟩ := h
    try dsimp only at q
    refine ⟨_, (pss_one (ps_ret (pe_cal c_greatest (hr.mono (by decide)) (by rfl) (pa_cons (pe_lc (own := [("one", 2), ("other", 3)]) (wi := (iZip K (tCons (tVar 0) (tCons (tVar 1) tNil)))) (g := (gTup K 2 (gCons (gName 2) (gCons (gName 3) gNil)))) (tt := tYes) (te := (tCall sp_plus [] E0 (tCons (tVar 2) (tCons (tVar 3) tNil)))) rfl sc_along.nd (pi_zip (by rfl) m_zip (pa_cons (pv 0) (pa_cons (pv 1) pa_nil))) (blkOk_by (N := ["row", "numbers", "one", "other"]) (sc := (defScope s_along)) (by decide +kernel)) (fun _ _ _ _ _ => (pg_tup rfl (pgs_cons (pg_name (i := 2) sc_along.nd rfl (Or.inl rfl)) (pgs_cons (pg_name (i := 3) sc_along.nd rfl (Or.inl rfl)) pgs_nil)))) (fun _ _ _ _ _ => pts_nil) (fun _ _ _ _ _ => (pe_cal c_plus (hr.mono (by decide)) (by rfl) (pa_cons (pv 2) (pa_cons (pv 3) pa_nil))))) pa_nil)))), ?_⟩
    refine s_ret (EvR.is (ev_call1 (ev_lcP (fun p => Rb23.plus p.1 p.2) (src_zip (ev_var rfl r1) (ev_var rfl r2)) (by rw [List.length_zip]; omega) (fun _ _ => rfl) fun x _ v w S1 s1 rv rw' => ev_call2 (ev_var rfl rv) (ev_var rfl rw') trivial) trivial) ?_) (Gr.refl e) q
    exact congrArg Rb23.best List.map_zip_eq_zipWith

abbrev sp_closed : Sp := sp2 (rL (rL rNum)) (rL (rL (rL rNum))) (rL (rL rNum)) (fun m l => m.length ≤ 16 ∧ ∀ x ∈ l, WsM.Sq m.length x) (fun m l => l.foldl (WsM.both m.length) (Rb23.one m.length))
theorem sc_closed : FnScope ["matrix", "levels", "found", "level"] ["matrix", "levels"] (defScope s_closed) := ⟨rfl, rfl, rfl, by decide +kernel, rfl, by decide +kernel, by decide +kernel⟩
theorem ok_closed {f : Addr} {fd : FuncData} (F : Fun K "closed" "closed" s_closed f fd) (c_both : Cal P w K mg base "both" 2 ["one", "other"] sp_both) (c_unit : Cal P w K mg base "unit" 2 ["n"] sp_unit) (m_len : mg "len" = none) : FnOk P w K mg base CX0 3 f fd ["matrix", "levels"] sp_closed := by
  refine F.ok sc_closed (fun vs H Q E h => ?_) (fun cdv A outer s H vs Q E hr h => ?_)
  · obtain ⟨v1, x1, v2, x2, S, rfl, _⟩ := h
    rfl
  · obtain ⟨v1, x1, v2, x2, S, rfl, e, r1, r2, hp, q⟩ := h
    try dsimp only at q
    refine ⟨_, (pss_cons (ps_set (i := 2) sc_closed.nd rfl (Or.inl rfl) (pe_cal c_unit (hr.mono (by decide)) (by rfl) (pa_cons (pe_callB call_len_seq (by rfl) m_len (by decide +kernel) (pa_cons (pv 0) pa_nil)) pa_nil)))
      (pss_cons (ps_for PassesOwn.never rfl (pi_list (pv 1)) (pg_name (i := 3) sc_closed.nd rfl (Or.inl rfl)) (pss_one (ps_set (i := 2) sc_closed.nd rfl (Or.inl rfl) (pe_cal c_both (hr.mono (by decide)) (by rfl) (pa_cons (pv 2) (pa_cons (pv 3) pa_nil))))))
      (pss_one (ps_ret (pv 2))))), ?_⟩
    obtain ⟨hn, hl⟩ := hp
    refine q_asg (R := rL (rL rNum)) (x := Rb23.one x1.length) (ev_call1 (ev_len (ev_var rfl r1)) ⟨by omega, by omega⟩) (Gr.refl e) fun v3 S1 H1 g1 s1 r3 => ?_
    refine q_for (fun i σ' S' => ∃ v y, (rL (rL rNum)).is S' v ((x2.take i).foldl (WsM.both x1.length) (Rb23.one x1.length)) ∧ σ' = [some v1, some v2, some v, y]) (src_list (ev_var rfl ((rL (rL (rL rNum))).mono s1 r2))) g1 (fun S2 s2 => ⟨v3, none, (rL (rL rNum)).mono s2 r3, rfl⟩) (fun i σ' S3 S4 s h => ?_) (fun S0 s0 i x σ' S2 H2 v hx g2 s2 hP rx => ?_) (fun σ' S2 H2 g2 s2 hP => ?_)
    · obtain ⟨v, y, a1, a2⟩ := h
      exact ⟨v, y, (rL (rL rNum)).mono s a1, a2⟩
    · obtain ⟨w, y, a1, rfl⟩ := hP
      have hm : x ∈ x2 := List.mem_of_getElem? hx
      have qs := WsM.foldl_both_sq (x2.take i) (WsM.one_sq x1.length)
      refine s_asg (R := rL (rL rNum)) (x := (x2.take (i + 1)).foldl (WsM.both x1.length) (Rb23.one x1.length)) (ev_call2 (ev_var rfl a1) (ev_var rfl rx) ⟨by rw [qs.1]; exact hn, by rw [qs.1]; exact qs, by rw [qs.1]; exact hl x hm⟩ ?_) g2 fun v7 S4 H4 g4 s4 r7 => ?_
      · rw [take_succ_get hx, List.foldl_append, qs.1]
        rfl
      · exact ⟨S4, g4, s2.trans s4, v7, _, r7, rfl⟩
    · obtain ⟨w, y, a1, rfl⟩ := hP
      rw [List.take_length] at a1
      exact s_ret (ev_var rfl a1) g2 q

theorem inV_non (r : List (Option Int)) : inV V.non (r.map nV) = !r.all fun x => x.isSome := by
  unfold inV
  induction r with
  | nil => rfl
  | cons x r ih =>
    rw [List.map_cons, List.any_cons, ih, List.all_cons, Bool.not_and]
    cases x <;> rfl
theorem flat_nums (r : List (Option Int)) : (r.map nV).all flatV = true := by
  rw [List.all_eq_true]
  intro v hv
  obtain ⟨x, _, rfl⟩ := List.mem_map.mp hv
  cases x <;> rfl
abbrev sp_is_tied : Sp := sp1 (rL (rL (rL rNum))) rBool (fun ls => 1 ≤ ls.length ∧ (ls.getD 0 []).length ≤ 16 ∧ ∀ m ∈ ls, WsM.Sq (ls.getD 0 []).length m) WsM.tiedB
theorem sc_is_tied : FnScope ["levels", "found", "level", "row"] ["levels"] (defScope s_is_tied) := ⟨rfl, rfl, rfl, by decide +kernel, rfl, by decide +kernel, by decide +kernel⟩
theorem ok_is_tied {f : Addr} {fd : FuncData} (F : Fun K "is_tied" "is_tied" s_is_tied f fd) (c_both : Cal P w K mg base "both" 2 ["one", "other"] sp_both) : FnOk P w K mg base CX0 3 f fd ["levels"] sp_is_tied := by
  refine F.ok sc_is_tied (fun vs H Q E h => ?_) (fun cdv A outer s H vs Q E hr h => ?_)
  · obtain ⟨v1, x1, S, rfl, _⟩ := h
    rfl
  · obtain ⟨v1, x1, S, rfl, e, r1, hp, q⟩ := h
    try dsimp only at q
    refine ⟨_, (pss_cons (ps_set (i := 1) sc_is_tied.nd rfl (Or.inl rfl) (pe_ix ix_list (pv 0) pe_int (fun _ _ => rfl)))
      (pss_cons (ps_for PassesOwn.never rfl (pi_list (pv 0)) (pg_name (i := 2) sc_is_tied.nd rfl (Or.inl rfl)) (pss_one (ps_set (i := 1) sc_is_tied.nd rfl (Or.inl rfl) (pe_cal c_both (hr.mono (by decide)) (by rfl) (pa_cons (pv 1) (pa_cons (pv 2) pa_nil))))))
      (pss_cons (ps_for PassesOwn.never rfl (pi_list (pv 1)) (pg_name (i := 3) sc_is_tied.nd rfl (Or.inl rfl)) (pss_one (ps_if (pt_cmpR op_in_seq pe_non (pv 3) (by rfl)) (pss_one (ps_ret pe_bl)) pss_nil)))
      (pss_one (ps_ret pe_bl))))), ?_⟩
    obtain ⟨h1, hn, hs⟩ := hp
    have h0 : x1[0]? = some (x1.getD 0 []) := by
      rw [List.getD_eq_getElem?_getD, List.getElem?_eq_getElem (by omega)]
      rfl
    have q0 := hs _ (List.mem_of_getElem? h0)
    unfold WsM.tiedB at q
    generalize hm : x1.getD 0 [] = m at h0 q0 hn hs q
    refine q_asg (R := rL (rL rNum)) (x := m) (ev_ix (j := 0) (ev_var rfl r1) (ev_c rfl) h0) (Gr.refl e) fun v3 S1 H1 g1 s1 r3 => ?_
    refine q_for (fun i σ' S' => ∃ v y, (rL (rL rNum)).is S' v ((x1.take i).foldl (WsM.both m.length) m) ∧ σ' = [some v1, some v, y, none]) (src_list (ev_var rfl ((rL (rL (rL rNum))).mono s1 r1))) g1 (fun S2 s2 => ⟨v3, none, (rL (rL rNum)).mono s2 r3, rfl⟩) (fun i σ' S3 S4 s h => ?_) (fun S0 s0 i x σ' S2 H2 v hx g2 s2 hP rx => ?_) (fun σ' S2 H2 g2 s2 hP => ?_)
    · obtain ⟨v, y, a1, a2⟩ := h
      exact ⟨v, y, (rL (rL rNum)).mono s a1, a2⟩
    · obtain ⟨w, y, a1, rfl⟩ := hP
      have hx1 : x ∈ x1 := List.mem_of_getElem? hx
      have qs := WsM.foldl_both_sq (x1.take i) q0
      refine s_asg (R := rL (rL rNum)) (x := (x1.take (i + 1)).foldl (WsM.both m.length) m) (ev_call2 (ev_var rfl a1) (ev_var rfl rx) ⟨by rw [qs.1]; exact hn, by rw [qs.1]; exact qs, by rw [qs.1]; exact hs x hx1⟩ ?_) g2 fun v7 S4 H4 g4 s4 r7 => ?_
      · rw [take_succ_get hx, List.foldl_append, qs.1]
        rfl
      · exact ⟨S4, g4, s2.trans s4, v7, _, r7, rfl⟩
    · obtain ⟨w, y, a1, rfl⟩ := hP
      rw [List.take_length] at a1
      generalize hF : x1.foldl (WsM.both m.length) m = F at a1 q
      refine q_for (fun i σ' S' => (∀ r ∈ F.take i, (r.all fun x => x.isSome) = true) ∧ ∃ z, σ' = [some v1, some w, y, z]) (src_list (ev_var rfl a1)) g2 (fun S3 s3 => ⟨fun r h => (nomatch h), none, rfl⟩) (fun _ _ _ _ _ h => h) (fun S0 s0 i r σ' S3 H3 v hx g3 s3 hP rx => ?_) (fun σ' S3 H3 g3 s3 hP => ?_)
      · obtain ⟨b1, z, rfl⟩ := hP
        have hr : r ∈ F := List.mem_of_getElem? hx
        obtain ⟨p, rfl, hp2⟩ := rL_flat.mp rx
        refine s_when (b := !r.all fun x => x.isSome) (et_test (fun H' e' Q' q' => ?_)) g3 (fun h S4 H4 g4 s4 => ?_) (fun h S4 H4 g4 s4 => ?_)
        · refine ⟨.ref p, rfl, p, _, rfl, .inl (SqL.of (e' _ _ hp2)), rfl, flat_nums r, ?_⟩
          refine q' _ S3 H' (Gr.refl e') ?_
          show V.bl (inV V.non (r.map nV)) = V.bl (!r.all fun x => x.isSome)
          rw [inV_non]
        · refine s_ret (ev_c (R := rBool) (x := false) rfl) g4 fun u S5 H5 g5 r5 => q u S5 H5 g5 ?_
          have : (F.all fun r => r.all fun x => x.isSome) = false := by
            rw [Bool.eq_false_iff]
            intro z
            rw [List.all_eq_true] at z
            rw [z r hr] at h
            cases h
          rw [this]
          exact r5
        · refine ⟨S4, g4, s3.trans s4, fun m h2 => ?_, _, rfl⟩
          rw [take_succ_get hx, List.mem_append] at h2
          rcases h2 with h2 | h2
          · exact b1 m h2
          · rw [List.mem_singleton.mp h2]
            cases z : r.all fun x => x.isSome with
            | true => rfl
            | false =>
              rw [z] at h
              cases h
      · obtain ⟨b1, z, rfl⟩ := hP
        rw [List.take_length] at b1
        refine s_ret (ev_c (R := rBool) (x := true) rfl) g3 fun u S5 H5 g5 r5 => q u S5 H5 g5 ?_
        have : (F.all fun r => r.all fun x => x.isSome) = true := by
          rw [List.all_eq_true]
          exact b1
        rw [this]
        exact r5

abbrev sp_greatest_mean : Sp := sp1 (rL (rL (rL rNum))) (rO rM) (fun ls => ls.length ≤ 16 ∧ ∀ m ∈ ls, WsM.Sq ls.length m) WsM.greatestMean
theorem sc_greatest_mean : FnScope ["levels", "found", "i", "mean"] ["levels"] (defScope s_greatest_mean) := ⟨rfl, rfl, rfl, by decide +kernel, rfl, by decide +kernel, by decide +kernel⟩
theorem ok_greatest_mean {f : Addr} {fd : FuncData} (F : Fun K "greatest_mean" "greatest_mean" s_greatest_mean f fd) (c_lowest : Cal P w K mg base "lowest" 2 ["mean"] sp_lowest) (c_is_greater : Cal P w K mg base "is_greater" 1 ["one", "other"] sp_is_greater) (c_mean_through : Cal P w K mg base "mean_through" 2 ["levels", "i"] sp_mean_through) (m_range : mg "range" = none) (m_len : mg "len" = none) : FnOk P w K mg base CX0 3 f fd ["levels"] sp_greatest_mean := by
  refine F.ok sc_greatest_mean (fun vs H Q E h => ?_) (fun cdv A outer s H vs Q E hr h => ?_)
  · obtain ⟨v1, x1, S, rfl, _⟩ := h
    rfl
  · obtain ⟨v1, x1, S, rfl, e, r1, hp, q⟩ := h
    try dsimp only at q
    refine ⟨_, (pss_cons (ps_set (i := 1) sc_greatest_mean.nd rfl (Or.inl rfl) pe_non)
      (pss_cons (ps_for PassesOwn.never rfl (pi_range1 (by rfl) m_range (pa_cons (pe_callB call_len_seq (by rfl) m_len (by decide +kernel) (pa_cons (pv 0) pa_nil)) pa_nil)) (pg_name (i := 2) sc_greatest_mean.nd rfl (Or.inl rfl)) (pss_cons (ps_set (i := 3) sc_greatest_mean.nd rfl (Or.inl rfl) (pe_cal c_mean_through (hr.mono (by decide)) (by rfl) (pa_cons (pv 0) (pa_cons (pv 2) pa_nil))))
      (pss_one (ps_if (PW.pt (pw_and (pt_cmp (pc_notN (pv 3))) (pw_and1 (pt_val (pe_cal c_is_greater (hr.mono (by decide)) (by rfl) (pa_cons (pv 3) (pa_cons (pv 1) pa_nil))))))) (pss_one (ps_set (i := 1) sc_greatest_mean.nd rfl (Or.inl rfl) (pv 3))) pss_nil))))
      (pss_cons (ps_if (pt_cmp (pc_isN (pv 1))) (pss_one (ps_ret pe_non)) pss_nil)
      (pss_one (ps_ret (pe_cal c_lowest (hr.mono (by decide)) (by rfl) (pa_cons (pv 1) pa_nil))))))), ?_⟩
    obtain ⟨hn, hm⟩ := hp
    refine q_asg (R := rO rM) (x := none) (ev_c rfl) (Gr.refl e) fun v3 S1 H1 g1 s1 r3 => ?_
    refine q_for (fun i σ' S' => ∃ v y z, (rO rM).is S' v (WsM.sel ((List.range i).filterMap (WsM.meanThrough x1))) ∧ (rL (rL (rL rNum))).is S' v1 x1 ∧ σ' = [some v1, some v, y, z]) (src_range (n := x1.length) (by omega) (ev_len (ev_var rfl ((rL (rL (rL rNum))).mono s1 r1)))) g1 (fun S2 s2 => ⟨v3, none, none, (rO rM).mono s2 r3, (rL (rL (rL rNum))).mono (s1.trans s2) r1, rfl⟩) (fun i σ' S3 S4 s h => ?_) (fun S0 s0 i x σ' S2 H2 v hx g2 s2 hP rx => ?_) (fun σ' S2 H2 g2 s2 hP => ?_)
    · obtain ⟨v, y, z, a1, a2, a3⟩ := h
      exact ⟨v, y, z, (rO rM).mono s a1, (rL (rL (rL rNum))).mono s a2, a3⟩
    · obtain ⟨w, y, z, a1, a2, rfl⟩ := hP
      have hi : i < x1.length := by
        have := (List.getElem?_eq_some_iff.mp hx).1
        simpa using this
      rw [List.getElem?_range hi] at hx
      have ex : i = x := Option.some.inj hx
      subst ex
      cases rx
      have hc := fun o ho => (WsM.sel_through_le (ls := x1) (r := List.range i) (m := o) ho).2
      rw [List.range_succ, List.filterMap_append]
      generalize hF : WsM.sel ((List.range i).filterMap (WsM.meanThrough x1)) = F at a1 hc
      have hpre : ∀ m ∈ x1, WsM.Sq m.length m ∧ i < m.length := fun m h => by
        have := hm m h
        rw [this.1]
        exact ⟨this, hi⟩
      refine q_asg (R := rO rM) (x := WsM.meanThrough x1 i) (ev_call2 (ev_var rfl a2) (ev_var rfl rfl) ⟨hn, hpre⟩) g2 fun v4 S3 H3 g3 s3 r4 => ?_
      · refine s_when (b := (WsM.meanThrough x1 i).isSome && WsM.isGr ((WsM.meanThrough x1 i).getD (0, 1)) F) (et_and (et_someO (ev_var rfl r4)) fun h => et_B ?_) g3 (fun h S4 H4 g4 s4 => ?_) (fun h S4 H4 g4 s4 => ?_)
        · cases z : WsM.meanThrough x1 i with
          | none =>
            rw [z] at h
            cases h
          | some m =>
            rw [z] at r4
            exact ev_call2 (x1 := m) (ev_var rfl r4.2) (ev_var rfl ((rO rM).mono s3 a1)) ⟨by have := WsM.through_le z; omega, fun o ho => by have := hc o ho; omega⟩
        · cases z : WsM.meanThrough x1 i with
          | none =>
            rw [z] at h
            cases h
          | some m =>
            rw [z] at h r4
            have h : WsM.isGr m F = true := h
            refine s_asg (R := rM) (x := m) (ev_var rfl (rM.mono s4 r4.2)) g4 fun v7 S5 H5 g5 s5 r7 => ⟨S5, g5, ((s2.trans s3).trans s4).trans s5, v7, _, _, ?_, (rL (rL (rL rNum))).mono ((s3.trans s4).trans s5) a2, rfl⟩
            unfold WsM.sel at hF ⊢
            rw [List.foldl_append, hF]
            simp only [List.filterMap_cons, List.filterMap_nil, z]
            show (rO rM).is S5 v7 (WsM.keep F m)
            unfold WsM.keep
            rw [if_pos h]
            exact rO_pair r7
        · refine ⟨S4, g4, (s2.trans s3).trans s4, w, _, _, ?_, (rL (rL (rL rNum))).mono (s3.trans s4) a2, rfl⟩
          refine (rO rM).mono (s3.trans s4) ?_
          unfold WsM.sel at hF ⊢
          rw [List.foldl_append, hF]
          cases z : WsM.meanThrough x1 i with
          | none =>
            simp only [List.filterMap_cons, List.filterMap_nil, z]
            exact a1
          | some m =>
            rw [z] at h
            have h : WsM.isGr m F = false := h
            simp only [List.filterMap_cons, List.filterMap_nil, z]
            show (rO rM).is S2 w (WsM.keep F m)
            unfold WsM.keep
            rw [if_neg (by rw [h]; exact Bool.false_ne_true)]
            exact a1
    · obtain ⟨w, y, z, a1, a2, rfl⟩ := hP
      rw [List.length_range] at a1
      refine q_when (et_noneO (ev_var rfl a1)) g2 (fun h S3 H3 g3 s3 => ?_) (fun h S3 H3 g3 s3 => ?_)
      · refine s_ret (ev_c (R := rO rM) (x := none) rfl) g3 fun v S4 H4 g4 r4 => q v S4 H4 g4 ?_
        unfold WsM.greatestMean
        rw [Option.isNone_iff_eq_none.mp h]
        exact r4
      · cases z : WsM.sel ((List.range x1.length).filterMap (WsM.meanThrough x1)) with
        | none =>
          rw [z] at h
          cases h
        | some m =>
          rw [z] at a1
          refine s_ret (R := rM) (x := WsM.lowest m) (ev_call1 (ev_var rfl (rM.mono s3 a1.2)) ?_) g3 fun v S4 H4 g4 r4 => q v S4 H4 g4 ?_
          · have := WsM.sel_through_le z
            exact ⟨this.1, by omega⟩
          · unfold WsM.greatestMean
            rw [z]
            exact rO_pair r4

abbrev sp_things_on : Sp := sp2 (rL (rL (rL rNum))) rM (rL rNat) (fun ls q => ls.length ≤ 16 ∧ (∀ m ∈ ls, WsM.Sq ls.length m) ∧ q.2 ≤ 16) WsM.thingsOn
theorem sc_things_on : FnScope ["levels", "mean", "found", "i", "through"] ["levels", "mean"] (defScope s_things_on) := ⟨rfl, rfl, rfl, by decide +kernel, rfl, by decide +kernel, by decide +kernel⟩
theorem ok_things_on {f : Addr} {fd : FuncData} (F : Fun K "things_on" "things_on" s_things_on f fd) (c_is_equal : Cal P w K mg base "is_equal" 1 ["one", "other"] sp_is_equal) (c_mean_through : Cal P w K mg base "mean_through" 2 ["levels", "i"] sp_mean_through) (m_range : mg "range" = none) (m_len : mg "len" = none) : FnOk P w K mg base CX0 3 f fd ["levels", "mean"] sp_things_on := by
  refine F.ok sc_things_on (fun vs H Q E h => ?_) (fun cdv A outer s H vs Q E hr h => ?_)
  · obtain ⟨v1, x1, v2, x2, S, rfl, _⟩ := h
    rfl
  · obtain ⟨v1, x1, v2, x2, S, rfl, e, r1, r2, hp, q⟩ := h
    try dsimp only at q
    refine ⟨_, (pss_cons (ps_set (i := 2) sc_things_on.nd rfl (Or.inl rfl) (pe_lst pa_nil))
      (pss_cons (ps_for PassesOwn.never rfl (pi_range1 (by rfl) m_range (pa_cons (pe_callB call_len_seq (by rfl) m_len (by decide +kernel) (pa_cons (pv 0) pa_nil)) pa_nil)) (pg_name (i := 3) sc_things_on.nd rfl (Or.inl rfl)) (pss_cons (ps_set (i := 4) sc_things_on.nd rfl (Or.inl rfl) (pe_cal c_mean_through (hr.mono (by decide)) (by rfl) (pa_cons (pv 0) (pa_cons (pv 3) pa_nil))))
      (pss_one (ps_if (PW.pt (pw_and (pt_cmp (pc_notN (pv 4))) (pw_and1 (pt_val (pe_cal c_is_equal (hr.mono (by decide)) (by rfl) (pa_cons (pv 4) (pa_cons (pv 1) pa_nil))))))) (pss_one (ps_expr (pe_bm PySem.F.plainAttrs_list PySem.F.slot_list_append PySem.F.type_list_append mt_append (pv 2) (pa_cons (pv 3) pa_nil)))) pss_nil))))
      (pss_one (ps_ret (pv 2))))), ?_⟩
    obtain ⟨hn, hm, hq⟩ := hp
    refine q_nil (Gr.refl e) fun p H1 np g1 hp => ?_
    refine q_forO (fun i σ' S' vs => vs = ((List.range i).filter fun i => match WsM.meanThrough x1 i with | some t => t.1 * (x2.2 : Int) == x2.1 * (t.2 : Int) | none => false).map (fun k : Nat => V.int (k : Int)) ∧ (rL (rL (rL rNum))).is S' v1 x1 ∧ rM.is S' v2 x2 ∧ ∃ y z, σ' = [some v1, some v2, some (.ref p), y, z]) (src_range (n := x1.length) (by omega) (ev_len (ev_var rfl r1))) g1 hp (fun S2 s2 => ⟨rfl, (rL (rL (rL rNum))).mono s2 r1, rM.mono s2 r2, none, none, rfl⟩) (fun i σ' S2 S3 vs s h => ?_) (fun S0 s0 i x σ' S2 H2 vs v hx g2 hp2 s2 hP rx => ?_) (fun σ' S2 H2 vs g2 hp2 s2 hP => ?_)
    · obtain ⟨a1, a2, a3, a4⟩ := h
      exact ⟨a1, (rL (rL (rL rNum))).mono s a2, rM.mono s a3, a4⟩
    · obtain ⟨a1, a2, a3, y, z, rfl⟩ := hP
      have hi : i < x1.length := by
        have := (List.getElem?_eq_some_iff.mp hx).1
        simpa using this
      rw [List.getElem?_range hi] at hx
      have ex : i = x := Option.some.inj hx
      subst ex
      cases rx
      have hvl : vs.length ≤ 16 := by
        rw [a1, List.length_map]
        have := List.length_filter_le (fun i => match WsM.meanThrough x1 i with | some t => t.1 * (x2.2 : Int) == x2.1 * (t.2 : Int) | none => false) (List.range i)
        rw [List.length_range] at this
        omega
      rw [List.range_succ, List.filter_append]
      -- through = mean_through(levels, i)
      have hpre : ∀ m ∈ x1, WsM.Sq m.length m ∧ i < m.length := fun m h => by
        have := hm m h
        rw [this.1]
        exact ⟨this, hi⟩
      refine ev_call2 (σ := [some v1, some v2, some (.ref p), some (.int (i : Int)), z]) (S := S2) (ev_var rfl a2) (ev_var (v := .int (i : Int)) (R := rNat) rfl rfl) ⟨hn, hpre⟩ rfl H2 g2.hole_same _ fun v4 S3 H3 g3 r4 => ?_
      · obtain ⟨b1, b2⟩ := g2.hole hp2 g3
        have r4 : (rO rM).is S3 v4 (WsM.meanThrough x1 i) := r4
        have tst : EvT (tAnd (tB (tNotN (tVar 4))) (tB (tCall sp_is_equal [] E0 (tCons (tVar 4) (tCons (tVar 1) tNil))))) [some v1, some v2, some (.ref p), some (.int (i : Int)), some v4] S3 (match WsM.meanThrough x1 i with | some t => t.1 * (x2.2 : Int) == x2.1 * (t.2 : Int) | none => false) := by
          refine EvT.is (b := (WsM.meanThrough x1 i).isSome && (match WsM.meanThrough x1 i with | some t => t.1 * (x2.2 : Int) == x2.1 * (t.2 : Int) | none => false)) (et_and (et_someO (ev_var rfl r4)) fun h => et_B ?_) ?_
          · cases z : WsM.meanThrough x1 i with
            | none =>
              rw [z] at h
              cases h
            | some m =>
              rw [z] at r4
              exact ev_call2 (x1 := m) (ev_var rfl r4.2) (ev_var rfl (rM.mono g3.ss a3)) ⟨by have := WsM.through_le z; omega, hq⟩
          · cases WsM.meanThrough x1 i <;> rfl
        refine tst H3 b1.hole_same _ fun S4 H4 g4 => ?_
        obtain ⟨c1, c2⟩ := b1.hole b2 g4
        generalize hb : (match WsM.meanThrough x1 i with | some t => t.1 * (x2.2 : Int) == x2.1 * (t.2 : Int) | none => false) = b
        cases b with
        | true =>
          refine iteT ?_
          refine s_app (R := rNat) (x := i) c1 c2 (by omega) (i := 2) rfl (ev_var rfl rfl) fun w S5 H5 g5 hp5 s5 rw' => ?_
          cases rw'
          refine ⟨S5, _, g5, hp5, ((s2.trans g3.ss).trans g4.ss).trans s5, ?_, (rL (rL (rL rNum))).mono ((g3.ss.trans g4.ss).trans s5) a2, rM.mono ((g3.ss.trans g4.ss).trans s5) a3, _, _, rfl⟩
          rw [a1, List.map_append]
          simp [List.filter_cons, hb]
        | false =>
          refine iteF ⟨S4, _, c1, c2, (s2.trans g3.ss).trans g4.ss, ?_, (rL (rL (rL rNum))).mono (g3.ss.trans g4.ss) a2, rM.mono (g3.ss.trans g4.ss) a3, _, _, rfl⟩
          rw [a1, List.map_append]
          simp [List.filter_cons, hb]
    · obtain ⟨a1, a2, a3, y, z, rfl⟩ := hP
      rw [List.length_range] at a1
      have g3 := g2.shut hp2 np
      refine s_ret (R := rL rNat) (x := WsM.thingsOn x1 x2) (ev_var rfl (rL_flat.mpr ⟨p, rfl, ?_⟩)) g3 q
      rw [upd_same, a1]
      rfl

abbrev sp_brought : Sp := sp2 (rL (rL rNum)) rM (rL (rL rNum)) (fun m q => m.length ≤ 16 ∧ WsM.Sq m.length m ∧ q.2 ≤ 16) (fun m q => WsM.changed m.length m q)
theorem sc_brought : FnScope ["matrix", "mean"] ["matrix", "mean"] (defScope s_brought) := ⟨rfl, rfl, rfl, by decide +kernel, rfl, by decide +kernel, by decide +kernel⟩
theorem ok_brought {f : Addr} {fd : FuncData} (F : Fun K "brought" "brought" s_brought f fd) (c_changed : Cal P w K mg base "changed" 2 ["matrix", "times", "less"] sp_changed) : FnOk P w K mg base CX0 3 f fd ["matrix", "mean"] sp_brought := by
  refine F.ok sc_brought (fun vs H Q E h => ?_) (fun cdv A outer s H vs Q E hr h => ?_)
  · obtain ⟨v1, x1, v2, x2, S, rfl, _⟩ := h
    rfl
  · obtain ⟨v1, x1, v2, x2, S, rfl, e, r1, r2, hp, q⟩ := h
    try dsimp only at q
    refine ⟨_, (pss_one (ps_ret (pe_cal c_changed (hr.mono (by decide)) (by rfl) (pa_cons (pv 0) (pa_cons (pe_ix ix_tup (pv 1) pe_int (fun _ _ => rfl)) (pa_cons (pe_ix ix_tup (pv 1) pe_int (fun _ _ => rfl)) pa_nil)))))), ?_⟩
    obtain ⟨hn, hs, h16⟩ := hp
    exact s_ret (ev_call3 (ev_var rfl r1) (ev_snd (R := rInt) (R' := rNat) (ev_var rfl r2) (ev_c rfl)).int (ev_fst (R' := rNat) (ev_var rfl r2) (ev_c rfl)) ⟨hn, fun r hr => by rw [hs.2 r hr]; exact hn, by omega, by omega⟩ (changed_map hs x2)) (Gr.refl e) q

abbrev sp_period_of : Sp := sp2 (rL (rL rNat)) (rL rNat) rNat (fun st l => st.length ≤ 16 ∧ (∀ l ∈ st, l.length ≤ 16 ∧ ∀ j ∈ l, j < st.length) ∧ ∀ i ∈ l, i < st.length ∧ 0 < WsM.lengthsDiv st i ∧ WsM.lengthsDiv st i ≤ 1000) (fun st l => l.foldl (fun c i => Nat.lcm c (WsM.lengthsDiv st i)) 1)
theorem sc_period_of : FnScope ["steps", "things", "found", "i"] ["steps", "things"] (defScope s_period_of) := ⟨rfl, rfl, rfl, by decide +kernel, rfl, by decide +kernel, by decide +kernel⟩
theorem ok_period_of {f : Addr} {fd : FuncData} (F : Fun K "period_of" "period_of" s_period_of f fd) (c_multiple : Cal P w K mg base "multiple" 2 ["one", "other"] sp_multiple) (c_lengths_divisor : Cal P w K mg base "lengths_divisor" 2 ["steps", "i"] sp_lengths_divisor) : FnOk P w K mg base CX0 3 f fd ["steps", "things"] sp_period_of := by
  refine F.ok sc_period_of (fun vs H Q E h => ?_) (fun cdv A outer s H vs Q E hr h => ?_)
  · obtain ⟨v1, x1, v2, x2, S, rfl, _⟩ := h
    rfl
  · obtain ⟨v1, x1, v2, x2, S, rfl, e, r1, r2, hp, q⟩ := h
    try dsimp only at q
    refine ⟨_, (pss_cons (ps_set (i := 2) sc_period_of.nd rfl (Or.inl rfl) pe_int)
      (pss_cons (ps_for PassesOwn.never rfl (pi_list (pv 1)) (pg_name (i := 3) sc_period_of.nd rfl (Or.inl rfl)) (pss_one (ps_set (i := 2) sc_period_of.nd rfl (Or.inl rfl) (pe_cal c_multiple (hr.mono (by decide)) (by rfl) (pa_cons (pv 2) (pa_cons (pe_cal c_lengths_divisor (hr.mono (by decide)) (by rfl) (pa_cons (pv 0) (pa_cons (pv 3) pa_nil))) pa_nil))))))
      (pss_one (ps_ret (pv 2))))), ?_⟩
    obtain ⟨hn, hj, hi⟩ := hp
    refine q_asg (R := rNat) (x := 1) (ev_c rfl) (Gr.refl e) fun v3 S1 H1 g1 s1 r3 => ?_
    cases r3
    refine q_for (fun k σ' S' => ∃ y, (rL (rL rNat)).is S' v1 x1 ∧ σ' = [some v1, some v2, some (.int (((x2.take k).foldl (fun c i => Nat.lcm c (WsM.lengthsDiv x1 i)) 1 : Nat) : Int)), y]) (src_list (ev_var rfl ((rL rNat).mono s1 r2))) g1 (fun S3 s3 => ⟨none, (rL (rL rNat)).mono (s1.trans s3) r1, rfl⟩) (fun k σ' S3 S4 s h => ?_) (fun S0 s0 k i σ' S3 H3 v hx g3 s3 hP rx => ?_) (fun σ' S3 H3 g3 s3 hP => ?_)
    · obtain ⟨y, a1, a2⟩ := h
      exact ⟨y, (rL (rL rNat)).mono s a1, a2⟩
    · obtain ⟨y, a1, rfl⟩ := hP
      cases rx
      obtain ⟨i1, i2, i3⟩ := hi i (List.mem_of_getElem? hx)
      refine s_asg (R := rNat) (x := Nat.lcm ((x2.take k).foldl (fun c i => Nat.lcm c (WsM.lengthsDiv x1 i)) 1) (WsM.lengthsDiv x1 i)) (ev_call2 (x2 := WsM.lengthsDiv x1 i) (ev_var rfl rfl) (ev_call2 (x2 := i) (ev_var rfl a1) (ev_var rfl rfl) ⟨hn, i1, hj⟩) ⟨i2, i3⟩) g3 fun v6 S6 H6 g6 s6 r6 => ?_
      cases r6
      refine ⟨S6, g6, s3.trans s6, some (.int (i : Int)), (rL (rL rNat)).mono s6 a1, ?_⟩
      rw [take_succ_get hx, List.foldl_append]
      rfl
    · obtain ⟨y, a1, rfl⟩ := hP
      rw [List.take_length]
      exact s_ret (R := rNat) (ev_var rfl rfl) g3 q

theorem zipWith_col {n : Nat} {m : Rb23.Mat} (hm : WsM.Sq n m) {r : List Rb23.Num} (hr : r.length = n) (j : Nat) : r.zipWith Rb23.plus (m.map fun s => s.getD j none) = (List.range n).map fun k => Rb23.plus (r.getD k none) (Rb23.entry m k j) := by
  apply List.ext_getElem
  · simp [hm.1, hr]
  · intro i h1 h2
    have hi : i < n := by simpa using h2
    simp [Rb23.entry, hr, hi, hm.1]
theorem product_eq {n : Nat} {a b : Rb23.Mat} (ha : WsM.Sq n a) (hb : WsM.Sq n b) : (a.map fun r => ((List.range n).map fun j => b.map fun s => s.getD j none).map fun c => Rb23.best (r.zipWith Rb23.plus c)) = Rb23.mul n a b := by
  unfold Rb23.mul Rb23.made
  apply List.ext_getElem
  · simp [ha.1]
  · intro i h1 h2
    have hi : i < n := by simpa using h2
    have hia : i < List.length a := by rw [ha.1]; exact hi
    rw [List.getElem_map, List.getElem_map, List.map_map, List.getElem_range]
    refine List.map_congr_left fun j hj => ?_
    show Rb23.best ((a[i]).zipWith Rb23.plus (b.map fun s => s.getD j none)) = _
    rw [zipWith_col hb (ha.2 _ (List.getElem_mem hia))]
    refine congrArg _ (List.map_congr_left fun k _ => ?_)
    rw [WsM.entry_get hia]
abbrev sp_product : Sp := sp2 (rL (rL rNum)) (rL (rL rNum)) (rL (rL rNum)) (fun a b => a.length ≤ 16 ∧ WsM.Sq a.length a ∧ WsM.Sq a.length b) (fun a b => Rb23.mul a.length a b)
theorem sc_product : FnScope ["one", "other", "columns", "j", "row", "numbers"] ["one", "other"] (defScope s_product) := ⟨rfl, rfl, rfl, by decide +kernel, rfl, by decide +kernel, by decide +kernel⟩
theorem ok_product {f : Addr} {fd : FuncData} (F : Fun K "product" "product" s_product f fd) (c_along : Cal P w K mg base "along" 3 ["row", "numbers"] sp_along) (c_column : Cal P w K mg base "column" 1 ["matrix", "j"] sp_column) (m_range : mg "range" = none) (m_len : mg "len" = none) : FnOk P w K mg base CX0 4 f fd ["one", "other"] sp_product := by
  refine F.ok sc_product (fun vs H Q E h => ?_) (fun cdv A outer s H vs Q E hr h => ?_)
  · obtain ⟨v1, x1, v2, x2, S, rfl, _⟩ := h
    rfl
  · obtain ⟨v1, x1, v2, x2, S, rfl, e, r1, r2, hp, q⟩ := h
    try dsimp only at q
    refine ⟨_, (pss_cons (ps_set (i := 2) sc_product.nd rfl (Or.inr rfl) (pe_lc (own := [("j", 3)]) (wi := (iRng1 (tCons (tCB (rLen K) (tCons (tVar 1) tNil)) tNil))) (g := (gName 3)) (tt := tYes) (te := (tCall sp_column [] E0 (tCons (tVar 1) (tCons (tVar 3) tNil)))) rfl sc_product.nd (pi_range1 (by rfl) m_range (pa_cons (pe_callB call_len_seq (by rfl) m_len (by decide +kernel) (pa_cons (pv 1) pa_nil)) pa_nil)) (blkOk_by (N := ["one", "other", "columns", "j", "row", "numbers"]) (sc := (defScope s_product)) (by decide +kernel)) (fun _ _ _ _ _ => (pg_name (i := 3) sc_product.nd rfl (Or.inl rfl))) (fun _ _ _ _ _ => pts_nil) (fun _ _ _ _ _ => (pe_cal c_column (hr.mono (by decide)) (by rfl) (pa_cons (pv 1) (pa_cons (pv 3) pa_nil))))))
      (pss_one (ps_ret (pe_lc (own := [("row", 4)]) (wi := (iList K (tVar 0))) (g := (gName 4)) (tt := tYes) (te := (tLc (iList K (tVar 2)) (gName 5) tYes (tCall sp_along [] E0 (tCons (tVar 4) (tCons (tVar 5) tNil))) _)) rfl sc_product.nd (pi_list (pv 0)) (blkOk_by (N := ["one", "other", "columns", "j", "row", "numbers"]) (sc := (defScope s_product)) (by decide +kernel)) (fun _ _ _ _ _ => (pg_name (i := 4) sc_product.nd rfl (Or.inr rfl))) (fun _ _ _ _ _ => pts_nil) (fun _ _ _ _ _ => (pe_lc (own := [("numbers", 5)]) (wi := (iList K (tVar 2))) (g := (gName 5)) (tt := tYes) (te := (tCall sp_along [] E0 (tCons (tVar 4) (tCons (tVar 5) tNil)))) rfl sc_product.nd (pi_list (pv 2)) (blkOk_in (blkOk_by (N := ["one", "other", "columns", "j", "row", "numbers"]) (by decide +kernel))) (fun _ _ _ _ _ => (pg_name (i := 5) sc_product.nd rfl (Or.inl rfl))) (fun _ _ _ _ _ => pts_nil) (fun _ _ _ _ _ => (pe_cal c_along (hr.mono (by decide)) (by rfl) (pa_cons (pv 4) (pa_cons (pv 5) pa_nil)))))))))), ?_⟩
    obtain ⟨hn, ha, hb⟩ := hp
    have hbl := hb.1
    have q : Gives S H (rL (rL rNum)) (Rb23.mul x1.length x1 x2) Q := q
    rw [← product_eq ha hb] at q
    refine q_asg (ev_lcY (R' := rL rNum) (fun j => x2.map fun s => s.getD j none) (src_range (n := x1.length) (by omega) (EvR.is (ev_len (ev_var rfl r2)) (by rw [hbl]))) (by rw [List.length_range]; omega) (fun _ => rfl) fun j hj v S1 s1 rj => ?_) (Gr.refl e) fun v3 S1 H1 g1 s1 r3 => ?_
    · rw [List.mem_range] at hj
      exact ev_call2 (x2 := (j : Int)) (ev_var rfl ((rL (rL rNum)).mono s1 r2)) (ev_var rfl rj) ⟨x1.length, hn, hb, by omega, by omega⟩
    · refine s_ret (ev_lcY (R' := rL rNum) (fun r : List (Option Int) => ((List.range x1.length).map fun j => x2.map fun s : List (Option Int) => s.getD j none).map fun c => Rb23.best (r.zipWith Rb23.plus c)) (src_list (ev_var rfl ((rL (rL rNum)).mono s1 r1))) (by omega) (fun _ => rfl) fun r hr v S2 s2 rr => ?_) g1 q
      refine ev_lcY (R' := rNum) (fun c => Rb23.best (r.zipWith Rb23.plus c)) (src_list (ev_var rfl ((rL (rL rNum)).mono s2 r3))) (by rw [List.length_map, List.length_range]; omega) (fun _ => rfl) fun c hc w S3 s3 rc => ?_
      exact ev_call2 (ev_var rfl ((rL rNum).mono s3 rr)) (ev_var rfl rc) (by rw [ha.2 r hr]; omega)

abbrev sp_by_length : Sp := sp1 (rL (rL rNum)) (rL (rL (rL rNum))) (fun m => 1 ≤ m.length ∧ m.length ≤ 16 ∧ WsM.Sq m.length m) (fun m => WsM.levels m.length m)
theorem sc_by_length : FnScope ["matrix", "found", "length"] ["matrix"] (defScope s_by_length) := ⟨rfl, rfl, rfl, by decide +kernel, rfl, by decide +kernel, by decide +kernel⟩
theorem ok_by_length {f : Addr} {fd : FuncData} (F : Fun K "by_length" "by_length" s_by_length f fd) (c_product : Cal P w K mg base "product" 4 ["one", "other"] sp_product) (m_range : mg "range" = none) (m_len : mg "len" = none) : FnOk P w K mg base CX0 5 f fd ["matrix"] sp_by_length := by
  refine F.ok sc_by_length (fun vs H Q E h => ?_) (fun cdv A outer s H vs Q E hr h => ?_)
  · obtain ⟨v1, x1, S, rfl, _⟩ := h
    rfl
  · obtain ⟨v1, x1, S, rfl, e, r1, hp, q⟩ := h
    try dsimp only at q
    refine ⟨_, (pss_cons (ps_set (i := 1) sc_by_length.nd rfl (Or.inl rfl) (pe_lst (pa_cons (pv 0) pa_nil)))
      (pss_cons (ps_for PassesOwn.never rfl (pi_range2 (by rfl) m_range (pa_cons pe_int (pa_cons (pe_op op_add (pe_callB call_len_seq (by rfl) m_len (by decide +kernel) (pa_cons (pv 0) pa_nil)) pe_int) pa_nil))) (pg_name (i := 2) sc_by_length.nd rfl (Or.inl rfl)) (pss_one (ps_expr (pe_bm PySem.F.plainAttrs_list PySem.F.slot_list_append PySem.F.type_list_append mt_append (pv 1) (pa_cons (pe_cal c_product (hr.mono (by decide)) (by rfl) (pa_cons (pe_ix ix_list (pv 1) (pe_un un_neg pe_int) (fun _ _ => rfl)) (pa_cons (pv 0) pa_nil))) pa_nil)))))
      (pss_one (ps_ret (pv 1))))), ?_⟩
    obtain ⟨h1, hn, hs⟩ := hp
    refine q_lst1 (ev_var rfl r1) (Gr.refl e) fun p v S1 H1 hB g1 hp s1 rv => ?_
    refine q_forO (fun i σ' S' vs => Paired ((rL (rL rNum)).is S') vs ((List.range (i + 1)).map fun k => Rb23.pow x1.length x1 (k + 1)) ∧ (rL (rL rNum)).is S' v1 x1 ∧ ∃ y, σ' = [some v1, some (.ref p), y])
      (src_range2 (a := 2) (n := x1.length - 1) (by omega) (by omega) (hi := (x1.length : Int) + 1) (by omega) (ev_c rfl) (ev_add (ev_len (ev_var rfl ((rL (rL rNum)).mono s1 r1))) (ev_c (x := (1 : Int)) rfl))) g1 hp (fun S2 s2 => ⟨?_, (rL (rL rNum)).mono (s1.trans s2) r1, none, rfl⟩) (fun i σ' S2 S3 vs s h => ?_) (fun S0 s0 i x σ' S2 H2 vs v hx g2 hp2 s2 hP rx => ?_) (fun σ' S2 H2 vs g2 hp2 s2 hP => ?_)
    · refine .cons ?_ .nil
      show (rL (rL rNum)).is S2 v (Rb23.pow x1.length x1 1)
      rw [WsM.pow_one hs]
      exact (rL (rL rNum)).mono s2 rv
    · obtain ⟨a1, a2, y, a3⟩ := h
      exact ⟨Paired.same s a1, (rL (rL rNum)).mono s a2, y, a3⟩
    · obtain ⟨a1, a2, y, rfl⟩ := hP
      have hi : i < x1.length - 1 := by
        have := (List.getElem?_eq_some_iff.mp hx).1
        simpa using this
      have hl := paired_len a1
      rw [List.range_succ, List.map_append] at a1
      obtain ⟨ws, w, rfl, b1, b2⟩ := paired_snoc a1
      have b2 : (rL (rL rNum)).is S2 w (Rb23.pow x1.length x1 (i + 1)) := b2
      have qs := WsM.pow_sq x1.length x1 (i + 1)
      refine ⟨.ref p, rfl, .inl ⟨rfl, _, SqL.of hp2⟩, ?_⟩
      refine ⟨.ref p, rfl, 1, rfl, p, _, -1, w, rfl, rfl, SqL.of hp2, atI_last _ _, v1, rfl, w, Rb23.pow x1.length x1 (i + 1), v1, x1, S2, rfl, g2.hole_same, b2, a2, ⟨by rw [qs.1]; exact hn, by rw [qs.1]; exact qs, by rw [qs.1]; exact hs⟩, fun z S3 H3 g3 r3 => ?_⟩
      obtain ⟨c1, c2⟩ := g2.hole hp2 g3
      refine ⟨p, _, z, rfl, rfl, c2, ?_, S3, _, c1.store, upd_same, s2.trans g3.ss, ?_, (rL (rL rNum)).mono g3.ss a2, some v, rfl⟩
      · rw [List.length_map, List.length_range] at hl
        exact Nat.lt_of_le_of_lt (show _ ≤ 1000 by rw [hl]; omega) (by decide)
      · rw [List.range_succ, List.map_append, List.range_succ, List.map_append]
        refine Paired.snoc (Paired.snoc (Paired.same g3.ss b1) ((rL (rL rNum)).mono g3.ss b2)) ?_
        have r3 : (rL (rL rNum)).is S3 z (Rb23.mul (Rb23.pow x1.length x1 (i + 1)).length (Rb23.pow x1.length x1 (i + 1)) x1) := r3
        rw [qs.1] at r3
        exact r3
    · obtain ⟨a1, a2, y, rfl⟩ := hP
      rw [List.length_range', Nat.sub_add_cancel h1] at a1
      have sn : S2 p = none := g2.sh.free del_at
      exact s_ret (R := rL (rL (rL rNum))) (ev_var rfl ⟨p, vs, rfl, upd_same, Paired.same (same_new sn) a1⟩) (g2.shut hp2 hB) q

abbrev sp_all_walks : Sp := sp1 (rL (rL rNum)) (rL (rL rNum)) (fun m => 1 ≤ m.length ∧ m.length ≤ 16 ∧ WsM.Sq m.length m) (fun m => WsM.closed m.length m)
theorem sc_all_walks : FnScope ["matrix"] ["matrix"] (defScope s_all_walks) := ⟨rfl, rfl, rfl, by decide +kernel, rfl, by decide +kernel, by decide +kernel⟩
theorem ok_all_walks {f : Addr} {fd : FuncData} (F : Fun K "all_walks" "all_walks" s_all_walks f fd) (c_closed : Cal P w K mg base "closed" 3 ["matrix", "levels"] sp_closed) (c_by_length : Cal P w K mg base "by_length" 5 ["matrix"] sp_by_length) : FnOk P w K mg base CX0 6 f fd ["matrix"] sp_all_walks := by
  refine F.ok sc_all_walks (fun vs H Q E h => ?_) (fun cdv A outer s H vs Q E hr h => ?_)
  · obtain ⟨v1, x1, S, rfl, _⟩ := h
    rfl
  · obtain ⟨v1, x1, S, rfl, e, r1, hp, q⟩ := h
    try dsimp only at q
    refine ⟨_, (pss_one (ps_ret (pe_cal c_closed (hr.mono (by decide)) (by rfl) (pa_cons (pv 0) (pa_cons (pe_cal c_by_length (hr.mono (by decide)) (by rfl) (pa_cons (pv 0) pa_nil)) pa_nil))))), ?_⟩
    obtain ⟨h1, hn, hs⟩ := hp
    exact s_ret (ev_call2 (ev_var rfl r1) (x2 := WsM.levels x1.length x1) (ev_call1 (ev_var rfl r1) ⟨h1, hn, hs⟩) ⟨hn, fun x hx => WsM.levels_sq hx⟩) (Gr.refl e) q

abbrev sp_steps_on : Sp := sp2 (rL (rL rNum)) rM (rL (rL rNat)) (fun m q => 1 ≤ m.length ∧ m.length ≤ 16 ∧ WsM.Sq m.length m ∧ q.2 ≤ 16) (fun m q => WsM.stepsOn m.length (WsM.changed m.length m q) (WsM.closed m.length (WsM.changed m.length m q)))
theorem sc_steps_on : FnScope ["matrix", "mean", "low", "walks", "found", "i", "j"] ["matrix", "mean"] (defScope s_steps_on) := ⟨rfl, rfl, rfl, by decide +kernel, rfl, by decide +kernel, by decide +kernel⟩
theorem ok_steps_on {f : Addr} {fd : FuncData} (F : Fun K "steps_on" "steps_on" s_steps_on f fd) (c_is_on : Cal P w K mg base "is_on" 1 ["step", "back"] sp_is_on) (c_all_walks : Cal P w K mg base "all_walks" 6 ["matrix"] sp_all_walks) (c_brought : Cal P w K mg base "brought" 3 ["matrix", "mean"] sp_brought) (m_range : mg "range" = none) (m_len : mg "len" = none) : FnOk P w K mg base CX0 7 f fd ["matrix", "mean"] sp_steps_on := by
  refine F.ok sc_steps_on (fun vs H Q E h => ?_) (fun cdv A outer s H vs Q E hr h => ?_)
  · obtain ⟨v1, x1, v2, x2, S, rfl, _⟩ := h
    rfl
  · obtain ⟨v1, x1, v2, x2, S, rfl, e, r1, r2, hp, q⟩ := h
    try dsimp only at q
    refine ⟨_, (pss_cons (ps_set (i := 2) sc_steps_on.nd rfl (Or.inr rfl) (pe_cal c_brought (hr.mono (by decide)) (by rfl) (pa_cons (pv 0) (pa_cons (pv 1) pa_nil))))
      (pss_cons (ps_set (i := 3) sc_steps_on.nd rfl (Or.inr rfl) (pe_cal c_all_walks (hr.mono (by decide)) (by rfl) (pa_cons (pv 2) pa_nil)))
      (pss_cons (ps_set (i := 4) sc_steps_on.nd rfl (Or.inl rfl) (pe_lst pa_nil))
      (pss_cons (ps_for PassesOwn.never rfl (pi_range1 (by rfl) m_range (pa_cons (pe_callB call_len_seq (by rfl) m_len (by decide +kernel) (pa_cons (pv 0) pa_nil)) pa_nil)) (pg_name (i := 5) sc_steps_on.nd rfl (Or.inr rfl)) (pss_one (ps_expr (pe_bm PySem.F.plainAttrs_list PySem.F.slot_list_append PySem.F.type_list_append mt_append (pv 4) (pa_cons (pe_lc (own := [("j", 6)]) (wi := (iRng1 (tCons (tCB (rLen K) (tCons (tVar 0) tNil)) tNil))) (g := (gName 6)) (tt := (tB (tCall sp_is_on [] E0 (tCons (tOp (rIxL K) (tOp (rIxL K) (tVar 2) (tVar 5)) (tVar 6)) (tCons (tOp (rIxL K) (tOp (rIxL K) (tVar 3) (tVar 6)) (tVar 5)) tNil))))) (te := (tVar 6)) rfl sc_steps_on.nd (pi_range1 (by rfl) m_range (pa_cons (pe_callB call_len_seq (by rfl) m_len (by decide +kernel) (pa_cons (pv 0) pa_nil)) pa_nil)) (blkOk_by (N := ["matrix", "mean", "low", "walks", "found", "i", "j"]) (sc := (defScope s_steps_on)) (by decide +kernel)) (fun _ _ _ _ _ => (pg_name (i := 6) sc_steps_on.nd rfl (Or.inl rfl))) (fun _ _ _ _ _ => (pts_one (pt_val (pe_cal c_is_on (hr.mono (by decide)) (by rfl) (pa_cons (pe_ix ix_list (pe_ix ix_list (pv 2) (pv 5) (fun _ _ => rfl)) (pv 6) (fun _ _ => rfl)) (pa_cons (pe_ix ix_list (pe_ix ix_list (pv 3) (pv 6) (fun _ _ => rfl)) (pv 5) (fun _ _ => rfl)) pa_nil)))))) (fun _ _ _ _ _ => (pv 6))) pa_nil)))))
      (pss_one (ps_ret (pv 4))))))), ?_⟩
    obtain ⟨h1, hn, hs, h16⟩ := hp
    have qc := WsM.changed_sq x1.length x1 x2
    have ql := WsM.closed_sq x1.length (WsM.changed x1.length x1 x2)
    refine q_asg (R := rL (rL rNum)) (x := WsM.changed x1.length x1 x2) (ev_call2 (ev_var rfl r1) (ev_var rfl r2) ⟨hn, hs, h16⟩) (Gr.refl e) fun v3 S1 H1 g1 s1 r3 => ?_
    refine q_asg (R := rL (rL rNum)) (x := WsM.closed x1.length (WsM.changed x1.length x1 x2)) (ev_call1 (ev_var rfl r3) ⟨by rw [qc.1]; exact h1, by rw [qc.1]; exact hn, by rw [qc.1]; exact qc⟩ (by rw [qc.1])) g1 fun v4 S2 H2 g2 s2 r4 => ?_
    refine q_nil g2 fun p H3 np g3 hp => ?_
    have r1' := (rL (rL rNum)).mono (s1.trans s2) r1
    have r3' := (rL (rL rNum)).mono s2 r3
    generalize hL : WsM.changed x1.length x1 x2 = L at qc ql r3' r4 q
    generalize hW : WsM.closed x1.length L = W at ql r4 q
    have hB : H p = none := g2.hh.free np
    refine q_forO (fun i σ' S' vs => Paired ((rL rNat).is S') vs ((List.range i).map fun i => (List.range x1.length).filter fun j => WsM.isOn (Rb23.entry L i j) (Rb23.entry W j i)) ∧ (rL (rL rNum)).is S' v1 x1 ∧ (rL (rL rNum)).is S' v3 L ∧ (rL (rL rNum)).is S' v4 W ∧ ∃ y, σ' = [some v1, some v2, some v3, some v4, some (.ref p), y, none])
      (src_range (n := x1.length) (by omega) (ev_len (ev_var rfl r1'))) g3 hp (fun S4 s4 => ⟨.nil, (rL (rL rNum)).mono s4 r1', (rL (rL rNum)).mono s4 r3', (rL (rL rNum)).mono s4 r4, none, rfl⟩) (fun i σ' S4 S5 vs s h => ?_) (fun S0 s0 i x σ' S4 H4 vs v hx g4 hp4 s4 hP rx => ?_) (fun σ' S4 H4 vs g4 hp4 s4 hP => ?_)
    · obtain ⟨a1, a2, a3, a4, a5⟩ := h
      exact ⟨Paired.same s a1, (rL (rL rNum)).mono s a2, (rL (rL rNum)).mono s a3, (rL (rL rNum)).mono s a4, a5⟩
    · obtain ⟨a1, a2, a3, a4, y, rfl⟩ := hP
      have hi : i < x1.length := by
        have := (List.getElem?_eq_some_iff.mp hx).1
        simpa using this
      rw [List.getElem?_range hi] at hx
      have ex : i = x := Option.some.inj hx
      subst ex
      cases rx
      have hvl : vs.length ≤ 16 := by
        rw [paired_len a1, List.length_map, List.length_range]
        omega
      have get : ∀ {m : Rb23.Mat} {u : V} {S6 : Hp} {σ2 : L2.St} {k a b : Nat} {ka kb : Nat}, WsM.Sq x1.length m → (rL (rL rNum)).is S6 u m → a < x1.length → b < x1.length → σ2[k]? = some (some u) → σ2[ka]? = some (some (.int (a : Int))) → σ2[kb]? = some (some (.int (b : Int))) → EvR (tOp (rIxL K) (tOp (rIxL K) (tVar k) (tVar ka)) (tVar kb)) σ2 S6 rNum (Rb23.entry m a b) := by
        intro m u S6 σ2 k a b ka kb hm hr ha hb e1 e2 e3
        have ham : a < List.length m := by rw [hm.1]; exact ha
        have hlm := hm.2 _ (List.getElem_mem ham)
        refine ev_ix (l := m[a]) (j := b) (ev_ix (R := rL rNum) (l := m) (j := a) (ev_var e1 hr) (ev_var e2 rfl) (List.getElem?_eq_getElem ham)) (ev_var e3 rfl) ?_
        rw [WsM.entry_get ham, List.getD_eq_getElem?_getD, List.getElem?_eq_getElem (by omega)]
        rfl
      refine s_app (R := rL rNat) (x := (List.range x1.length).filter fun j => WsM.isOn (Rb23.entry L i j) (Rb23.entry W j i)) g4 hp4 (by omega) (i := 4) rfl (EvR.is (ev_lcN (R' := rNat) (fun j => WsM.isOn (Rb23.entry L i j) (Rb23.entry W j i)) (fun j => j) (src_range (n := x1.length) (by omega) (ev_len (ev_var rfl a2))) (by rw [List.length_range]; omega) (fun _ => rfl) (fun j hj u S6 s6 rj => ?_) (fun j hj _ u S6 s6 rj => ev_var rfl rj)) (List.map_id' _)) fun u S5 H5 g5 hp5 s5 ru => ?_
      · rw [List.mem_range] at hj
        cases rj
        exact et_B (ev_call2 (get qc ((rL (rL rNum)).mono s6 a3) hi hj rfl rfl rfl) (get ql ((rL (rL rNum)).mono s6 a4) hj hi rfl rfl rfl) trivial)
      · refine ⟨S5, _, g5, hp5, s4.trans s5, ?_, (rL (rL rNum)).mono s5 a2, (rL (rL rNum)).mono s5 a3, (rL (rL rNum)).mono s5 a4, _, rfl⟩
        rw [List.range_succ, List.map_append]
        exact Paired.snoc (Paired.same s5 a1) ru
    · obtain ⟨a1, a2, a3, a4, y, rfl⟩ := hP
      rw [List.length_range] at a1
      have sn : S4 p = none := g4.sh.free del_at
      exact s_ret (R := rL (rL rNat)) (ev_var rfl ⟨p, vs, rfl, upd_same, Paired.same (same_new sn) a1⟩) (g4.shut hp4 hB) q

def perAns (n : Nat) (a : Rb23.Mat) : Nat := if WsM.tiedB (WsM.levels n a) = true then (match Rb23.mean n a with
    | some q => (WsM.thingsOn (WsM.levels n a) q).foldl (fun c i => Nat.lcm c (WsM.lengthsDiv (WsM.stepsOn n (WsM.changed n a q) (WsM.closed n (WsM.changed n a q))) i)) 1
    | none => 0) else 0
abbrev sp_period (K : PySem.W.Frag) : Sp := sp2 rInt (rA K V.int) (rL rInt) (fun n a => 1 ≤ n ∧ n ≤ 16 ∧ a.length = n.toNat * n.toNat ∧ ∀ d ∈ a, 0 ≤ d) (fun n a => [((perAns n.toNat (Rb23Neutral.mat n a) : Nat) : Int)])
theorem sc_period : FnScope ["n", "a", "matrix", "levels", "found"] ["n", "a"] (defScope s_period) := ⟨rfl, rfl, rfl, by decide +kernel, rfl, by decide +kernel, by decide +kernel⟩
theorem ok_period {f : Addr} {fd : FuncData} (F : Fun K "period" "period" s_period f fd) (c_period_of : Cal P w K mg base "period_of" 3 ["steps", "things"] sp_period_of) (c_things_on : Cal P w K mg base "things_on" 3 ["levels", "mean"] sp_things_on) (c_steps_on : Cal P w K mg base "steps_on" 7 ["matrix", "mean"] sp_steps_on) (c_greatest_mean : Cal P w K mg base "greatest_mean" 3 ["levels"] sp_greatest_mean) (c_is_tied : Cal P w K mg base "is_tied" 3 ["levels"] sp_is_tied) (c_by_length : Cal P w K mg base "by_length" 5 ["matrix"] sp_by_length) (c_matrix_of : Cal P w K mg base "matrix_of" 2 ["n", "spelled"] (sp_matrix_of K)) : FnOk P w K mg base CX0 8 f fd ["n", "a"] (sp_period K) := by
  refine F.ok sc_period (fun vs H Q E h => ?_) (fun cdv A outer s H vs Q E hr h => ?_)
  · obtain ⟨v1, x1, v2, x2, S, rfl, _⟩ := h
    rfl
  · obtain ⟨v1, x1, v2, x2, S, rfl, e, r1, r2, hp, q⟩ := h
    try dsimp only at q
    refine ⟨_, (pss_cons (ps_set (i := 2) sc_period.nd rfl (Or.inl rfl) (pe_cal c_matrix_of (hr.mono (by decide)) (by rfl) (pa_cons (pv 0) (pa_cons (pv 1) pa_nil))))
      (pss_cons (ps_set (i := 3) sc_period.nd rfl (Or.inl rfl) (pe_cal c_by_length (hr.mono (by decide)) (by rfl) (pa_cons (pv 2) pa_nil)))
      (pss_cons (ps_if (pt_not (pt_val (pe_cal c_is_tied (hr.mono (by decide)) (by rfl) (pa_cons (pv 3) pa_nil)))) (pss_one (ps_ret (pe_lst (pa_cons pe_int pa_nil)))) pss_nil)
      (pss_cons (ps_set (i := 4) sc_period.nd rfl (Or.inl rfl) (pe_cal c_greatest_mean (hr.mono (by decide)) (by rfl) (pa_cons (pv 3) pa_nil)))
      (pss_one (ps_ret (pe_lst (pa_cons (pe_cal c_period_of (hr.mono (by decide)) (by rfl) (pa_cons (pe_cal c_steps_on (hr.mono (by decide)) (by rfl) (pa_cons (pv 2) (pa_cons (pv 4) pa_nil))) (pa_cons (pe_cal c_things_on (hr.mono (by decide)) (by rfl) (pa_cons (pv 3) (pa_cons (pv 4) pa_nil))) pa_nil))) pa_nil)))))))), ?_⟩
    obtain ⟨h1, h16, la, ha⟩ := hp
    have qa := mat_sq h1 la
    have hn : x1.toNat ≤ 16 := by omega
    have hn1 : 1 ≤ x1.toNat := by omega
    refine q_asg (R := rL (rL rNum)) (x := Rb23Neutral.mat x1 x2) (ev_call2 (ev_var rfl r1) (ev_var rfl r2) ⟨h1, h16, ha⟩) (Gr.refl e) fun v3 S1 H1 g1 s1 r3 => ?_
    generalize hM : Rb23Neutral.mat x1 x2 = M at qa r3 q
    generalize hN : x1.toNat = N at qa hn hn1 q
    refine q_asg (R := rL (rL (rL rNum))) (x := WsM.levels N M) (ev_call1 (ev_var rfl r3) ⟨by rw [qa.1]; exact hn1, by rw [qa.1]; exact hn, by rw [qa.1]; exact qa⟩ (by rw [qa.1])) g1 fun v4 S2 H2 g2 s2 r4 => ?_
    have hl := WsM.levels_len N M
    have hs : ∀ m ∈ WsM.levels N M, WsM.Sq N m := fun m hm => WsM.levels_sq hm
    have hz := WsM.levels_zero qa hn1
    unfold perAns at q
    refine q_when (b := !WsM.tiedB (WsM.levels N M)) (et_not (et_B (ev_call1 (ev_var rfl r4) ⟨by omega, by rw [hz, qa.1]; exact hn, by rw [hz, qa.1]; exact hs⟩))) g2 (fun h S3 H3 g3 s3 => ?_) (fun h S3 H3 g3 s3 => ?_)
    · have h : WsM.tiedB (WsM.levels N M) = false := by
        rw [Bool.not_eq_true'] at h
        exact h
      refine s_ret (ev_lst1 (ev_c (R := rInt) (x := 0) rfl)) g3 fun v S4 H4 g4 r => q v S4 H4 g4 ?_
      rw [h]
      exact r
    · have h : WsM.tiedB (WsM.levels N M) = true := by
        rw [Bool.not_eq_false'] at h
        exact h
      rw [h, if_pos rfl] at q
      obtain ⟨m, hm⟩ := WsM.tied_mean qa hn1 ((WsM.tied_iff qa hn1).mp h)
      have hb := WsM.mean_best hm
      have hp2 := (WsM.period_eq qa hn1 h hm).2
      have hlt : ∀ i ∈ WsM.thingsOn (WsM.levels N M) m, i < N := fun i hi => by
        have := WsM.thingsOn_lt hi
        rwa [hl] at this
      rw [hm] at q
      dsimp only at q
      have r4' := (rL (rL (rL rNum))).mono s3 r4
      refine q_asg (R := rO rM) (x := some m) (ev_call1 (ev_var rfl r4') ⟨by omega, by rw [hl]; exact hs⟩ ((WsM.mean_eq N M).trans hm)) g3 fun v5 S4 H4 g4 s4 r5 => ?_
      have r5 : rM.is S4 v5 m := r5.2
      have hsl : (WsM.stepsOn N (WsM.changed N M m) (WsM.closed N (WsM.changed N M m))).length = N := by simp [WsM.stepsOn]
      have hst : ∀ l ∈ WsM.stepsOn N (WsM.changed N M m) (WsM.closed N (WsM.changed N M m)), l.length ≤ 16 ∧ ∀ j ∈ l, j < N := fun l hl => by
        obtain ⟨i, _, rfl⟩ := List.mem_map.mp hl
        refine ⟨?_, fun j hj => List.mem_range.mp (List.mem_filter.mp hj).1⟩
        have := List.length_filter_le (fun j => WsM.isOn (Rb23.entry (WsM.changed N M m) i j) (Rb23.entry (WsM.closed N (WsM.changed N M m)) j i)) (List.range N)
        rw [List.length_range] at this
        omega
      refine s_ret (ev_lst1 (R := rInt) (EvR.int (ev_call2 (R1 := rL (rL rNat)) (R2 := rL rNat) (x1 := WsM.stepsOn N (WsM.changed N M m) (WsM.closed N (WsM.changed N M m))) (x2 := WsM.thingsOn (WsM.levels N M) m) (ev_call2 (ev_var rfl ((rL (rL rNum)).mono ((s2.trans s3).trans s4) r3)) (ev_var rfl r5) ⟨by rw [qa.1]; exact hn1, by rw [qa.1]; exact hn, by rw [qa.1]; exact qa, by omega⟩ (by rw [qa.1])) (ev_call2 (ev_var rfl ((rL (rL (rL rNum))).mono s4 r4')) (ev_var rfl r5) ⟨by omega, by rw [hl]; exact hs, by omega⟩) ⟨by omega, by rw [hsl]; exact hst, fun i hi => ?_⟩))) g4 q
      have := hp2 i hi
      exact ⟨by rw [hsl]; exact hlt i hi, this.1, by omega⟩

end
theorem all_mk {P : Program} {w : World} {K : PySem.W.Frag} {h : Heap} {mg : Str → Option Value} {fa : Addr} (X : K.In h) (G : h.Ns mainGlobals mg) (hfa : mg "period" = some (.ref fa))
    {f1 : Addr} {od1 an1 : Option Addr} {sl1 : Array (Option Value)} {oc1 kV1 dc1 pm1 cd1 ct1 : Value}
    (a1 : PySem.W.nsIn K mainGlobals "read" = some (some (.ref f1))) (l1 : K.lookup f1 = some ⟨oc1, od1, .func (PySem.W.fnOf "read" "read" (defArgs s_read) (defBody s_read) (defScope s_read) .none kV1 dc1 pm1 an1 cd1 ct1), sl1⟩) (c1 : PySem.W.codeIn K cd1 "read" = true) (k1 : PySem.W.keepIn K (.ref f1) = true)
    {f2 : Addr} {od2 an2 : Option Addr} {sl2 : Array (Option Value)} {oc2 kV2 dc2 pm2 cd2 ct2 : Value}
    (a2 : PySem.W.nsIn K mainGlobals "plus" = some (some (.ref f2))) (l2 : K.lookup f2 = some ⟨oc2, od2, .func (PySem.W.fnOf "plus" "plus" (defArgs s_plus) (defBody s_plus) (defScope s_plus) .none kV2 dc2 pm2 an2 cd2 ct2), sl2⟩) (c2 : PySem.W.codeIn K cd2 "plus" = true) (k2 : PySem.W.keepIn K (.ref f2) = true)
    {f3 : Addr} {od3 an3 : Option Addr} {sl3 : Array (Option Value)} {oc3 kV3 dc3 pm3 cd3 ct3 : Value}
    (a3 : PySem.W.nsIn K mainGlobals "greater" = some (some (.ref f3))) (l3 : K.lookup f3 = some ⟨oc3, od3, .func (PySem.W.fnOf "greater" "greater" (defArgs s_greater) (defBody s_greater) (defScope s_greater) .none kV3 dc3 pm3 an3 cd3 ct3), sl3⟩) (c3 : PySem.W.codeIn K cd3 "greater" = true) (k3 : PySem.W.keepIn K (.ref f3) = true)
    {f4 : Addr} {od4 an4 : Option Addr} {sl4 : Array (Option Value)} {oc4 kV4 dc4 pm4 cd4 ct4 : Value}
    (a4 : PySem.W.nsIn K mainGlobals "common" = some (some (.ref f4))) (l4 : K.lookup f4 = some ⟨oc4, od4, .func (PySem.W.fnOf "common" "common" (defArgs s_common) (defBody s_common) (defScope s_common) .none kV4 dc4 pm4 an4 cd4 ct4), sl4⟩) (c4 : PySem.W.codeIn K cd4 "common" = true) (k4 : PySem.W.keepIn K (.ref f4) = true)
    {f5 : Addr} {od5 an5 : Option Addr} {sl5 : Array (Option Value)} {oc5 kV5 dc5 pm5 cd5 ct5 : Value}
    (a5 : PySem.W.nsIn K mainGlobals "column" = some (some (.ref f5))) (l5 : K.lookup f5 = some ⟨oc5, od5, .func (PySem.W.fnOf "column" "column" (defArgs s_column) (defBody s_column) (defScope s_column) .none kV5 dc5 pm5 an5 cd5 ct5), sl5⟩) (c5 : PySem.W.codeIn K cd5 "column" = true) (k5 : PySem.W.keepIn K (.ref f5) = true)
    {f6 : Addr} {od6 an6 : Option Addr} {sl6 : Array (Option Value)} {oc6 kV6 dc6 pm6 cd6 ct6 : Value}
    (a6 : PySem.W.nsIn K mainGlobals "unit_row" = some (some (.ref f6))) (l6 : K.lookup f6 = some ⟨oc6, od6, .func (PySem.W.fnOf "unit_row" "unit_row" (defArgs s_unit_row) (defBody s_unit_row) (defScope s_unit_row) .none kV6 dc6 pm6 an6 cd6 ct6), sl6⟩) (c6 : PySem.W.codeIn K cd6 "unit_row" = true) (k6 : PySem.W.keepIn K (.ref f6) = true)
    {f7 : Addr} {od7 an7 : Option Addr} {sl7 : Array (Option Value)} {oc7 kV7 dc7 pm7 cd7 ct7 : Value}
    (a7 : PySem.W.nsIn K mainGlobals "changed_number" = some (some (.ref f7))) (l7 : K.lookup f7 = some ⟨oc7, od7, .func (PySem.W.fnOf "changed_number" "changed_number" (defArgs s_changed_number) (defBody s_changed_number) (defScope s_changed_number) .none kV7 dc7 pm7 an7 cd7 ct7), sl7⟩) (c7 : PySem.W.codeIn K cd7 "changed_number" = true) (k7 : PySem.W.keepIn K (.ref f7) = true)
    {f8 : Addr} {od8 an8 : Option Addr} {sl8 : Array (Option Value)} {oc8 kV8 dc8 pm8 cd8 ct8 : Value}
    (a8 : PySem.W.nsIn K mainGlobals "is_greater" = some (some (.ref f8))) (l8 : K.lookup f8 = some ⟨oc8, od8, .func (PySem.W.fnOf "is_greater" "is_greater" (defArgs s_is_greater) (defBody s_is_greater) (defScope s_is_greater) .none kV8 dc8 pm8 an8 cd8 ct8), sl8⟩) (c8 : PySem.W.codeIn K cd8 "is_greater" = true) (k8 : PySem.W.keepIn K (.ref f8) = true)
    {f9 : Addr} {od9 an9 : Option Addr} {sl9 : Array (Option Value)} {oc9 kV9 dc9 pm9 cd9 ct9 : Value}
    (a9 : PySem.W.nsIn K mainGlobals "is_equal" = some (some (.ref f9))) (l9 : K.lookup f9 = some ⟨oc9, od9, .func (PySem.W.fnOf "is_equal" "is_equal" (defArgs s_is_equal) (defBody s_is_equal) (defScope s_is_equal) .none kV9 dc9 pm9 an9 cd9 ct9), sl9⟩) (c9 : PySem.W.codeIn K cd9 "is_equal" = true) (k9 : PySem.W.keepIn K (.ref f9) = true)
    {f10 : Addr} {od10 an10 : Option Addr} {sl10 : Array (Option Value)} {oc10 kV10 dc10 pm10 cd10 ct10 : Value}
    (a10 : PySem.W.nsIn K mainGlobals "is_on" = some (some (.ref f10))) (l10 : K.lookup f10 = some ⟨oc10, od10, .func (PySem.W.fnOf "is_on" "is_on" (defArgs s_is_on) (defBody s_is_on) (defScope s_is_on) .none kV10 dc10 pm10 an10 cd10 ct10), sl10⟩) (c10 : PySem.W.codeIn K cd10 "is_on" = true) (k10 : PySem.W.keepIn K (.ref f10) = true)
    {f11 : Addr} {od11 an11 : Option Addr} {sl11 : Array (Option Value)} {oc11 kV11 dc11 pm11 cd11 ct11 : Value}
    (a11 : PySem.W.nsIn K mainGlobals "onward" = some (some (.ref f11))) (l11 : K.lookup f11 = some ⟨oc11, od11, .func (PySem.W.fnOf "onward" "onward" (defArgs s_onward) (defBody s_onward) (defScope s_onward) .none kV11 dc11 pm11 an11 cd11 ct11), sl11⟩) (c11 : PySem.W.codeIn K cd11 "onward" = true) (k11 : PySem.W.keepIn K (.ref f11) = true)
    {f12 : Addr} {od12 an12 : Option Addr} {sl12 : Array (Option Value)} {oc12 kV12 dc12 pm12 cd12 ct12 : Value}
    (a12 : PySem.W.nsIn K mainGlobals "greatest" = some (some (.ref f12))) (l12 : K.lookup f12 = some ⟨oc12, od12, .func (PySem.W.fnOf "greatest" "greatest" (defArgs s_greatest) (defBody s_greatest) (defScope s_greatest) .none kV12 dc12 pm12 an12 cd12 ct12), sl12⟩) (c12 : PySem.W.codeIn K cd12 "greatest" = true) (k12 : PySem.W.keepIn K (.ref f12) = true)
    {f13 : Addr} {od13 an13 : Option Addr} {sl13 : Array (Option Value)} {oc13 kV13 dc13 pm13 cd13 ct13 : Value}
    (a13 : PySem.W.nsIn K mainGlobals "matrix_of" = some (some (.ref f13))) (l13 : K.lookup f13 = some ⟨oc13, od13, .func (PySem.W.fnOf "matrix_of" "matrix_of" (defArgs s_matrix_of) (defBody s_matrix_of) (defScope s_matrix_of) .none kV13 dc13 pm13 an13 cd13 ct13), sl13⟩) (c13 : PySem.W.codeIn K cd13 "matrix_of" = true) (k13 : PySem.W.keepIn K (.ref f13) = true)
    {f14 : Addr} {od14 an14 : Option Addr} {sl14 : Array (Option Value)} {oc14 kV14 dc14 pm14 cd14 ct14 : Value}
    (a14 : PySem.W.nsIn K mainGlobals "unit" = some (some (.ref f14))) (l14 : K.lookup f14 = some ⟨oc14, od14, .func (PySem.W.fnOf "unit" "unit" (defArgs s_unit) (defBody s_unit) (defScope s_unit) .none kV14 dc14 pm14 an14 cd14 ct14), sl14⟩) (c14 : PySem.W.codeIn K cd14 "unit" = true) (k14 : PySem.W.keepIn K (.ref f14) = true)
    {f15 : Addr} {od15 an15 : Option Addr} {sl15 : Array (Option Value)} {oc15 kV15 dc15 pm15 cd15 ct15 : Value}
    (a15 : PySem.W.nsIn K mainGlobals "both" = some (some (.ref f15))) (l15 : K.lookup f15 = some ⟨oc15, od15, .func (PySem.W.fnOf "both" "both" (defArgs s_both) (defBody s_both) (defScope s_both) .none kV15 dc15 pm15 an15 cd15 ct15), sl15⟩) (c15 : PySem.W.codeIn K cd15 "both" = true) (k15 : PySem.W.keepIn K (.ref f15) = true)
    {f16 : Addr} {od16 an16 : Option Addr} {sl16 : Array (Option Value)} {oc16 kV16 dc16 pm16 cd16 ct16 : Value}
    (a16 : PySem.W.nsIn K mainGlobals "changed" = some (some (.ref f16))) (l16 : K.lookup f16 = some ⟨oc16, od16, .func (PySem.W.fnOf "changed" "changed" (defArgs s_changed) (defBody s_changed) (defScope s_changed) .none kV16 dc16 pm16 an16 cd16 ct16), sl16⟩) (c16 : PySem.W.codeIn K cd16 "changed" = true) (k16 : PySem.W.keepIn K (.ref f16) = true)
    {f17 : Addr} {od17 an17 : Option Addr} {sl17 : Array (Option Value)} {oc17 kV17 dc17 pm17 cd17 ct17 : Value}
    (a17 : PySem.W.nsIn K mainGlobals "mean_through" = some (some (.ref f17))) (l17 : K.lookup f17 = some ⟨oc17, od17, .func (PySem.W.fnOf "mean_through" "mean_through" (defArgs s_mean_through) (defBody s_mean_through) (defScope s_mean_through) .none kV17 dc17 pm17 an17 cd17 ct17), sl17⟩) (c17 : PySem.W.codeIn K cd17 "mean_through" = true) (k17 : PySem.W.keepIn K (.ref f17) = true)
    {f18 : Addr} {od18 an18 : Option Addr} {sl18 : Array (Option Value)} {oc18 kV18 dc18 pm18 cd18 ct18 : Value}
    (a18 : PySem.W.nsIn K mainGlobals "lowest" = some (some (.ref f18))) (l18 : K.lookup f18 = some ⟨oc18, od18, .func (PySem.W.fnOf "lowest" "lowest" (defArgs s_lowest) (defBody s_lowest) (defScope s_lowest) .none kV18 dc18 pm18 an18 cd18 ct18), sl18⟩) (c18 : PySem.W.codeIn K cd18 "lowest" = true) (k18 : PySem.W.keepIn K (.ref f18) = true)
    {f19 : Addr} {od19 an19 : Option Addr} {sl19 : Array (Option Value)} {oc19 kV19 dc19 pm19 cd19 ct19 : Value}
    (a19 : PySem.W.nsIn K mainGlobals "lengths_divisor" = some (some (.ref f19))) (l19 : K.lookup f19 = some ⟨oc19, od19, .func (PySem.W.fnOf "lengths_divisor" "lengths_divisor" (defArgs s_lengths_divisor) (defBody s_lengths_divisor) (defScope s_lengths_divisor) .none kV19 dc19 pm19 an19 cd19 ct19), sl19⟩) (c19 : PySem.W.codeIn K cd19 "lengths_divisor" = true) (k19 : PySem.W.keepIn K (.ref f19) = true)
    {f20 : Addr} {od20 an20 : Option Addr} {sl20 : Array (Option Value)} {oc20 kV20 dc20 pm20 cd20 ct20 : Value}
    (a20 : PySem.W.nsIn K mainGlobals "multiple" = some (some (.ref f20))) (l20 : K.lookup f20 = some ⟨oc20, od20, .func (PySem.W.fnOf "multiple" "multiple" (defArgs s_multiple) (defBody s_multiple) (defScope s_multiple) .none kV20 dc20 pm20 an20 cd20 ct20), sl20⟩) (c20 : PySem.W.codeIn K cd20 "multiple" = true) (k20 : PySem.W.keepIn K (.ref f20) = true)
    {f21 : Addr} {od21 an21 : Option Addr} {sl21 : Array (Option Value)} {oc21 kV21 dc21 pm21 cd21 ct21 : Value}
    (a21 : PySem.W.nsIn K mainGlobals "along" = some (some (.ref f21))) (l21 : K.lookup f21 = some ⟨oc21, od21, .func (PySem.W.fnOf "along" "along" (defArgs s_along) (defBody s_along) (defScope s_along) .none kV21 dc21 pm21 an21 cd21 ct21), sl21⟩) (c21 : PySem.W.codeIn K cd21 "along" = true) (k21 : PySem.W.keepIn K (.ref f21) = true)
    {f22 : Addr} {od22 an22 : Option Addr} {sl22 : Array (Option Value)} {oc22 kV22 dc22 pm22 cd22 ct22 : Value}
    (a22 : PySem.W.nsIn K mainGlobals "closed" = some (some (.ref f22))) (l22 : K.lookup f22 = some ⟨oc22, od22, .func (PySem.W.fnOf "closed" "closed" (defArgs s_closed) (defBody s_closed) (defScope s_closed) .none kV22 dc22 pm22 an22 cd22 ct22), sl22⟩) (c22 : PySem.W.codeIn K cd22 "closed" = true) (k22 : PySem.W.keepIn K (.ref f22) = true)
    {f23 : Addr} {od23 an23 : Option Addr} {sl23 : Array (Option Value)} {oc23 kV23 dc23 pm23 cd23 ct23 : Value}
    (a23 : PySem.W.nsIn K mainGlobals "is_tied" = some (some (.ref f23))) (l23 : K.lookup f23 = some ⟨oc23, od23, .func (PySem.W.fnOf "is_tied" "is_tied" (defArgs s_is_tied) (defBody s_is_tied) (defScope s_is_tied) .none kV23 dc23 pm23 an23 cd23 ct23), sl23⟩) (c23 : PySem.W.codeIn K cd23 "is_tied" = true) (k23 : PySem.W.keepIn K (.ref f23) = true)
    {f24 : Addr} {od24 an24 : Option Addr} {sl24 : Array (Option Value)} {oc24 kV24 dc24 pm24 cd24 ct24 : Value}
    (a24 : PySem.W.nsIn K mainGlobals "greatest_mean" = some (some (.ref f24))) (l24 : K.lookup f24 = some ⟨oc24, od24, .func (PySem.W.fnOf "greatest_mean" "greatest_mean" (defArgs s_greatest_mean) (defBody s_greatest_mean) (defScope s_greatest_mean) .none kV24 dc24 pm24 an24 cd24 ct24), sl24⟩) (c24 : PySem.W.codeIn K cd24 "greatest_mean" = true) (k24 : PySem.W.keepIn K (.ref f24) = true)
    {f25 : Addr} {od25 an25 : Option Addr} {sl25 : Array (Option Value)} {oc25 kV25 dc25 pm25 cd25 ct25 : Value}
    (a25 : PySem.W.nsIn K mainGlobals "things_on" = some (some (.ref f25))) (l25 : K.lookup f25 = some ⟨oc25, od25, .func (PySem.W.fnOf "things_on" "things_on" (defArgs s_things_on) (defBody s_things_on) (defScope s_things_on) .none kV25 dc25 pm25 an25 cd25 ct25), sl25⟩) (c25 : PySem.W.codeIn K cd25 "things_on" = true) (k25 : PySem.W.keepIn K (.ref f25) = true)
    {f26 : Addr} {od26 an26 : Option Addr} {sl26 : Array (Option Value)} {oc26 kV26 dc26 pm26 cd26 ct26 : Value}
    (a26 : PySem.W.nsIn K mainGlobals "brought" = some (some (.ref f26))) (l26 : K.lookup f26 = some ⟨oc26, od26, .func (PySem.W.fnOf "brought" "brought" (defArgs s_brought) (defBody s_brought) (defScope s_brought) .none kV26 dc26 pm26 an26 cd26 ct26), sl26⟩) (c26 : PySem.W.codeIn K cd26 "brought" = true) (k26 : PySem.W.keepIn K (.ref f26) = true)
    {f27 : Addr} {od27 an27 : Option Addr} {sl27 : Array (Option Value)} {oc27 kV27 dc27 pm27 cd27 ct27 : Value}
    (a27 : PySem.W.nsIn K mainGlobals "period_of" = some (some (.ref f27))) (l27 : K.lookup f27 = some ⟨oc27, od27, .func (PySem.W.fnOf "period_of" "period_of" (defArgs s_period_of) (defBody s_period_of) (defScope s_period_of) .none kV27 dc27 pm27 an27 cd27 ct27), sl27⟩) (c27 : PySem.W.codeIn K cd27 "period_of" = true) (k27 : PySem.W.keepIn K (.ref f27) = true)
    {f28 : Addr} {od28 an28 : Option Addr} {sl28 : Array (Option Value)} {oc28 kV28 dc28 pm28 cd28 ct28 : Value}
    (a28 : PySem.W.nsIn K mainGlobals "product" = some (some (.ref f28))) (l28 : K.lookup f28 = some ⟨oc28, od28, .func (PySem.W.fnOf "product" "product" (defArgs s_product) (defBody s_product) (defScope s_product) .none kV28 dc28 pm28 an28 cd28 ct28), sl28⟩) (c28 : PySem.W.codeIn K cd28 "product" = true) (k28 : PySem.W.keepIn K (.ref f28) = true)
    {f29 : Addr} {od29 an29 : Option Addr} {sl29 : Array (Option Value)} {oc29 kV29 dc29 pm29 cd29 ct29 : Value}
    (a29 : PySem.W.nsIn K mainGlobals "by_length" = some (some (.ref f29))) (l29 : K.lookup f29 = some ⟨oc29, od29, .func (PySem.W.fnOf "by_length" "by_length" (defArgs s_by_length) (defBody s_by_length) (defScope s_by_length) .none kV29 dc29 pm29 an29 cd29 ct29), sl29⟩) (c29 : PySem.W.codeIn K cd29 "by_length" = true) (k29 : PySem.W.keepIn K (.ref f29) = true)
    {f30 : Addr} {od30 an30 : Option Addr} {sl30 : Array (Option Value)} {oc30 kV30 dc30 pm30 cd30 ct30 : Value}
    (a30 : PySem.W.nsIn K mainGlobals "all_walks" = some (some (.ref f30))) (l30 : K.lookup f30 = some ⟨oc30, od30, .func (PySem.W.fnOf "all_walks" "all_walks" (defArgs s_all_walks) (defBody s_all_walks) (defScope s_all_walks) .none kV30 dc30 pm30 an30 cd30 ct30), sl30⟩) (c30 : PySem.W.codeIn K cd30 "all_walks" = true) (k30 : PySem.W.keepIn K (.ref f30) = true)
    {f31 : Addr} {od31 an31 : Option Addr} {sl31 : Array (Option Value)} {oc31 kV31 dc31 pm31 cd31 ct31 : Value}
    (a31 : PySem.W.nsIn K mainGlobals "steps_on" = some (some (.ref f31))) (l31 : K.lookup f31 = some ⟨oc31, od31, .func (PySem.W.fnOf "steps_on" "steps_on" (defArgs s_steps_on) (defBody s_steps_on) (defScope s_steps_on) .none kV31 dc31 pm31 an31 cd31 ct31), sl31⟩) (c31 : PySem.W.codeIn K cd31 "steps_on" = true) (k31 : PySem.W.keepIn K (.ref f31) = true)
    {f32 : Addr} {od32 an32 : Option Addr} {sl32 : Array (Option Value)} {oc32 kV32 dc32 pm32 cd32 ct32 : Value}
    (a32 : PySem.W.nsIn K mainGlobals "period" = some (some (.ref f32))) (l32 : K.lookup f32 = some ⟨oc32, od32, .func (PySem.W.fnOf "period" "period" (defArgs s_period) (defBody s_period) (defScope s_period) .none kV32 dc32 pm32 an32 cd32 ct32), sl32⟩) (c32 : PySem.W.codeIn K cd32 "period" = true) (k32 : PySem.W.keepIn K (.ref f32) = true)
    (z_min : PySem.W.nsIn K mainGlobals "min" = some none)
    (z_max : PySem.W.nsIn K mainGlobals "max" = some none)
    (z_range : PySem.W.nsIn K mainGlobals "range" = some none)
    (z_len : PySem.W.nsIn K mainGlobals "len" = some none)
    (z_zip : PySem.W.nsIn K mainGlobals "zip" = some none)
    (z_enumerate : PySem.W.nsIn K mainGlobals "enumerate" = some none)
    (z_abs : PySem.W.nsIn K mainGlobals "abs" = some none)
    : ∃ fd : FuncData, (∀ (s : Shared) (us : List Value), us.length = (["n", "a"] : List Str).length → BindsTo s fd ⟨us, []⟩ ((["n", "a"] : List Str).zip us)) ∧ ∀ base : Heap, K.In base → base.Ns mainGlobals mg → FnOk P w K mg base CX0 8 fa fd ["n", "a"] (sp_period K) := by
  have e := hfa.symm.trans (PySem.W.mg_of X G a32)
  cases e
  have m_min := PySem.W.mg_none_of X G z_min
  have m_max := PySem.W.mg_none_of X G z_max
  have m_range := PySem.W.mg_none_of X G z_range
  have m_len := PySem.W.mg_none_of X G z_len
  have m_zip := PySem.W.mg_none_of X G z_zip
  have m_enumerate := PySem.W.mg_none_of X G z_enumerate
  have m_abs := PySem.W.mg_none_of X G z_abs
  refine ⟨PySem.W.fnOf "period" "period" (defArgs s_period) (defBody s_period) (defScope s_period) .none kV32 dc32 pm32 an32 cd32 ct32, fun s us hu => match us, hu with | [_, _], _ => .of_eq rfl, fun base _ _ => ?_⟩
  have F1 := fun_mk (st := s_read) l1 c1 k1
  have c_read : Cal P w K mg base "read" 1 ["spelled"] sp_read := ⟨⟨f1, _, ok_read (P := P) (w := w) (mg := mg) (base := base) F1, PySem.W.mg_of X G a1, k1, F1.binds (ps := ["spelled"]) fun _ _ _ _ _ _ us hl => match us, hl with | [_], _ => rfl⟩⟩
  have F2 := fun_mk (st := s_plus) l2 c2 k2
  have c_plus : Cal P w K mg base "plus" 1 ["one", "other"] sp_plus := ⟨⟨f2, _, ok_plus (P := P) (w := w) (mg := mg) (base := base) F2, PySem.W.mg_of X G a2, k2, F2.binds (ps := ["one", "other"]) fun _ _ _ _ _ _ us hl => match us, hl with | [_, _], _ => rfl⟩⟩
  have F3 := fun_mk (st := s_greater) l3 c3 k3
  have c_greater : Cal P w K mg base "greater" 1 ["one", "other"] sp_greater := ⟨⟨f3, _, ok_greater (P := P) (w := w) (mg := mg) (base := base) F3, PySem.W.mg_of X G a3, k3, F3.binds (ps := ["one", "other"]) fun _ _ _ _ _ _ us hl => match us, hl with | [_, _], _ => rfl⟩⟩
  have F4 := fun_mk (st := s_common) l4 c4 k4
  have c_common : Cal P w K mg base "common" 1 ["one", "other"] sp_common := ⟨⟨f4, _, ok_common (P := P) (w := w) (mg := mg) (base := base) F4 m_min m_max, PySem.W.mg_of X G a4, k4, F4.binds (ps := ["one", "other"]) fun _ _ _ _ _ _ us hl => match us, hl with | [_, _], _ => rfl⟩⟩
  have F5 := fun_mk (st := s_column) l5 c5 k5
  have c_column : Cal P w K mg base "column" 1 ["matrix", "j"] sp_column := ⟨⟨f5, _, ok_column (P := P) (w := w) (mg := mg) (base := base) F5, PySem.W.mg_of X G a5, k5, F5.binds (ps := ["matrix", "j"]) fun _ _ _ _ _ _ us hl => match us, hl with | [_, _], _ => rfl⟩⟩
  have F6 := fun_mk (st := s_unit_row) l6 c6 k6
  have c_unit_row : Cal P w K mg base "unit_row" 1 ["n", "i"] sp_unit_row := ⟨⟨f6, _, ok_unit_row (P := P) (w := w) (mg := mg) (base := base) F6 m_range, PySem.W.mg_of X G a6, k6, F6.binds (ps := ["n", "i"]) fun _ _ _ _ _ _ us hl => match us, hl with | [_, _], _ => rfl⟩⟩
  have F7 := fun_mk (st := s_changed_number) l7 c7 k7
  have c_changed_number : Cal P w K mg base "changed_number" 1 ["number", "times", "less"] sp_changed_number := ⟨⟨f7, _, ok_changed_number (P := P) (w := w) (mg := mg) (base := base) F7, PySem.W.mg_of X G a7, k7, F7.binds (ps := ["number", "times", "less"]) fun _ _ _ _ _ _ us hl => match us, hl with | [_, _, _], _ => rfl⟩⟩
  have F8 := fun_mk (st := s_is_greater) l8 c8 k8
  have c_is_greater : Cal P w K mg base "is_greater" 1 ["one", "other"] sp_is_greater := ⟨⟨f8, _, ok_is_greater (P := P) (w := w) (mg := mg) (base := base) F8, PySem.W.mg_of X G a8, k8, F8.binds (ps := ["one", "other"]) fun _ _ _ _ _ _ us hl => match us, hl with | [_, _], _ => rfl⟩⟩
  have F9 := fun_mk (st := s_is_equal) l9 c9 k9
  have c_is_equal : Cal P w K mg base "is_equal" 1 ["one", "other"] sp_is_equal := ⟨⟨f9, _, ok_is_equal (P := P) (w := w) (mg := mg) (base := base) F9, PySem.W.mg_of X G a9, k9, F9.binds (ps := ["one", "other"]) fun _ _ _ _ _ _ us hl => match us, hl with | [_, _], _ => rfl⟩⟩
  have F10 := fun_mk (st := s_is_on) l10 c10 k10
  have c_is_on : Cal P w K mg base "is_on" 1 ["step", "back"] sp_is_on := ⟨⟨f10, _, ok_is_on (P := P) (w := w) (mg := mg) (base := base) F10, PySem.W.mg_of X G a10, k10, F10.binds (ps := ["step", "back"]) fun _ _ _ _ _ _ us hl => match us, hl with | [_, _], _ => rfl⟩⟩
  have F11 := fun_mk (st := s_onward) l11 c11 k11
  have c_onward : Cal P w K mg base "onward" 1 ["steps", "marked"] sp_onward := ⟨⟨f11, _, ok_onward (P := P) (w := w) (mg := mg) (base := base) F11 m_range m_len, PySem.W.mg_of X G a11, k11, F11.binds (ps := ["steps", "marked"]) fun _ _ _ _ _ _ us hl => match us, hl with | [_, _], _ => rfl⟩⟩
  have F12 := fun_mk (st := s_greatest) l12 c12 k12
  have c_greatest : Cal P w K mg base "greatest" 2 ["numbers"] sp_greatest := ⟨⟨f12, _, ok_greatest (P := P) (w := w) (mg := mg) (base := base) F12 c_greater, PySem.W.mg_of X G a12, k12, F12.binds (ps := ["numbers"]) fun _ _ _ _ _ _ us hl => match us, hl with | [_], _ => rfl⟩⟩
  have F13 := fun_mk (st := s_matrix_of) l13 c13 k13
  have c_matrix_of : Cal P w K mg base "matrix_of" 2 ["n", "spelled"] (sp_matrix_of K) := ⟨⟨f13, _, ok_matrix_of (P := P) (w := w) (mg := mg) (base := base) F13 c_read m_range, PySem.W.mg_of X G a13, k13, F13.binds (ps := ["n", "spelled"]) fun _ _ _ _ _ _ us hl => match us, hl with | [_, _], _ => rfl⟩⟩
  have F14 := fun_mk (st := s_unit) l14 c14 k14
  have c_unit : Cal P w K mg base "unit" 2 ["n"] sp_unit := ⟨⟨f14, _, ok_unit (P := P) (w := w) (mg := mg) (base := base) F14 c_unit_row m_range, PySem.W.mg_of X G a14, k14, F14.binds (ps := ["n"]) fun _ _ _ _ _ _ us hl => match us, hl with | [_], _ => rfl⟩⟩
  have F15 := fun_mk (st := s_both) l15 c15 k15
  have c_both : Cal P w K mg base "both" 2 ["one", "other"] sp_both := ⟨⟨f15, _, ok_both (P := P) (w := w) (mg := mg) (base := base) F15 c_greater m_zip, PySem.W.mg_of X G a15, k15, F15.binds (ps := ["one", "other"]) fun _ _ _ _ _ _ us hl => match us, hl with | [_, _], _ => rfl⟩⟩
  have F16 := fun_mk (st := s_changed) l16 c16 k16
  have c_changed : Cal P w K mg base "changed" 2 ["matrix", "times", "less"] sp_changed := ⟨⟨f16, _, ok_changed (P := P) (w := w) (mg := mg) (base := base) F16 c_changed_number, PySem.W.mg_of X G a16, k16, F16.binds (ps := ["matrix", "times", "less"]) fun _ _ _ _ _ _ us hl => match us, hl with | [_, _, _], _ => rfl⟩⟩
  have F17 := fun_mk (st := s_mean_through) l17 c17 k17
  have c_mean_through : Cal P w K mg base "mean_through" 2 ["levels", "i"] sp_mean_through := ⟨⟨f17, _, ok_mean_through (P := P) (w := w) (mg := mg) (base := base) F17 c_is_greater m_enumerate, PySem.W.mg_of X G a17, k17, F17.binds (ps := ["levels", "i"]) fun _ _ _ _ _ _ us hl => match us, hl with | [_, _], _ => rfl⟩⟩
  have F18 := fun_mk (st := s_lowest) l18 c18 k18
  have c_lowest : Cal P w K mg base "lowest" 2 ["mean"] sp_lowest := ⟨⟨f18, _, ok_lowest (P := P) (w := w) (mg := mg) (base := base) F18 c_common m_abs, PySem.W.mg_of X G a18, k18, F18.binds (ps := ["mean"]) fun _ _ _ _ _ _ us hl => match us, hl with | [_], _ => rfl⟩⟩
  have F19 := fun_mk (st := s_lengths_divisor) l19 c19 k19
  have c_lengths_divisor : Cal P w K mg base "lengths_divisor" 2 ["steps", "i"] sp_lengths_divisor := ⟨⟨f19, _, ok_lengths_divisor (P := P) (w := w) (mg := mg) (base := base) F19 c_common c_onward m_range m_len, PySem.W.mg_of X G a19, k19, F19.binds (ps := ["steps", "i"]) fun _ _ _ _ _ _ us hl => match us, hl with | [_, _], _ => rfl⟩⟩
  have F20 := fun_mk (st := s_multiple) l20 c20 k20
  have c_multiple : Cal P w K mg base "multiple" 2 ["one", "other"] sp_multiple := ⟨⟨f20, _, ok_multiple (P := P) (w := w) (mg := mg) (base := base) F20 c_common, PySem.W.mg_of X G a20, k20, F20.binds (ps := ["one", "other"]) fun _ _ _ _ _ _ us hl => match us, hl with | [_, _], _ => rfl⟩⟩
  have F21 := fun_mk (st := s_along) l21 c21 k21
  have c_along : Cal P w K mg base "along" 3 ["row", "numbers"] sp_along := ⟨⟨f21, _, ok_along (P := P) (w := w) (mg := mg) (base := base) F21 c_greatest c_plus m_zip, PySem.W.mg_of X G a21, k21, F21.binds (ps := ["row", "numbers"]) fun _ _ _ _ _ _ us hl => match us, hl with | [_, _], _ => rfl⟩⟩
  have F22 := fun_mk (st := s_closed) l22 c22 k22
  have c_closed : Cal P w K mg base "closed" 3 ["matrix", "levels"] sp_closed := ⟨⟨f22, _, ok_closed (P := P) (w := w) (mg := mg) (base := base) F22 c_both c_unit m_len, PySem.W.mg_of X G a22, k22, F22.binds (ps := ["matrix", "levels"]) fun _ _ _ _ _ _ us hl => match us, hl with | [_, _], _ => rfl⟩⟩
  have F23 := fun_mk (st := s_is_tied) l23 c23 k23
  have c_is_tied : Cal P w K mg base "is_tied" 3 ["levels"] sp_is_tied := ⟨⟨f23, _, ok_is_tied (P := P) (w := w) (mg := mg) (base := base) F23 c_both, PySem.W.mg_of X G a23, k23, F23.binds (ps := ["levels"]) fun _ _ _ _ _ _ us hl => match us, hl with | [_], _ => rfl⟩⟩
  have F24 := fun_mk (st := s_greatest_mean) l24 c24 k24
  have c_greatest_mean : Cal P w K mg base "greatest_mean" 3 ["levels"] sp_greatest_mean := ⟨⟨f24, _, ok_greatest_mean (P := P) (w := w) (mg := mg) (base := base) F24 c_lowest c_is_greater c_mean_through m_range m_len, PySem.W.mg_of X G a24, k24, F24.binds (ps := ["levels"]) fun _ _ _ _ _ _ us hl => match us, hl with | [_], _ => rfl⟩⟩
  have F25 := fun_mk (st := s_things_on) l25 c25 k25
  have c_things_on : Cal P w K mg base "things_on" 3 ["levels", "mean"] sp_things_on := ⟨⟨f25, _, ok_things_on (P := P) (w := w) (mg := mg) (base := base) F25 c_is_equal c_mean_through m_range m_len, PySem.W.mg_of X G a25, k25, F25.binds (ps := ["levels", "mean"]) fun _ _ _ _ _ _ us hl => match us, hl with | [_, _], _ => rfl⟩⟩
  have F26 := fun_mk (st := s_brought) l26 c26 k26
  have c_brought : Cal P w K mg base "brought" 3 ["matrix", "mean"] sp_brought := ⟨⟨f26, _, ok_brought (P := P) (w := w) (mg := mg) (base := base) F26 c_changed, PySem.W.mg_of X G a26, k26, F26.binds (ps := ["matrix", "mean"]) fun _ _ _ _ _ _ us hl => match us, hl with | [_, _], _ => rfl⟩⟩
  have F27 := fun_mk (st := s_period_of) l27 c27 k27
  have c_period_of : Cal P w K mg base "period_of" 3 ["steps", "things"] sp_period_of := ⟨⟨f27, _, ok_period_of (P := P) (w := w) (mg := mg) (base := base) F27 c_multiple c_lengths_divisor, PySem.W.mg_of X G a27, k27, F27.binds (ps := ["steps", "things"]) fun _ _ _ _ _ _ us hl => match us, hl with | [_, _], _ => rfl⟩⟩
  have F28 := fun_mk (st := s_product) l28 c28 k28
  have c_product : Cal P w K mg base "product" 4 ["one", "other"] sp_product := ⟨⟨f28, _, ok_product (P := P) (w := w) (mg := mg) (base := base) F28 c_along c_column m_range m_len, PySem.W.mg_of X G a28, k28, F28.binds (ps := ["one", "other"]) fun _ _ _ _ _ _ us hl => match us, hl with | [_, _], _ => rfl⟩⟩
  have F29 := fun_mk (st := s_by_length) l29 c29 k29
  have c_by_length : Cal P w K mg base "by_length" 5 ["matrix"] sp_by_length := ⟨⟨f29, _, ok_by_length (P := P) (w := w) (mg := mg) (base := base) F29 c_product m_range m_len, PySem.W.mg_of X G a29, k29, F29.binds (ps := ["matrix"]) fun _ _ _ _ _ _ us hl => match us, hl with | [_], _ => rfl⟩⟩
  have F30 := fun_mk (st := s_all_walks) l30 c30 k30
  have c_all_walks : Cal P w K mg base "all_walks" 6 ["matrix"] sp_all_walks := ⟨⟨f30, _, ok_all_walks (P := P) (w := w) (mg := mg) (base := base) F30 c_closed c_by_length, PySem.W.mg_of X G a30, k30, F30.binds (ps := ["matrix"]) fun _ _ _ _ _ _ us hl => match us, hl with | [_], _ => rfl⟩⟩
  have F31 := fun_mk (st := s_steps_on) l31 c31 k31
  have c_steps_on : Cal P w K mg base "steps_on" 7 ["matrix", "mean"] sp_steps_on := ⟨⟨f31, _, ok_steps_on (P := P) (w := w) (mg := mg) (base := base) F31 c_is_on c_all_walks c_brought m_range m_len, PySem.W.mg_of X G a31, k31, F31.binds (ps := ["matrix", "mean"]) fun _ _ _ _ _ _ us hl => match us, hl with | [_, _], _ => rfl⟩⟩
  have F32 := fun_mk (st := s_period) l32 c32 k32
  exact ok_period (P := P) (w := w) (mg := mg) (base := base) F32 c_period_of c_things_on c_steps_on c_greatest_mean c_is_tied c_by_length c_matrix_of
end Ws
open PySem PySem.W PyProof.Rows
set_option maxRecDepth 100000 in
set_option maxHeartbeats 8000000 in
theorem PySem.Challenge.cw_waitsums_s06_period_holds : PySem.Challenge.rw_waitsums_s06_period.Holds := by
  w_on; k_headS; (case hw => exact ⟨[.int 1, .list [.int 1]], by decide +kernel, by decide +kernel⟩)
  k_fillS
  refine L2.walk_specK (r := PySem.Challenge.rw_waitsums_s06_period) (k := 8) (CX := L2.CX0) (ps := ["n", "a"]) (sp := Ws.sp_period) (by decide +kernel) rfl rfl ⟨rfl, by decide, by decide⟩ (fun w h Y => PySem.W.kIn_of Y) ?F ?S (fun _ _ _ _ z => z)
  case F =>
    intro w mg fa h Y KX G hmg
    refine' Ws.all_mk KX G hmg ?a1 ?l1 ?c1 ?k1 ?a2 ?l2 ?c2 ?k2 ?a3 ?l3 ?c3 ?k3 ?a4 ?l4 ?c4 ?k4 ?a5 ?l5 ?c5 ?k5 ?a6 ?l6 ?c6 ?k6 ?a7 ?l7 ?c7 ?k7 ?a8 ?l8 ?c8 ?k8 ?a9 ?l9 ?c9 ?k9 ?a10 ?l10 ?c10 ?k10 ?a11 ?l11 ?c11 ?k11 ?a12 ?l12 ?c12 ?k12 ?a13 ?l13 ?c13 ?k13 ?a14 ?l14 ?c14 ?k14 ?a15 ?l15 ?c15 ?k15 ?a16 ?l16 ?c16 ?k16 ?a17 ?l17 ?c17 ?k17 ?a18 ?l18 ?c18 ?k18 ?a19 ?l19 ?c19 ?k19 ?a20 ?l20 ?c20 ?k20 ?a21 ?l21 ?c21 ?k21 ?a22 ?l22 ?c22 ?k22 ?a23 ?l23 ?c23 ?k23 ?a24 ?l24 ?c24 ?k24 ?a25 ?l25 ?c25 ?k25 ?a26 ?l26 ?c26 ?k26 ?a27 ?l27 ?c27 ?k27 ?a28 ?l28 ?c28 ?k28 ?a29 ?l29 ?c29 ?k29 ?a30 ?l30 ?c30 ?k30 ?a31 ?l31 ?c31 ?k31 ?a32 ?l32 ?c32 ?k32 ?z_min ?z_max ?z_range ?z_len ?z_zip ?z_enumerate ?z_abs
    (case a1 => k_is)
    (case l1 => k_is)
    (case c1 => k_is)
    (case k1 => k_is)
    (case a2 => k_is)
    (case l2 => k_is)
    (case c2 => k_is)
    (case k2 => k_is)
    (case a3 => k_is)
    (case l3 => k_is)
    (case c3 => k_is)
    (case k3 => k_is)
    (case a4 => k_is)
    (case l4 => k_is)
    (case c4 => k_is)
    (case k4 => k_is)
    (case a5 => k_is)
    (case l5 => k_is)
    (case c5 => k_is)
    (case k5 => k_is)
    (case a6 => k_is)
    (case l6 => k_is)
    (case c6 => k_is)
    (case k6 => k_is)
    (case a7 => k_is)
    (case l7 => k_is)
    (case c7 => k_is)
    (case k7 => k_is)
    (case a8 => k_is)
    (case l8 => k_is)
    (case c8 => k_is)
    (case k8 => k_is)
    (case a9 => k_is)
    (case l9 => k_is)
    (case c9 => k_is)
    (case k9 => k_is)
    (case a10 => k_is)
    (case l10 => k_is)
    (case c10 => k_is)
    (case k10 => k_is)
    (case a11 => k_is)
    (case l11 => k_is)
    (case c11 => k_is)
    (case k11 => k_is)
    (case a12 => k_is)
    (case l12 => k_is)
    (case c12 => k_is)
    (case k12 => k_is)
    (case a13 => k_is)
    (case l13 => k_is)
    (case c13 => k_is)
    (case k13 => k_is)
    (case a14 => k_is)
    (case l14 => k_is)
    (case c14 => k_is)
    (case k14 => k_is)
    (case a15 => k_is)
    (case l15 => k_is)
    (case c15 => k_is)
    (case k15 => k_is)
    (case a16 => k_is)
    (case l16 => k_is)
    (case c16 => k_is)
    (case k16 => k_is)
    (case a17 => k_is)
    (case l17 => k_is)
    (case c17 => k_is)
    (case k17 => k_is)
    (case a18 => k_is)
    (case l18 => k_is)
    (case c18 => k_is)
    (case k18 => k_is)
    (case a19 => k_is)
    (case l19 => k_is)
    (case c19 => k_is)
    (case k19 => k_is)
    (case a20 => k_is)
    (case l20 => k_is)
    (case c20 => k_is)
    (case k20 => k_is)
    (case a21 => k_is)
    (case l21 => k_is)
    (case c21 => k_is)
    (case k21 => k_is)
    (case a22 => k_is)
    (case l22 => k_is)
    (case c22 => k_is)
    (case k22 => k_is)
    (case a23 => k_is)
    (case l23 => k_is)
    (case c23 => k_is)
    (case k23 => k_is)
    (case a24 => k_is)
    (case l24 => k_is)
    (case c24 => k_is)
    (case k24 => k_is)
    (case a25 => k_is)
    (case l25 => k_is)
    (case c25 => k_is)
    (case k25 => k_is)
    (case a26 => k_is)
    (case l26 => k_is)
    (case c26 => k_is)
    (case k26 => k_is)
    (case a27 => k_is)
    (case l27 => k_is)
    (case c27 => k_is)
    (case k27 => k_is)
    (case a28 => k_is)
    (case l28 => k_is)
    (case c28 => k_is)
    (case k28 => k_is)
    (case a29 => k_is)
    (case l29 => k_is)
    (case c29 => k_is)
    (case k29 => k_is)
    (case a30 => k_is)
    (case l30 => k_is)
    (case c30 => k_is)
    (case k30 => k_is)
    (case a31 => k_is)
    (case l31 => k_is)
    (case c31 => k_is)
    (case k31 => k_is)
    (case a32 => k_is)
    (case l32 => k_is)
    (case c32 => k_is)
    (case k32 => k_is)
    (case z_min => k_is)
    (case z_max => k_is)
    (case z_range => k_is)
    (case z_len => k_is)
    (case z_zip => k_is)
    (case z_enumerate => k_is)
    (case z_abs => k_is)
  case S =>
    intro K H xs a hO hwi hask hx
    obtain ⟨n, l1, u⟩ := a
    cases hx with
    | cons h1 hx =>
      cases hx with
      | cons h3 hx =>
        cases hx
        cases h1
        cases h3 with
        | lst s2 d2 =>
          have e2 := L2.ints_dw l1 _ d2
          subst e2
          have hk : PyRb23.period_asked n l1 = true := hask
          have hk2 := Ws.asked_one hk
          have hk3 : (Rb23Neutral.size n && Rb23Neutral.row l1 (Rb23Neutral.square n) Rb23Neutral.MOST) = true := hk2
          rw [Bool.and_eq_true] at hk3
          have k1 := Ws.within_iff hk3.1
          have k2 := Ws.row_asked hk3.2
          refine ⟨_, n, _, l1, H, rfl, fun _ _ h => h, rfl, ⟨_, rfl, s2⟩, ⟨k1.1, k1.2, k2.1, k2.2⟩, ?_⟩
          have ef : PyRb23.period n l1 = [((Ws.perAns n.toNat (Rb23Neutral.mat n l1) : Nat) : Int)] := by
            have qa := Ws.mat_sq k1.1 k2.1
            have hn1 : 1 ≤ n.toNat := by omega
            show [((Rb23.period n.toNat (Rb23Neutral.mat n l1) : Nat) : Int)] = _
            unfold Ws.perAns
            cases h : WsM.tiedB (WsM.levels n.toNat (Rb23Neutral.mat n l1)) with
            | false =>
              rw [WsM.period_none qa hn1 h]
              rfl
            | true =>
              rw [if_pos rfl]
              obtain ⟨m, hm⟩ := WsM.tied_mean qa hn1 ((WsM.tied_iff qa hn1).mp h)
              rw [hm, (WsM.period_eq qa hn1 h hm).1]
          show Ws.Gives H H (Ws.rL Ws.rInt) _ fun v H' => L2.Dw K H' v (.list ((PyRb23.period n l1).map WData.int))
          rw [ef]
          exact Ws.gives_ints
#print axioms PySem.Challenge.cw_waitsums_s06_period_holds
