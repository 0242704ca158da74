/- Two segments, plainly: what Relate tells, and the geometry behind it. -/
import Derived.Test.YtggafoldccikdaaSg
namespace Go.Proofs.Ytggafoldccikdaa.Sg
open Go.RowKit Go.Proofs.Ytggafoldccikdaa.PAll Go.Proofs.YtggafoldccikdaaW.PrintWords Go.Proofs.YtggafoldccikdaaW.PrintLast Go.Proofs.YtggafoldccikdaaW.PrintMore Go.Proofs.Ytggafoldccikdaa.Bas
set_option linter.unusedVariables false
set_option linter.unusedSimpArgs false

section
variable (a b c d p q : S30)
def vd : Prop := Vd a.f0 a.f1
def crS : Int := cr a.f0 a.f1 b.f0 b.f1 c.f0 c.f1
def on (p a b : S30) : Prop := On p.f0 p.f1 a.f0 a.f1 b.f0 b.f1
def ltS : Prop := lt2 a.f0 a.f1 b.f0 b.f1
def Both : Prop := on p a b ∧ on p c d
def End : Prop := p = a ∨ p = b ∨ p = c ∨ p = d
def Two : Prop := ∃ p q, End a b c d p ∧ End a b c d q ∧ p ≠ q ∧ Both a b c d p ∧ Both a b c d q
def One : Prop := ∃ p, End a b c d p ∧ Both a b c d p
end
instance (a : S30) : Decidable (vd a) := by unfold vd; infer_instance
instance (p a b : S30) : Decidable (on p a b) := by unfold on; infer_instance
instance (a b : S30) : Decidable (ltS a b) := by unfold ltS; infer_instance
instance (a b : S30) : Decidable (a = b) := decidable_of_iff (a.f0 = b.f0 ∧ a.f1 = b.f1) (by cases a; cases b; simp)
def opp (x y : Int) : Prop := x < 0 ∧ 0 < y ∨ 0 < x ∧ y < 0
section
variable {a b c d p q : S30}
def Cross (a b c d : S30) : Prop := opp (crS a b c) (crS a b d) ∧ opp (crS c d a) (crS c d b)
def Okk (a b c d : S30) : Prop := vd a ∧ vd b ∧ vd c ∧ vd d ∧ a ≠ b ∧ c ≠ d
open Classical in
noncomputable def cls (a b c d : S30) : Int := if Two a b c d then 3 else if One a b c d then 1 else 0
open Classical in
noncomputable def rel (a b c d : S30) : Int := if Okk a b c d then (if Cross a b c d then 2 else cls a b c d) else 0

theorem S_ne : a ≠ b ↔ ¬ (a.f0 = b.f0 ∧ a.f1 = b.f1) := by
  cases a
  cases b
  simp
theorem cr_swap : crS b a c = -crS a b c := by
  unfold crS cr
  grind
theorem on_swap : on p b a ↔ on p a b := by
  unfold on On V3
  have := cr_swap (a := a) (b := b) (c := p)
  unfold crS at this
  rw [this, Int.min_comm b.f0, Int.min_comm b.f1, Int.max_comm b.f0, Int.max_comm b.f1]
  constructor
  · rintro ⟨⟨h1, h2, h3⟩, h4, h5⟩
    exact ⟨⟨h1, h3, h2⟩, by omega, h5⟩
  · rintro ⟨⟨h1, h2, h3⟩, h4, h5⟩
    exact ⟨⟨h1, h3, h2⟩, by omega, h5⟩
theorem opp_comm {x y : Int} : opp x y ↔ opp y x := by
  unfold opp
  omega
theorem opp_neg {x y : Int} : opp (-x) (-y) ↔ opp x y := by
  unfold opp
  omega
theorem Cross_swap : Cross b a c d ↔ Cross a b c d := by
  unfold Cross
  rw [cr_swap (a := a) (b := b) (c := c), cr_swap (a := a) (b := b) (c := d), opp_neg, opp_comm (x := crS c d b)]
theorem Cross_turn : Cross c d a b ↔ Cross a b c d := And.comm
theorem Two_same {a' b' c' d' : S30} (he : ∀ p, End a b c d p ↔ End a' b' c' d' p) (hb : ∀ p, Both a b c d p ↔ Both a' b' c' d' p) : cls a b c d = cls a' b' c' d' := by
  have h1 : Two a b c d ↔ Two a' b' c' d' := by
    unfold Two
    simp only [he, hb]
  have h2 : One a b c d ↔ One a' b' c' d' := by
    unfold One
    simp only [he, hb]
  unfold cls
  rw [propext h1, propext h2]
theorem cls_swap : cls b a c d = cls a b c d := by
  refine Two_same (fun p => ?_) (fun p => ?_)
  · unfold End
    constructor <;> (rintro (h | h | h | h) <;> simp [h])
  · unfold Both
    rw [on_swap]
theorem cls_turn : cls c d a b = cls a b c d := by
  refine Two_same (fun p => ?_) (fun p => ?_)
  · unfold End
    constructor <;> (rintro (h | h | h | h) <;> simp [h])
  · exact And.comm
theorem Okk_swap : Okk b a c d ↔ Okk a b c d := by
  unfold Okk
  constructor <;> (rintro ⟨h1, h2, h3, h4, h5, h6⟩; exact ⟨h2, h1, h3, h4, fun e => h5 e.symm, h6⟩)
theorem Okk_turn : Okk c d a b ↔ Okk a b c d := by
  unfold Okk
  constructor <;> (rintro ⟨h1, h2, h3, h4, h5, h6⟩; exact ⟨h3, h4, h1, h2, h6, h5⟩)
theorem rel_swap : rel b a c d = rel a b c d := by
  unfold rel
  rw [propext Okk_swap, propext Cross_swap, cls_swap]
theorem rel_turn : rel c d a b = rel a b c d := by
  unfold rel
  rw [propext (Okk_turn (a := a) (b := b)), propext (Cross_turn (a := a) (b := b)), cls_turn (a := a) (b := b)]
theorem rel_swap2 : rel a b d c = rel a b c d := by
  rw [← rel_turn, rel_swap, rel_turn]

theorem par {x y s t u v : Int} (h0 : ¬ (x = 0 ∧ y = 0)) (h1 : x * t = y * s) (h2 : x * v = y * u) : s * v = t * u := by
  have e1 : x * (s * v - t * u) = 0 := by
    have : x * (s * v - t * u) = s * (x * v) - u * (x * t) := by grind
    rw [this, h1, h2]
    grind
  have e2 : y * (s * v - t * u) = 0 := by
    have : y * (s * v - t * u) = v * (y * s) - t * (y * u) := by grind
    rw [this, ← h1, ← h2]
    grind
  rcases Int.mul_eq_zero.1 e1 with e | e
  · rcases Int.mul_eq_zero.1 e2 with f | f
    · exact absurd ⟨e, f⟩ h0
    · omega
  · omega
theorem cr_zero : crS a b c = 0 ↔ (b.f0 - a.f0) * (c.f1 - a.f1) = (b.f1 - a.f1) * (c.f0 - a.f0) := by
  unfold crS cr
  omega
theorem ne_sub (h : a ≠ b) : ¬ (b.f0 - a.f0 = 0 ∧ b.f1 - a.f1 = 0) := by
  rw [S_ne] at h
  omega
/-- Two points of both lines make them one line. -/
theorem lines (hab : a ≠ b) (hcd : c ≠ d) (hpq : p ≠ q) (h1 : crS a b p = 0) (h2 : crS a b q = 0) (h3 : crS c d p = 0) (h4 : crS c d q = 0) : crS a b c = 0 ∧ crS a b d = 0 := by
  rw [cr_zero] at h1 h2 h3 h4
  have n1 := ne_sub hab
  have n2 := ne_sub hcd
  have n3 := ne_sub hpq
  rw [cr_zero, cr_zero]
  -- along the two lines, from p to q
  have k1 : (b.f0 - a.f0) * (q.f1 - p.f1) = (b.f1 - a.f1) * (q.f0 - p.f0) := by grind
  have k2 : (d.f0 - c.f0) * (q.f1 - p.f1) = (d.f1 - c.f1) * (q.f0 - p.f0) := by grind
  have k3 : (q.f0 - p.f0) * (p.f1 - c.f1) = (q.f1 - p.f1) * (p.f0 - c.f0) := par n2 k2 h3
  have k4 : (b.f0 - a.f0) * (p.f1 - c.f1) = (b.f1 - a.f1) * (p.f0 - c.f0) := par n3 (by grind) k3
  have k5 : (b.f0 - a.f0) * (d.f1 - c.f1) = (b.f1 - a.f1) * (d.f0 - c.f0) := par n3 (by grind) (by grind)
  constructor <;> grind
/-- One line, seen from the other segment. -/
theorem line_back (hab : a ≠ b) (h1 : crS a b c = 0) (h2 : crS a b d = 0) : crS c d a = 0 ∧ crS c d b = 0 := by
  rw [cr_zero] at h1 h2
  have n1 := ne_sub hab
  have k1 := par n1 h1 h2
  have k2 : (c.f0 - b.f0) * (d.f1 - b.f1) = (c.f1 - b.f1) * (d.f0 - b.f0) := par n1 (by grind) (by grind)
  rw [cr_zero, cr_zero]
  constructor <;> grind
theorem cr_self : crS a b a = 0 ∧ crS a b b = 0 := by
  unfold crS cr
  constructor <;> grind
theorem mul_sgn {x y : Int} (hx : 0 < x) : (0 ≤ x * y → 0 ≤ y) ∧ (x * y ≤ 0 → y ≤ 0) := by
  constructor
  · intro h
    by_cases c : 0 ≤ y
    · exact c
    · have := Int.mul_pos hx (show 0 < -y by omega)
      rw [Int.mul_neg] at this
      omega
  · intro h
    by_cases c : y ≤ 0
    · exact c
    · have := Int.mul_pos hx (show 0 < y by omega)
      omega
/-- On a line, a point is on a segment exactly if it is between the ends in the points' order. -/
theorem on_line (ha : vd a) (hb : vd b) (hp : vd p) (hab : ltS a b) (hz : crS a b p = 0) : on p a b ↔ ¬ ltS p a ∧ ¬ ltS b p := by
  have hv : V3 p.f0 p.f1 a.f0 a.f1 b.f0 b.f1 := ⟨hp, ha, hb⟩
  have hz' := cr_zero.1 hz
  unfold on On
  unfold crS at hz
  simp only [hv, hz, true_and]
  unfold ltS lt2 at *
  rcases hab with h | ⟨h, h'⟩
  · rw [Int.min_eq_left (by omega), Int.max_eq_right (by omega)]
    have pos : 0 < b.f0 - a.f0 := by omega
    have e2 : (b.f0 - a.f0) * (b.f1 - p.f1) = (b.f1 - a.f1) * (b.f0 - p.f0) := by grind
    have s1 := mul_sgn (y := p.f1 - a.f1) pos
    have s2 := mul_sgn (y := b.f1 - p.f1) pos
    rw [hz'] at s1
    rw [e2] at s2
    constructor
    · rintro ⟨h1, h2, h3, h4⟩
      constructor
      · rintro (g | ⟨g, g'⟩)
        · omega
        · have z : (b.f1 - a.f1) * (p.f0 - a.f0) = 0 := by rw [g]; simp
          omega
      · rintro (g | ⟨g, g'⟩)
        · omega
        · have z : (b.f1 - a.f1) * (b.f0 - p.f0) = 0 := by rw [g]; simp
          omega
    · rintro ⟨h1, h2⟩
      have x1 : a.f0 ≤ p.f0 := by omega
      have x2 : p.f0 ≤ b.f0 := by omega
      refine ⟨x1, x2, ?_⟩
      rcases Int.le_total 0 (b.f1 - a.f1) with g | g
      · have m1 := Int.mul_nonneg g (show 0 ≤ p.f0 - a.f0 by omega)
        have m2 := Int.mul_nonneg g (show 0 ≤ b.f0 - p.f0 by omega)
        have := s1.1 m1
        have := s2.1 m2
        omega
      · have m1 := Int.mul_nonneg (show 0 ≤ -(b.f1 - a.f1) by omega) (show 0 ≤ p.f0 - a.f0 by omega)
        have m2 := Int.mul_nonneg (show 0 ≤ -(b.f1 - a.f1) by omega) (show 0 ≤ b.f0 - p.f0 by omega)
        rw [Int.neg_mul] at m1 m2
        have := s1.2 (by omega)
        have := s2.2 (by omega)
        omega
  · have z : (b.f1 - a.f1) * (p.f0 - a.f0) = 0 := by rw [← hz', h]; simp
    rcases Int.mul_eq_zero.1 z with g | g
    · omega
    · omega
end
end Go.Proofs.Ytggafoldccikdaa.Sg
