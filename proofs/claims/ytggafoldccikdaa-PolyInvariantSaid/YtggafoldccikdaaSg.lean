/- Segments: valid, Turn, Of, On, and the reference's, each as one plain function. -/
import Derived.Test.YtggafoldccikdaaBas
import Derived.Test.YtggafoldccikdaaPAllx1
import Derived.Test.YtggafoldccikdaaPAllx12
namespace Go.Proofs.Ytggafoldccikdaa.Sg
open Go.RowKit Go.Proofs.Ytggafoldccikdaa.PAll Go.Proofs.YtggafoldccikdaaW.PrintWords Go.Proofs.YtggafoldccikdaaW.PrintLast Go.Proofs.YtggafoldccikdaaW.PrintMore Go.Proofs.Ytggafoldccikdaa.Bas
set_option linter.unusedVariables false
set_option linter.unusedSimpArgs false

/-- A grid point. -/
def Vd (x y : Int) : Prop := 0 ≤ x ∧ x < 32768 ∧ 0 ≤ y ∧ y < 32768
instance (x y : Int) : Decidable (Vd x y) := by unfold Vd; infer_instance
theorem sd {b : Bool} {p : Prop} [Decidable p] (h : b = true ↔ p) : some b = some (decide p) := by
  congr 1
  rw [Bool.eq_iff_iff, h, decide_eq_true_eq]
theorem Valid_eq (x y : Int) : grid_Valid.f x y = some (decide (Vd x y)) := by
  unfold grid_Valid.f Vd
  repeat' split
  all_goals (refine sd ?_; simp only [decide_eq_true_eq, Bool.false_eq_true, true_iff, false_iff]; omega)
theorem rValid_eq (x y : Int) : mapmakerref08_Valid.f x y = some (decide (Vd x y)) := by
  unfold mapmakerref08_Valid.f Vd
  repeat' split
  all_goals (refine sd ?_; simp only [decide_eq_true_eq, Bool.false_eq_true, true_iff, false_iff]; omega)
theorem valid_l0 (l : List S30) (hl : l.length ≤ 100) (n : Nat) : ∀ i : Int, 0 ≤ i → (l.length : Int) - i = n → Ev (fun k => seg_valid.l0 k l (l.length : Int) i) ((l.drop i.toNat).all fun p => decide (Vd p.f0 p.f1)) := by
  induction n with
  | zero =>
    intro i h0 h1
    refine Ev_round (fun k => by rw [seg_valid.l0]) (Ev_neg (by omega) (Ev_const ?_))
    rw [drop_end (by omega)]
    rfl
  | succ n ih =>
    intro i h0 h1
    refine Ev_round (fun k => by rw [seg_valid.l0]) (Ev_pos (by omega) (Ev_pos h0 (Ev_pos (by omega) ?_)))
    rw [drop_at z30 h0 (by omega), List.all_cons]
    refine Ev.bind (Ev_const (Valid_eq _ _)) ?_
    by_cases h : Vd (rd_T30 l i).f0 (rd_T30 l i).f1
    · refine Ev_pos (by simpa using h) ?_
      rw [wrap_in ⟨by omega, by omega⟩]
      have e : decide (Vd (l.getD i.toNat z30).f0 (l.getD i.toNat z30).f1) = true := by simpa [rd_T30] using h
      rw [e, Bool.true_and]
      exact ih (i + 1) (by omega) (by omega)
    · refine Ev_neg (by simpa using h) (Ev_const ?_)
      have e : decide (Vd (l.getD i.toNat z30).f0 (l.getD i.toNat z30).f1) = false := by simpa [rd_T30] using h
      rw [e, Bool.false_and]
theorem valid_ev (l : List S30) (hl : l.length ≤ 100) : Ev (fun k => seg_valid.f k l) (l.all fun p => decide (Vd p.f0 p.f1)) := by
  refine Ev.congr (fun k => by rw [seg_valid.f]) ?_
  exact valid_l0 l hl l.length 0 (by decide) (by omega)

section
variable {au av bu bv cu cv pu pv : Int}
/-- Three grid points. -/
def V3 (au av bu bv cu cv : Int) : Prop := Vd au av ∧ Vd bu bv ∧ Vd cu cv
instance (au av bu bv cu cv : Int) : Decidable (V3 au av bu bv cu cv) := by unfold V3; infer_instance
theorem valid3_ev (au av bu bv cu cv : Int) : Ev (fun k => seg_valid.f k (([(⟨au, av⟩ : S30), (⟨bu, bv⟩ : S30), (⟨cu, cv⟩ : S30)] : List (S30)))) (decide (V3 au av bu bv cu cv)) := by
  refine Ev_eq ?_ (valid_ev _ (by simp))
  unfold V3
  by_cases h1 : Vd au av <;> by_cases h2 : Vd bu bv <;> by_cases h3 : Vd cu cv <;> simp [h1, h2, h3]
def cr (au av bu bv cu cv : Int) : Int := (bu - au) * (cv - av) - (bv - av) * (cu - au)
theorem pb {u v : Int} (h1 : -32768 ≤ u) (h2 : u ≤ 32768) (h3 : -32768 ≤ v) (h4 : v ≤ 32768) : -1073741824 ≤ u * v ∧ u * v ≤ 1073741824 := by
  have pos : ∀ s t : Int, 0 ≤ s → s ≤ 32768 → 0 ≤ t → t ≤ 32768 → 0 ≤ s * t ∧ s * t ≤ 1073741824 := fun s t a b c d =>
    ⟨Int.mul_nonneg a c, Int.le_trans (Int.mul_le_mul b d c (by omega)) (by decide)⟩
  rcases Int.le_total 0 u with a | a <;> rcases Int.le_total 0 v with b | b
  · have := pos u v a h2 b h4; omega
  · have := pos u (-v) a h2 (by omega) (by omega); rw [Int.mul_neg] at this; omega
  · have := pos (-u) v (by omega) (by omega) b h4; rw [Int.neg_mul] at this; omega
  · have := pos (-u) (-v) (by omega) (by omega) (by omega) (by omega); rw [Int.neg_mul_neg] at this; omega
theorem cr_wrap (h : V3 au av bu bv cu cv) : wrap64 ((wrap64 ((wrap64 (bu - au)) * (wrap64 (cv - av)))) - (wrap64 ((wrap64 (bv - av)) * (wrap64 (cu - au))))) = cr au av bu bv cu cv ∧ -2147483648 ≤ cr au av bu bv cu cv ∧ cr au av bu bv cu cv ≤ 2147483648 := by
  obtain ⟨⟨a1, a2, a3, a4⟩, ⟨b1, b2, b3, b4⟩, ⟨c1, c2, c3, c4⟩⟩ := h
  have p1 := pb (u := bu - au) (v := cv - av) (by omega) (by omega) (by omega) (by omega)
  have p2 := pb (u := bv - av) (v := cu - au) (by omega) (by omega) (by omega) (by omega)
  rw [wrap_in (x := bu - au) ⟨by omega, by omega⟩, wrap_in (x := cv - av) ⟨by omega, by omega⟩, wrap_in (x := bv - av) ⟨by omega, by omega⟩, wrap_in (x := cu - au) ⟨by omega, by omega⟩, wrap_in (x := (bu - au) * (cv - av)) ⟨by omega, by omega⟩, wrap_in (x := (bv - av) * (cu - au)) ⟨by omega, by omega⟩]
  unfold cr
  exact ⟨wrap_in ⟨by omega, by omega⟩, by omega, by omega⟩
def trn (au av bu bv cu cv : Int) : Int := if V3 au av bu bv cu cv then cr au av bu bv cu cv else 0
theorem Turn_ev (au av bu bv cu cv : Int) : Ev (fun k => seg_Turn.f k au av bu bv cu cv) (trn au av bu bv cu cv) := by
  refine Ev.congr (fun k => by rw [seg_Turn.f]) (Ev.bind (valid3_ev _ _ _ _ _ _) ?_)
  unfold trn
  by_cases h : V3 au av bu bv cu cv
  · rw [if_pos h]
    exact Ev_pos (by simpa using h) (Ev_const (by rw [(cr_wrap h).1]))
  · rw [if_neg h]
    exact Ev_neg (by simpa using h) (Ev.now _)
/-- The points' order. -/
def lt2 (au av bu bv : Int) : Prop := au < bu ∨ au = bu ∧ av < bv
instance (au av bu bv : Int) : Decidable (lt2 au av bu bv) := by unfold lt2; infer_instance
theorem Less_eq (au av bu bv : Int) : grid_Less.f au av bu bv = some (decide (lt2 au av bu bv)) := by
  unfold grid_Less.f lt2
  repeat' split
  all_goals (refine sd ?_; simp only [decide_eq_true_eq, Bool.false_eq_true, true_iff, false_iff]; omega)
def of (au av bu bv : Int) : Int × Int × Int × Int := if lt2 bu bv au av then (bu, bv, au, av) else (au, av, bu, bv)
theorem Of_eq (au av bu bv : Int) : seg_Of.f au av bu bv = some (of au av bu bv) := by
  unfold seg_Of.f of
  rw [Less_eq]
  by_cases h : lt2 bu bv au av <;> simp [h]
/-- The point (pu, pv) is on the segment. -/
def On (pu pv au av bu bv : Int) : Prop := V3 pu pv au av bu bv ∧ cr au av bu bv pu pv = 0 ∧ min au bu ≤ pu ∧ pu ≤ max au bu ∧ min av bv ≤ pv ∧ pv ≤ max av bv
instance (pu pv au av bu bv : Int) : Decidable (On pu pv au av bu bv) := by unfold On; infer_instance
theorem V3_turn (h : V3 pu pv au av bu bv) : V3 au av bu bv pu pv := ⟨h.2.1, h.2.2, h.1⟩
theorem On_ev (pu pv au av bu bv : Int) : Ev (fun k => seg_On.f k pu pv au av bu bv) (decide (On pu pv au av bu bv)) := by
  refine Ev.congr (fun k => by rw [seg_On.f]) (Ev.bind (valid3_ev _ _ _ _ _ _) ?_)
  by_cases h : V3 pu pv au av bu bv
  · refine Ev_pos (by simpa using h) (Ev.bind (Turn_ev _ _ _ _ _ _) ?_)
    unfold trn
    rw [if_pos (V3_turn h)]
    by_cases z : cr au av bu bv pu pv = 0
    · refine Ev_pos z (Ev.bind (Ev_const (Of_eq _ _ _ _)) (Ev_const ?_))
      have e : decide (On pu pv au av bu bv) = decide (min au bu ≤ pu ∧ pu ≤ max au bu ∧ min av bv ≤ pv ∧ pv ≤ max av bv) := by
        simp [On, h, z]
      rw [e, mn_eq, mx_eq]
      unfold of
      by_cases hl : lt2 bu bv au av
      · rw [if_pos hl]
        unfold lt2 at hl
        simp only []
        repeat' split
        all_goals (refine sd ?_; simp only [decide_eq_true_eq, Bool.false_eq_true, true_iff, false_iff]; omega)
      · rw [if_neg hl]
        unfold lt2 at hl
        simp only []
        repeat' split
        all_goals (refine sd ?_; simp only [decide_eq_true_eq, Bool.false_eq_true, true_iff, false_iff]; omega)
    · exact Ev_neg z (Ev_const (by rw [decide_eq_false (fun o => z o.2.1)]))
  · exact Ev_neg (by simpa using h) (Ev_const (by rw [decide_eq_false (fun o => h o.1)]))
/-- The sign of a number. -/
def sgn (n : Int) : Int := if n < 0 then -1 else if n > 0 then 1 else 0
theorem sign_eq (n : Int) : seg_sign.f n = some (sgn n) := by
  unfold seg_sign.f sgn
  rw [mn_eq, mx_eq]
  congr 1
  repeat' split
  all_goals omega
end
end Go.Proofs.Ytggafoldccikdaa.Sg
