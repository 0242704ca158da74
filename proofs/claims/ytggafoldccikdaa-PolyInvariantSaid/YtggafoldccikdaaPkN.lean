/- What Where and Area2 answer for a ring. -/
import Derived.Test.YtggafoldccikdaaPkI
import Derived.Test.YtggafoldccikdaaPkM
namespace Go.Proofs.Ytggafoldccikdaa.Pk
open Go.RowKit Go.Proofs.Ytggafoldccikdaa.PAll Go.Proofs.Ytggafoldccikdaa.Bas Go.Proofs.Ytggafoldccikdaa.Sg Go.Proofs.Ytggafoldccikdaa.Po
set_option linter.unusedVariables false
set_option linter.unusedSimpArgs false

section
variable {l : List S30} {p : S30}
theorem pts_at {i : Nat} (hi : i < l.length) : pts l i = pv (at_ l i) := by
  unfold pts
  rw [Nat.mod_eq_of_lt hi]
theorem pts_nx {i : Nat} (hi : i < l.length) : pts l (i + 1) = pv (nx l i) := by
  rw [pts_next, Nat.mod_eq_of_lt hi]
theorem rc_eq {i : Nat} (hi : i < l.length) : Pq.crs (at_ l i) (nx l i) p = rc (vo (pts l) (pv p) i) (vo (pts l) (pv p) (i + 1)) := by
  unfold vo
  rw [pts_at hi, pts_nx hi]
  have e : crs (sub (pv (at_ l i)) (pv p)) (sub (pv (nx l i)) (pv p)) = crS (at_ l i) (nx l i) p := by unfold crs sub pv crS cr; grind
  unfold Pq.crs rc
  rw [e]
  have y1 : (sub (pv (at_ l i)) (pv p)).y = (at_ l i).f1 - p.f1 := rfl
  have y2 : (sub (pv (nx l i)) (pv p)).y = (nx l i).f1 - p.f1 := rfl
  rw [y1, y2]
  have d1 : decide ((at_ l i).f1 > p.f1) = decide (0 < (at_ l i).f1 - p.f1) := decide_eq_decide.2 (by omega)
  have d2 : decide ((nx l i).f1 > p.f1) = decide (0 < (nx l i).f1 - p.f1) := decide_eq_decide.2 (by omega)
  rw [d1, d2]
  by_cases c : (decide (0 < (at_ l i).f1 - p.f1) == decide (0 < (nx l i).f1 - p.f1)) = true
  · rw [if_pos c, if_pos c]
  · rw [if_neg c, if_neg c]
    by_cases c2 : (nx l i).f1 > (at_ l i).f1
    · rw [if_pos c2, if_pos (by omega)]
    · rw [if_neg c2, if_neg (by omega)]
theorem on_iff (hv : AllV l) (hp : vd p) {i : Nat} (hi : i < l.length) : On0 (vo (pts l) (pv p) i) (vo (pts l) (pv p) (i + 1)) ↔ on p (at_ l i) (nx l i) := by
  unfold vo
  rw [pts_at hi, pts_nx hi]
  exact on_pv hp (hv _ (rd_mem hi)) (hv _ (rd_mem (next_lt hi)))
theorem whP_on (j : Nat) (hj : on p (at_ l j) (nx l j)) : ∀ (d i : Nat) (ins : Bool), i ≤ j → j < i + d → Pq.whP l p d i ins = 1
  | 0, i, ins, h1, h2 => by omega
  | d + 1, i, ins, h1, h2 => by
    unfold Pq.whP
    by_cases o : on p (at_ l i) (nx l i)
    · rw [if_pos o]
    · rw [if_neg o]
      have : i ≠ j := fun e => o (by rw [e]; exact hj)
      exact whP_on j hj d (i + 1) _ (by omega) (by omega)
theorem whP_off (hoff : ∀ j, j < l.length → ¬ on p (at_ l j) (nx l j)) : ∀ (d i : Nat), i + d = l.length → Pq.whP l p d i (par (vo (pts l) (pv p)) i) = if par (vo (pts l) (pv p)) l.length = true then 2 else 0
  | 0, i, h => by
    obtain rfl : i = l.length := by omega
    rfl
  | d + 1, i, h => by
    unfold Pq.whP
    rw [if_neg (hoff i (by omega)), rc_eq (by omega)]
    exact whP_off hoff d (i + 1) (by omega)
theorem wh_pts (h3 : 3 ≤ l.length) (hv : AllV l) (hp : vd p) : Pq.wh l p = Pq.whP l p l.length 0 false := by
  unfold Pq.wh
  rw [if_neg (by omega), if_pos (all_iff.2 hv), if_pos (pt_iff.2 hp)]
/-- What a point sees is told by Where. -/
theorem see_wh (h : Ring l.length (pts l)) (hv : AllV l) (hp : vd p) : see l.length (pts l) (pv p) = C l.length (pts l) * ((if Pq.wh l p = 1 then 1 else 0) + 2 * (if Pq.wh l p = 2 then 1 else 0)) := by
  have h3 := h.n3
  rw [wh_pts h3 hv hp]
  by_cases o : ∃ j, j < l.length ∧ on p (at_ l j) (nx l j)
  · obtain ⟨j, hj, hon⟩ := o
    rw [whP_on j hon l.length 0 false (by omega) (by omega), h.see_on j ((on_iff hv hp hj).2 hon)]
    simp
  · have hoff : ∀ j, j < l.length → ¬ on p (at_ l j) (nx l j) := fun j hj hon => o ⟨j, hj, hon⟩
    have := whP_off (l := l) (p := p) hoff l.length 0 (by omega)
    rw [show par (vo (pts l) (pv p)) 0 = false from rfl] at this
    rw [this, h.see_off ?_]
    · by_cases c : par (vo (pts l) (pv p)) l.length = true
      · rw [if_pos c, if_pos c]
        simp
        omega
      · rw [if_neg c, if_neg c]
        simp
    · intro j hon
      refine hoff (j % l.length) (Nat.mod_lt _ (by omega)) ((on_iff hv hp (Nat.mod_lt _ (by omega))).1 ?_)
      have e1 : vo (pts l) (pv p) (j % l.length) = vo (pts l) (pv p) j := by unfold vo; rw [h.mod]
      have e2 : vo (pts l) (pv p) (j % l.length + 1) = vo (pts l) (pv p) (j + 1) := by
        unfold vo
        rw [← h.mod (j % l.length + 1), ← mod_next, h.mod]
      rw [e1, e2]
      exact hon
theorem area_pts (hv : AllV l) (hl : l.length ≤ 1000000) : ∀ i, i ≤ l.length → areaUpto l i = S (fun j => (pts l j).x * (pts l (j + 1)).y - (pts l j).y * (pts l (j + 1)).x) 0 i ∧ -(i * 2147483648 : Int) ≤ areaUpto l i ∧ areaUpto l i ≤ (i * 2147483648 : Int) := by
  intro i
  induction i with
  | zero => intro _; exact ⟨rfl, by show -((0 : Nat) * 2147483648 : Int) ≤ 0; decide, by show (0 : Int) ≤ ((0 : Nat) * 2147483648 : Int); decide⟩
  | succ i ih =>
    intro hi
    obtain ⟨e, b1, b2⟩ := ih (by omega)
    obtain ⟨a1, a2, a3, a4⟩ := hv _ (rd_mem (i := i) (by omega))
    have vn : vd (nx l i) := hv _ (rd_mem (next_lt (l := l) (i := i) (by omega)))
    obtain ⟨c1, c2, c3, c4⟩ := vn
    have p1 := pb (u := (at_ l i).f0) (v := (nx l i).f1) (by omega) (by omega) (by omega) (by omega)
    have p2 := pb (u := (at_ l i).f1) (v := (nx l i).f0) (by omega) (by omega) (by omega) (by omega)
    have es : areaUpto l (i + 1) = areaUpto l i + ((at_ l i).f0 * (nx l i).f1 - (at_ l i).f1 * (nx l i).f0) := by
      show areaStep (at_ l i) (nx l i) (areaUpto l i) = _
      unfold areaStep
      rw [wrap_in (x := (at_ l i).f0 * (nx l i).f1) ⟨by omega, by omega⟩, wrap_in (x := (at_ l i).f1 * (nx l i).f0) ⟨by omega, by omega⟩, wrap_in (x := (at_ l i).f0 * (nx l i).f1 - (at_ l i).f1 * (nx l i).f0) ⟨by omega, by omega⟩]
      exact wrap_in ⟨by omega, by omega⟩
    refine ⟨?_, by omega, by omega⟩
    rw [es, S, ← e, Nat.zero_add, pts_at (by omega), pts_nx (by omega)]
    rfl
theorem area_ring (hv : AllV l) (hl : l.length ≤ 1000000) : areaUpto l l.length = area2 (pts l) l.length := (area_pts hv hl l.length (Nat.le_refl _)).1
theorem ring_simple (h3 : 3 ≤ l.length) (hs : Pq.simpleP l = true) : AllV l ∧ Ring l.length (pts l) := by
  unfold Pq.simpleP at hs
  obtain ⟨_, hv, hd, hr⟩ := (@decide_eq_true_iff _ (Classical.propDecidable _)).1 hs
  refine ⟨hv, ring_of h3 hv (fun i hi => hd.next h3 hi) (fun i j hi hj h => ?_) (fun i j hi hj h => ?_)⟩
  · have := hr i hi j hj
    unfold Pq.want at this
    rw [if_pos h] at this
    exact this
  · have := hr i hi j hj
    unfold Pq.want at this
    rw [if_neg h] at this
    exact this
theorem simple_three (hs : Pq.simpleP l = true) : 3 ≤ l.length := by
  unfold Pq.simpleP at hs
  exact ((@decide_eq_true_iff _ (Classical.propDecidable _)).1 hs).1
def inI (l : List S30) (x y : Int) : Int := if Pq.wh l ⟨x, y⟩ = 2 then 1 else 0
def inB (l : List S30) (x y : Int) : Int := if Pq.wh l ⟨x, y⟩ = 1 then 1 else 0
theorem Z_le {f : Int → Int} (hf : ∀ x, 0 ≤ f x ∧ f x ≤ 1) (lo : Int) : ∀ c : Nat, 0 ≤ Z f lo c ∧ Z f lo c ≤ c
  | 0 => by rw [Z]; omega
  | c + 1 => by
    have := Z_le hf lo c
    have := hf (lo + c)
    rw [Z]
    omega
theorem inI_le (y x : Int) : 0 ≤ inI l x y ∧ inI l x y ≤ 1 := by unfold inI; split <;> omega
theorem inB_le (y x : Int) : 0 ≤ inB l x y ∧ inB l x y ≤ 1 := by unfold inB; split <;> omega
theorem Bx_le {f : Int → Int → Int} (hf : ∀ y x, 0 ≤ f x y ∧ f x y ≤ 1) (X0 Y0 : Int) (W : Nat) : ∀ c : Nat, 0 ≤ Bx f X0 Y0 W c ∧ Bx f X0 Y0 W c ≤ W * c
  | 0 => by unfold Bx; rw [Z]; simp
  | c + 1 => by
    have h1 := Bx_le hf X0 Y0 W c
    have h2 := Z_le (f := fun x => f x (Y0 + c)) (hf (Y0 + c)) X0 W
    have e : Bx f X0 Y0 W (c + 1) = Bx f X0 Y0 W c + Z (fun x => f x (Y0 + c)) X0 W := rfl
    rw [e, show (W : Int) * ((c + 1 : Nat) : Int) = W * c + W by rw [show ((c + 1 : Nat) : Int) = (c : Int) + 1 by omega, Int.mul_add, Int.mul_one]]
    omega
/-- Pick's theorem, counted. -/
theorem pick_eq (hv : AllV l) (hr : Ring l.length (pts l)) {X0 Y0 : Int} {W Hh : Nat} (hin : ∀ j, j < l.length → X0 ≤ (at_ l j).f0 ∧ (at_ l j).f0 < X0 + W ∧ Y0 ≤ (at_ l j).f1 ∧ (at_ l j).f1 < Y0 + Hh)
    (hg : 0 ≤ X0 ∧ X0 + W ≤ 32768 ∧ 0 ≤ Y0 ∧ Y0 + Hh ≤ 32768) : C l.length (pts l) * (Bx (inB l) X0 Y0 W Hh + 2 * Bx (inI l) X0 Y0 W Hh) = 2 * area2 (pts l) l.length + 2 * C l.length (pts l) := by
  have h3 := hr.n3
  have pk := hr.pick (X0 := X0) (Y0 := Y0) (W := W) (Hh := Hh) (fun j => by
    have := hin (j % l.length) (Nat.mod_lt _ (by omega))
    rw [← hr.mod j]
    have e1 : (pts l (j % l.length)).x = (at_ l (j % l.length)).f0 := by rw [pts_at (Nat.mod_lt _ (by omega))]; rfl
    have e2 : (pts l (j % l.length)).y = (at_ l (j % l.length)).f1 := by rw [pts_at (Nat.mod_lt _ (by omega))]; rfl
    rw [e1, e2]
    exact this)
  have cg : Bx (fun x y => see l.length (pts l) ⟨x, y⟩) X0 Y0 W Hh = Bx (fun x y => C l.length (pts l) * (inB l x y + 2 * inI l x y)) X0 Y0 W Hh := Bx_congr (fun x y h1 h2 h3 h4 => by
    have vp : vd (⟨x, y⟩ : S30) := by
      show 0 ≤ x ∧ x < 32768 ∧ 0 ≤ y ∧ y < 32768
      omega
    exact see_wh (p := ⟨x, y⟩) hr hv vp)
  rw [cg, Bx_mul, Bx_add, Bx_mul] at pk
  exact pk
end
end Go.Proofs.Ytggafoldccikdaa.Pk
