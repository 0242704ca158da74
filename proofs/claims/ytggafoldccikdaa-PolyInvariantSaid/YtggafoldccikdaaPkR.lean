/- Area2, Where and Canon of a list turned or read backwards; a ring has an area. -/
import Derived.Test.YtggafoldccikdaaPkP
import Derived.Test.YtggafoldccikdaaPAllx50
namespace Go.Proofs.Ytggafoldccikdaa.Pk
open Go.RowKit Go.Proofs.Ytggafoldccikdaa.PAll Go.Proofs.YtggafoldccikdaaW.PrintWords Go.Proofs.YtggafoldccikdaaW.PrintLast Go.Proofs.YtggafoldccikdaaW.PrintMore Go.Proofs.Ytggafoldccikdaa.Bas Go.Proofs.Ytggafoldccikdaa.Sg Go.Proofs.Ytggafoldccikdaa.Po
set_option linter.unusedVariables false
set_option linter.unusedSimpArgs false

theorem S_neg (f : Nat → Int) (a : Nat) : ∀ c, S (fun j => -f j) a c = -S f a c
  | 0 => rfl
  | c + 1 => by rw [S, S, S_neg f a c]; omega
theorem S_rev (g : Nat → Int) : ∀ (n a : Nat), S (fun j => g (a + n - 1 - j)) 0 n = S g a n
  | 0, a => rfl
  | n + 1, a => by
    rw [S_head, S]
    have e : S (fun j => g (a + (n + 1) - 1 - j)) (0 + 1) n = S (fun j => g (a + n - 1 - j)) 0 n := by
      rw [S_shift (fun j => g (a + (n + 1) - 1 - j)) 1 0 n]
      exact S_congr (fun j _ _ => by rw [show a + (n + 1) - 1 - (j + 1) = a + n - 1 - j by omega])
    rw [e, S_rev g n a, show a + (n + 1) - 1 - 0 = a + n by omega]
    omega
section
variable {l m : List S30} {s : Nat} {p : S30}
theorem pts_per (l : List S30) (j : Nat) : pts l (j + l.length) = pts l j := by
  unfold pts
  rw [Nat.add_mod_right]
theorem pts_rot (hs : s < l.length) (j : Nat) : pts (rot l s) j = pts l (j + s) := by
  have hj : j % l.length < l.length := Nat.mod_lt _ (by omega)
  unfold pts
  rw [rot_len (by omega), rot_at hs hj]
  have e : (j + s) % l.length = ro l.length s (j % l.length) := by
    rw [← Nat.mod_add_mod j l.length s]
    generalize j % l.length = t at *
    unfold ro
    by_cases c : t + s < l.length
    · rw [if_pos c, Nat.mod_eq_of_lt c]
    · rw [if_neg c, Nat.mod_eq_sub_mod (by omega), Nat.mod_eq_of_lt (by omega)]
  rw [e]
theorem pts_rev (h0 : 0 < l.length) {j : Nat} (hj : j ≤ l.length) : pts l.reverse j = pts l (l.length - 1 + l.length - j) := by
  have small : ∀ j, j < l.length → pts l.reverse j = pts l (l.length - 1 + l.length - j) := fun j hj => by
    have e : l.length - 1 + l.length - j = l.length - 1 - j + l.length := by omega
    rw [e, pts_per, pts_at (by rw [List.length_reverse]; exact hj), pts_at (by omega), rev_at hj]
  by_cases c : j < l.length
  · exact small j c
  · obtain rfl : j = l.length := by omega
    have e1 : pts l.reverse l.length = pts l.reverse 0 := by
      have := pts_per l.reverse 0
      rw [List.length_reverse, Nat.zero_add] at this
      exact this
    rw [e1, small 0 h0, show l.length - 1 + l.length - 0 = l.length - 1 + l.length by omega, pts_per, show l.length - 1 + l.length - l.length = l.length - 1 by omega]
/-- Twice the area, before wrapping. -/
def ar (l : List S30) : Int := if l.all pt_ok = true then area2 (pts l) l.length else 0
theorem area_f (hl : l.length ≤ 1000000) : poly_Area2.f l = some (ar l) := by
  rw [Pq.area_eq l hl]
  unfold ar
  by_cases hv : l.all pt_ok = true
  · rw [if_pos hv, if_pos hv, area_ring (all_iff.1 hv) hl]
  · rw [if_neg hv, if_neg hv]
theorem ar_bound (hl : l.length ≤ 1000000) : IsI (-ar l) := by
  unfold ar
  by_cases hv : l.all pt_ok = true
  · rw [if_pos hv]
    have := (area_pts (all_iff.1 hv) hl l.length (Nat.le_refl _)).2
    rw [area_ring (all_iff.1 hv) hl] at this
    exact ⟨by omega, by omega⟩
  · rw [if_neg hv]
    exact ⟨by decide, by decide⟩
def ct (p : Nat → V) (j : Nat) : Int := (p j).x * (p (j + 1)).y - (p j).y * (p (j + 1)).x
theorem ct_per (l : List S30) (j : Nat) : ct (pts l) (j + l.length) = ct (pts l) j := by
  unfold ct
  rw [show j + l.length + 1 = j + 1 + l.length by omega, pts_per, pts_per]
theorem ar_rot (hs : s < l.length) : ar (rot l s) = ar l := by
  unfold ar
  rw [all_rot, rot_len (by omega)]
  have : area2 (pts (rot l s)) l.length = area2 (pts l) l.length := by
    show S (ct (pts (rot l s))) 0 l.length = S (ct (pts l)) 0 l.length
    rw [← S_turn (ct_per l) (0 + s), S_shift]
    refine S_congr (fun j _ _ => ?_)
    unfold ct
    rw [pts_rot hs, pts_rot hs, show j + 1 + s = j + s + 1 by omega]
  rw [this]
theorem ar_rev (h0 : 0 < l.length) : ar l.reverse = -ar l := by
  unfold ar
  rw [List.all_reverse, List.length_reverse]
  have : area2 (pts l.reverse) l.length = -area2 (pts l) l.length := by
    show S (ct (pts l.reverse)) 0 l.length = -S (ct (pts l)) 0 l.length
    rw [← S_turn (ct_per l) (l.length - 1), ← S_rev (ct (pts l)) l.length (l.length - 1), ← S_neg]
    refine S_congr (fun j _ hj => ?_)
    unfold ct
    rw [pts_rev h0 (by omega), pts_rev h0 (by omega), show l.length - 1 + l.length - j = l.length - 1 + l.length - 1 - j + 1 by omega, show l.length - 1 + l.length - (j + 1) = l.length - 1 + l.length - 1 - j by omega]
    grind
  rw [this]
  split <;> rfl
/-! ### Where -/
theorem par_S (w : Nat → V) : ∀ c, (S (fun j => if rc (w j) (w (j + 1)) = true then 1 else 0) 0 c) % 2 = if par w c = true then 1 else 0
  | 0 => rfl
  | c + 1 => by
    have ih := par_S w c
    rw [S, Nat.zero_add, par]
    cases h1 : par w c <;> cases h2 : rc (w c) (w (c + 1)) <;> rw [h1] at ih <;> simp at ih ⊢ <;> omega
theorem rc_comm (u v : V) : rc v u = rc u v := by
  unfold rc
  rw [crs_swap u v]
  by_cases a : 0 < u.y <;> by_cases b : 0 < v.y
  · simp [a, b]
  · rw [if_neg (by simp [a, b]), if_pos (by omega), if_neg (by simp [a, b]), if_neg (by omega)]
    exact decide_eq_decide.2 (by omega)
  · rw [if_neg (by simp [a, b]), if_neg (by omega), if_neg (by simp [a, b]), if_pos (by omega)]
    exact decide_eq_decide.2 (by omega)
  · simp [a, b]
def cp (l : List S30) (o : V) (j : Nat) : Int := if rc (vo (pts l) o j) (vo (pts l) o (j + 1)) = true then 1 else 0
theorem cp_per (l : List S30) (o : V) (j : Nat) : cp l o (j + l.length) = cp l o j := by
  unfold cp vo
  rw [show j + l.length + 1 = j + 1 + l.length by omega, pts_per, pts_per]
theorem par_eq {o : V} (h : S (cp m o) 0 l.length = S (cp l o) 0 l.length) : par (vo (pts m) o) l.length = par (vo (pts l) o) l.length := by
  have e1 := par_S (vo (pts m) o) l.length
  have e2 := par_S (vo (pts l) o) l.length
  have h' : S (fun j => if rc (vo (pts m) o j) (vo (pts m) o (j + 1)) = true then 1 else 0) 0 l.length = S (fun j => if rc (vo (pts l) o j) (vo (pts l) o (j + 1)) = true then 1 else 0) 0 l.length := h
  rw [h', e2] at e1
  revert e1
  cases par (vo (pts m) o) l.length <;> cases par (vo (pts l) o) l.length <;> simp
theorem par_rot (hs : s < l.length) (o : V) : par (vo (pts (rot l s)) o) l.length = par (vo (pts l) o) l.length := by
  refine par_eq ?_
  rw [← S_turn (cp_per l o) (0 + s), S_shift]
  refine S_congr (fun j _ _ => ?_)
  unfold cp vo
  rw [pts_rot hs, pts_rot hs, show j + 1 + s = j + s + 1 by omega]
theorem par_rev (h0 : 0 < l.length) (o : V) : par (vo (pts l.reverse) o) l.length = par (vo (pts l) o) l.length := by
  refine par_eq ?_
  rw [← S_turn (cp_per l o) (l.length - 1), ← S_rev (cp l o) l.length (l.length - 1)]
  refine S_congr (fun j _ hj => ?_)
  unfold cp vo
  rw [pts_rev h0 (by omega), pts_rev h0 (by omega), show l.length - 1 + l.length - j = l.length - 1 + l.length - 1 - j + 1 by omega, show l.length - 1 + l.length - (j + 1) = l.length - 1 + l.length - 1 - j by omega, rc_comm]
def En (l : List S30) (p : S30) : Prop := ∃ j, j < l.length ∧ on p (at_ l j) (at_ l (sx l.length j))
theorem wh_same (hlen : m.length = l.length) (hall : m.all pt_ok = l.all pt_ok) (he : En m p ↔ En l p) (hp : par (vo (pts m) (pv p)) l.length = par (vo (pts l) (pv p)) l.length) : Pq.wh m p = Pq.wh l p := by
  unfold Pq.wh
  rw [hlen, hall]
  by_cases c : l.length < 3
  · rw [if_pos c, if_pos c]
  rw [if_neg c, if_neg c]
  by_cases hv : l.all pt_ok = true
  · rw [if_pos hv, if_pos hv]
    by_cases hq : pt_ok p = true
    · rw [if_pos hq, if_pos hq]
      by_cases e : En l p
      · obtain ⟨j, hj, hon⟩ := e
        obtain ⟨i, hi, hon'⟩ := he.2 ⟨j, hj, hon⟩
        rw [whP_on (l := l) j (by rw [nx_sx hj]; exact hon) l.length 0 false (by omega) (by omega), whP_on (l := m) i (by rw [nx_sx hi]; exact hon') l.length 0 false (by omega) (by omega)]
      · have e' : ¬ En m p := fun h => e (he.1 h)
        have o1 := whP_off (l := l) (p := p) (fun j hj hon => e ⟨j, hj, by rw [← nx_sx hj]; exact hon⟩) l.length 0 (by omega)
        have o2 := whP_off (l := m) (p := p) (fun j hj hon => e' ⟨j, hj, by rw [← nx_sx hj]; exact hon⟩) m.length 0 (by omega)
        rw [show par (vo (pts l) (pv p)) 0 = false from rfl] at o1
        rw [show par (vo (pts m) (pv p)) 0 = false from rfl, hlen] at o2
        rw [o1, o2, hp]
    · rw [if_neg hq, if_neg hq]
  · rw [if_neg hv, if_neg hv]
theorem En_rot (hs : s < l.length) (h : En (rot l s) p) : En l p := by
  obtain ⟨j, hj, hon⟩ := h
  rw [rot_len (by omega)] at hj hon
  rw [rot_at hs hj, rot_at hs (sx_lt hj), sx_ro hs hj] at hon
  exact ⟨ro l.length s j, ro_lt hs hj, hon⟩
theorem En_rev (h : En l.reverse p) : En l p := by
  obtain ⟨j, hj, hon⟩ := h
  rw [List.length_reverse] at hj hon
  rw [rev_at hj, rev_at (sx_lt hj), on_swap] at hon
  refine ⟨l.length - 1 - sx l.length j, by omega, ?_⟩
  rw [show sx l.length (l.length - 1 - sx l.length j) = l.length - 1 - j by
    unfold sx
    repeat' split
    all_goals omega]
  exact hon
theorem wh_rot (hs : s < l.length) : Pq.wh (rot l s) p = Pq.wh l p := by
  refine wh_same (rot_len (by omega)) (all_rot _) ⟨En_rot hs, fun h => ?_⟩ (par_rot hs _)
  by_cases c : s = 0
  · subst c
    rw [rot_zero]
    exact h
  · refine En_rot (s := l.length - s) (by rw [rot_len (by omega)]; omega) ?_
    rw [rot_back hs (by omega)]
    exact h
theorem wh_rev (h0 : 0 < l.length) : Pq.wh l.reverse p = Pq.wh l p := by
  refine wh_same List.length_reverse List.all_reverse ⟨En_rev, fun h => En_rev ?_⟩ (par_rev h0 _)
  rw [List.reverse_reverse]
  exact h
/-! ### Canon -/
theorem amn_min : ∀ (d i a : Nat), i + d = l.length → a < l.length → (∀ j, j < i → ¬ lt2 (at_ l j).f0 (at_ l j).f1 (at_ l a).f0 (at_ l a).f1) → ∀ j, j < l.length → ¬ lt2 (at_ l j).f0 (at_ l j).f1 (at_ l (Pq.amn l d i a)).f0 (at_ l (Pq.amn l d i a)).f1
  | 0, i, a, h, ha, hm, j, hj => hm j (by omega)
  | d + 1, i, a, h, ha, hm, j, hj => by
    unfold Pq.amn
    by_cases c : lt2 (at_ l i).f0 (at_ l i).f1 (at_ l a).f0 (at_ l a).f1
    · rw [if_pos c]
      refine amn_min d (i + 1) i (by omega) (by omega) (fun j hj => ?_) j hj
      by_cases e : j = i
      · subst e
        unfold lt2
        omega
      · have := hm j (by omega)
        unfold lt2 at this c ⊢
        omega
    · rw [if_neg c]
      refine amn_min d (i + 1) a (by omega) ha (fun j hj => ?_) j hj
      by_cases e : j = i
      · subst e; exact c
      · exact hm j (by omega)
theorem canon_rot (hs : s < l.length) (g : Good l) : rot (rot l s) (Pq.amn (rot l s) (rot l s).length 0 0) = rot l (Pq.amn l l.length 0 0) := by
  have hlen : (rot l s).length = l.length := rot_len (by omega)
  have m1 := amn_min (l := l) l.length 0 0 (by omega) (by omega) (fun j hj => by omega)
  have m2 := amn_min (l := rot l s) (rot l s).length 0 0 (by omega) (by omega) (fun j hj => by omega)
  have b1 : Pq.amn l l.length 0 0 < l.length := Pq.amn_lt _ _ _ (by omega) (by omega)
  have b2 : Pq.amn (rot l s) (rot l s).length 0 0 < (rot l s).length := Pq.amn_lt _ _ _ (by omega) (by omega)
  generalize Pq.amn l l.length 0 0 = a at *
  generalize Pq.amn (rot l s) (rot l s).length 0 0 = b at *
  rw [hlen] at b2 m2
  have e : a = ro l.length s b := by
    by_cases e : a = ro l.length s b
    · exact e
    · exfalso
      have q := S_ne.1 (g a (ro l.length s b) b1 (ro_lt hs b2) e).1
      have t1 := m1 (ro l.length s b) (ro_lt hs b2)
      have t2 := m2 (if s ≤ a then a - s else a + l.length - s) (by split <;> omega)
      rw [rot_at hs b2, rot_at hs (by split <;> omega), show ro l.length s (if s ≤ a then a - s else a + l.length - s) = a by
        unfold ro
        repeat' split
        all_goals omega] at t2
      unfold lt2 at t1 t2
      omega
  refine ext_at (by rw [rot_len (l := rot l s) (by omega), hlen, rot_len (by omega)]) (fun i hi => ?_)
  rw [rot_len (by omega), hlen] at hi
  rw [rot_at (by omega) (by omega), rot_at (by omega) hi, hlen, rot_at hs (ro_lt b2 hi)]
  congr 1
  rw [e]
  unfold ro
  repeat' split
  all_goals omega
end
end Go.Proofs.Ytggafoldccikdaa.Pk
