/- A device and the reference's go side by side, plain; the reference's New. -/
import Derived.Test.YtfinlgckalbfoaaDt
import Derived.Test.YtfinlgckalbfoaaPAllx4
import Derived.Test.YtfinlgckalbfoaaPAllx3
namespace Go.Proofs.Ytfinlgckalbfoaa.PAll
open Go.RowKit Go.Proofs.YtfinlgckalbfoaaW.PrintWords Go.Proofs.YtfinlgckalbfoaaW.PrintLast Go.Proofs.YtfinlgckalbfoaaW.PrintMore
set_option linter.unusedVariables false
set_option linter.unusedSimpArgs false
attribute [local irreducible] Calls

theorem rel_write {od : Option Dv} {m : RM} (h : RelO od m) (hl : logLen od < 1000000) (i : Int) (s : ByteArray) : (rWrite m i s).2 = (doWrite od i s).1 ∧ RelO (doWrite od i s).2 (rWrite m i s).1 := by
  cases od with
  | none =>
    unfold rWrite doWrite
    rw [if_pos h.1]
    exact ⟨rfl, h⟩
  | some d =>
    obtain ⟨hr, hg⟩ := h
    have hgood : ∀ c1 : 0 ≤ i, i < (d.now.length : Int) → s.size ≤ 64 → DGood (dvWrite d i s).2 := fun c1 c2 c3 => good_write hg c1 c2 c3 hl
    have hn : ¬ (m.nil = true) := by rw [hr.n]; decide
    show (rWrite m i s).2 = (dvWrite d i s).1 ∧ RelO (some (dvWrite d i s).2) (rWrite m i s).1
    by_cases c1 : i < 0 ∨ (d.now.length : Int) ≤ i
    · have E1 : dvWrite d i s = (2, d) := by unfold dvWrite; rw [if_pos c1]
      have E2 : rWrite m i s = (m, 2) := by unfold rWrite; rw [if_neg hn, hr.b, if_pos c1]
      rw [E1, E2]
      exact ⟨rfl, hr, hg⟩
    · by_cases c2 : (64 : Int) < s.size
      · have E1 : dvWrite d i s = (5, d) := by unfold dvWrite; rw [if_neg c1, if_pos c2]
        have E2 : rWrite m i s = (m, 5) := by unfold rWrite; rw [if_neg hn, hr.b, if_neg c1, if_pos c2]
        rw [E1, E2]
        exact ⟨rfl, hr, hg⟩
      · have hgd := hgood (by omega) (by omega) (by omega)
        cases hlim : d.lim with
        | true =>
          obtain ⟨e1, e2, e3⟩ := hr.l1 hlim
          by_cases c3 : d.left = 0
          · have E1 : dvWrite d i s = (20, d) := by unfold dvWrite; rw [if_neg c1, if_neg c2, if_pos ⟨hlim, c3⟩]
            have E2 : rWrite m i s = (m, 20) := by unfold rWrite; rw [if_neg hn, hr.b, if_neg c1, if_neg c2, if_pos (e1.trans c3)]
            rw [E1, E2]
            exact ⟨rfl, hr, hg⟩
          · have E1 : dvWrite d i s = (0, { d with now := d.now.set i.toNat (padB s), log := d.log ++ [(i, padB s)], left := wrap64 (d.left - 1) }) := by unfold dvWrite; rw [if_neg c1, if_neg c2, if_neg (fun h => c3 h.2), if_pos hlim]
            have E2 : rWrite m i s = ({ m with left := wrap64 (d.left - 1), bl := d.now.set i.toNat (padB s), at_ := m.at_ ++ [i], pu := m.pu ++ [padB s] }, 0) := by
              unfold rWrite
              rw [if_neg hn, hr.b, if_neg c1, if_neg c2, if_neg (fun h => c3 (e1.symm.trans h)), if_pos (by omega), e1]
            rw [E1] at hgd
            rw [E1, E2]
            refine ⟨rfl, ⟨hr.n, rfl, hr.f, by simp [hr.a], by simp [hr.p], fun _ => ⟨rfl, ?_, ?_⟩, fun h => ?_⟩, hgd⟩
            · show 0 ≤ wrap64 (d.left - 1)
              unfold wrap64
              omega
            · show wrap64 (d.left - 1) ≤ _
              unfold wrap64
              omega
            · have h : d.lim = false := h
              rw [hlim] at h
              cases h
        | false =>
          have e1 := hr.l2 hlim
          have E1 : dvWrite d i s = (0, { d with now := d.now.set i.toNat (padB s), log := d.log ++ [(i, padB s)], left := d.left }) := by unfold dvWrite; rw [if_neg c1, if_neg c2, if_neg (fun h => by rw [hlim] at h; cases h.1), if_neg (by rw [hlim]; decide)]
          have E2 : rWrite m i s = ({ m with left := m.left, bl := d.now.set i.toNat (padB s), at_ := m.at_ ++ [i], pu := m.pu ++ [padB s] }, 0) := by
            unfold rWrite
            rw [if_neg hn, hr.b, if_neg c1, if_neg c2, if_neg (by omega), if_neg (by omega)]
          rw [E1] at hgd
          rw [E1, E2]
          refine ⟨rfl, ⟨hr.n, rfl, hr.f, by simp [hr.a], by simp [hr.p], fun h => ?_, fun _ => e1⟩, hgd⟩
          have h : d.lim = true := h
          rw [hlim] at h
          cases h
theorem rel_read {od : Option Dv} {m : RM} (h : RelO od m) (i : Int) : doRead od i = rRead m i := by
  cases od with
  | none =>
    unfold rRead doRead
    rw [if_pos h.1]
  | some d =>
    unfold rRead doRead dvRead
    rw [if_neg (by rw [h.1.n]; decide), h.1.b]
theorem rel_limit {od : Option Dv} {m : RM} (h : RelO od m) (n : Int) (hn : n ≤ 9223372036854775807) : RelO (doLimit od n) (rLimit m n) := by
  cases od with
  | none => exact h
  | some d =>
    obtain ⟨hr, hg⟩ := h
    refine ⟨⟨hr.n, hr.b, hr.f, hr.a, hr.p, fun _ => ⟨?_, ?_, ?_⟩, fun h => by cases h⟩, ⟨hg.n1, hg.n2, hg.nf, hg.ll, hg.at_⟩⟩
    · show (if m.nil = true then m.left else max n 0) = max n 0
      rw [if_neg (by rw [hr.n]; decide)]
    · show 0 ≤ max n 0
      omega
    · show max n 0 ≤ _
      omega
theorem good_after {d : Dv} (hg : DGood d) (n : Int) : DGood (dvAfter d n) := by
  have h1 := hg.n1
  have h2 := hg.n2
  have h3 := hg.nf
  exact ⟨by show 1 ≤ (play _ _).length; rw [play_length]; omega, by show (play _ _).length ≤ 65536; rw [play_length]; omega, rfl, Nat.zero_le _, fun x hx => by simp [dvAfter] at hx⟩
theorem rel_after {d : Dv} {m : RM} (h : RelO (some d) m) (n : Int) : RelO (doAfter (some d) n) (rAfter m d.log n) := by
  obtain ⟨hr, hg⟩ := h
  refine ⟨?_, good_after hg n⟩
  unfold rAfter
  rw [if_neg (by rw [hr.n]; decide), hr.f]
  exact ⟨rfl, rfl, rfl, rfl, rfl, fun h => (by cases h), fun _ => rfl⟩
theorem log_m {d : Dv} {m : RM} (h : RelO (some d) m) : LogM m d.log := ⟨h.1.a, h.1.p, fun x hx => by rw [h.1.f, h.2.nf]; exact h.2.at_ x hx⟩
/-- The reference's New. -/
def rNew (n : Int) : RM := if n < 1 then ⟨true, [], [], [], [], 0⟩ else ⟨false, List.replicate n.toNat zB, List.replicate n.toNat zB, [], [], -1⟩
theorem rel_new {n : Nat} (h1 : 1 ≤ n) (h2 : n ≤ 65536) : RelO (some (dvNew n)) (rNew n) := by
  unfold rNew
  rw [if_neg (by omega)]
  exact ⟨⟨rfl, rfl, rfl, rfl, rfl, fun h => (by cases h), fun _ => rfl⟩, ⟨by simpa [dvNew] using h1, by simpa [dvNew] using h2, by simp [dvNew], Nat.zero_le _, fun x hx => by simp [dvNew] at hx⟩⟩
theorem zero_f {k : Nat} : mapmakerref54_zero.f (k + 65) = some zB := by
  have h := pad_l0 64 ⟨#[]⟩ (by decide) rfl
  have hp : padB ⟨#[]⟩ = zB := by decide
  have mono : ∀ k, mapmakerref54_pad.f (k + 65) ⟨#[]⟩ = some zB := by
    intro k
    induction k with
    | zero => rw [← hp]; exact h
    | succ k ih => exact mapmakerref54_pad.mono _ _ _ ih
  unfold mapmakerref54_zero.f
  rw [mono k]
  rfl
theorem new_l0 (x0 : Nat) (hx : x0 ≤ 65536) : ∀ (d : Nat) (i : Nat), i + d = x0 → mapmakerref54_New.l0 (d + 66) x0 (List.replicate i zB) i = some (false, List.replicate x0 zB, List.replicate x0 zB, [], [], -1)
  | 0, i, h => by
    rw [mapmakerref54_New.l0, if_neg (by omega), show i = x0 by omega]
  | d + 1, i, h => by
    rw [show d + 1 + 66 = (d + 66) + 1 from rfl, mapmakerref54_New.l0, if_pos (by omega), show d + 66 = (d + 1) + 65 from rfl, zero_f, Option.bind_some, if_pos (by rw [List.length_replicate]; omega)]
    rw [show wrap64 ((i : Int) + 1) = ((i + 1 : Nat) : Int) from by unfold wrap64; omega, ← List.replicate_succ', show d + 1 + 65 = d + 66 from rfl]
    exact new_l0 x0 hx d (i + 1) (by omega)
theorem ref_New {w : World} (n : Int) (hn : n ≤ 65536) : Calls Try.prog 13 #[.int .i64 n] w (RPost w (fun k => w.heap.size ≤ k) (rNew n)) := by
  have hf : ∃ k, mapmakerref54_New.f k n = some ((rNew n).nil, (rNew n).bl, (rNew n).fi, (rNew n).at_, (rNew n).pu, (rNew n).left) := by
    unfold rNew
    by_cases c : n < 1
    · rw [if_pos c]
      refine ⟨1, ?_⟩
      unfold mapmakerref54_New.f
      rw [if_pos c, mapmakerref54_New.j0, if_pos rfl]
    · rw [if_neg c]
      obtain ⟨m, rfl⟩ : ∃ m : Nat, n = m := ⟨n.toNat, by omega⟩
      refine ⟨m + 67, ?_⟩
      unfold mapmakerref54_New.f
      rw [if_neg c, decide_eq_false (by omega), mapmakerref54_New.j0, if_neg (by decide)]
      exact new_l0 m (by omega) m 0 (by omega)
  obtain ⟨k, hk⟩ := hf
  refine (mapmakerref54_New.calls k n _ _ _ _ _ _ w hk).mono ?_
  rintro e w' ⟨v1, v2, v3, v4, g1, g2, g3, g4, g5, g6⟩
  exact ⟨v1, v2, v3, v4, g1, ⟨Kd.V_mono (Kd.V_lower g2 (Nat.zero_le _)) (fun k h => h.1), Kd.V_mono (Kd.V_lower g3 (Nat.zero_le _)) (fun k h => h.1), Kd.R_V g4, Kd.R_V g5⟩, g6⟩
end Go.Proofs.Ytfinlgckalbfoaa.PAll
