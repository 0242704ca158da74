/- Point, and the reference's. -/
import Derived.Test.YtffpomipmnlnjaaHiR
namespace Go.Proofs.Ytffpomipmnlnjaa.Hi
open Go.RowKit Go.Proofs.Ytffpomipmnlnjaa.PAll Go.Proofs.YtffpomipmnlnjaaW.PrintWords Go.Proofs.YtffpomipmnlnjaaW.PrintLast Go.Proofs.YtffpomipmnlnjaaW.PrintMore Go.Proofs.Ytffpomipmnlnjaa.Bas
set_option linter.unusedVariables false
set_option linter.unusedSimpArgs false

theorem hp_next (i : Int) (j : Nat) : hp (j + 1) (i % 4 ^ (j + 1)) =
    if i / 4 ^ j % 4 = 0 then ((hp j (i % 4 ^ j)).2, (hp j (i % 4 ^ j)).1)
    else (if i / 4 ^ j % 4 = 1 then ((hp j (i % 4 ^ j)).1, (hp j (i % 4 ^ j)).2 + 2 ^ j)
    else (if i / 4 ^ j % 4 = 2 then ((hp j (i % 4 ^ j)).1 + 2 ^ j, (hp j (i % 4 ^ j)).2 + 2 ^ j)
    else (2 * 2 ^ j - 1 - (hp j (i % 4 ^ j)).2, 2 ^ j - 1 - (hp j (i % 4 ^ j)).1))) := by
  obtain ⟨d1, d2⟩ := digits (i := i) (p4 j)
  rw [hp, s4, d1, d2]
theorem div_next (i : Int) (j : Nat) : i / 4 ^ j / 4 = i / 4 ^ (j + 1) := by
  rw [Int.pow_succ]
  have := p4 j
  rw [Int.ediv_ediv, if_neg (fun h => by omega), Int.sub_zero]
theorem Point_l0 {i : Int} (h0 : 0 ≤ i) (h1 : i < 1073741824) (d : Nat) : ∀ j : Nat, j + d = 15 →
    Ev (fun k => hilbert_Point.l0 k (i / 4 ^ j) (hp j (i % 4 ^ j)).1 (hp j (i % 4 ^ j)).2 (2 ^ j)) (hp 15 i) ∧
    Ev (fun k => mapmakerref10_Point.l0 k (2 ^ j) (i / 4 ^ j) ((j : Int) + 1) (hp j (i % 4 ^ j)).1 (hp j (i % 4 ^ j)).2) (hp 15 i) := by
  induction d with
  | zero =>
    intro j e
    have : j = 15 := by omega
    subst this
    rw [Int.emod_eq_of_lt h0 (by rw [show (4 : Int) ^ 15 = 1073741824 by decide]; exact h1)]
    exact ⟨Ev_round (fun k => by rw [hilbert_Point.l0]) (Ev_neg (by decide) (Ev.now _)), Ev_round (fun k => by rw [mapmakerref10_Point.l0]) (Ev_neg (by decide) (Ev.now _))⟩
  | succ d ih =>
    intro j e
    have jb : (j : Int) + 1 ≤ 15 := by omega
    have g := p4 j
    have a := p2 j
    have b := two_le (j + 1) (by omega)
    have nn := hp_next i j
    have dn := div_next i j
    have q0 := Int.ediv_nonneg h0 (show (0 : Int) ≤ 4 ^ j by omega)
    have q1 : i / 4 ^ j ≤ i := Int.ediv_le_self _ h0
    have ib := h1
    have sq := hp_bd j (i % 4 ^ j)
    obtain ⟨i1, i2⟩ := ih (j + 1) (by omega)
    unfold Sq at sq
    rw [← dn, nn, s2] at i1 i2
    rw [s2] at b
    generalize hp j (i % 4 ^ j) = P at *
    generalize i / 4 ^ j = Q at *
    generalize (2 : Int) ^ j = H at *
    have wq : wrap64 (Int.tdiv Q 4) = Q / 4 := by rw [tdiv_nn q0, wrap_in ⟨by omega, by omega⟩]
    have w0 : wrap64 (H * 2) = 2 * H := by rw [wrap_in ⟨by omega, by omega⟩]; omega
    have w1 : wrap64 (2 * H) = 2 * H := wrap_in ⟨by omega, by omega⟩
    have w2 : wrap64 (2 * H - 1) = 2 * H - 1 := wrap_in ⟨by omega, by omega⟩
    have w3 : wrap64 (H - 1) = H - 1 := wrap_in ⟨by omega, by omega⟩
    have w4 : wrap64 (P.1 + H) = P.1 + H := wrap_in ⟨by omega, by omega⟩
    have w5 : wrap64 (P.2 + H) = P.2 + H := wrap_in ⟨by omega, by omega⟩
    have w6 : wrap64 (2 * H - 1 - P.2) = 2 * H - 1 - P.2 := wrap_in ⟨by omega, by omega⟩
    have w7 : wrap64 (H - 1 - P.1) = H - 1 - P.1 := wrap_in ⟨by omega, by omega⟩
    have w8 : wrap64 ((j : Int) + 1 + 1) = ((j + 1 : Nat) : Int) + 1 := by rw [wrap_in ⟨by omega, by omega⟩]; omega
    have tm : Int.tmod Q 4 = Q % 4 := tmod_nn q0
    constructor
    · refine Ev_round (fun k => by rw [hilbert_Point.l0]) (Ev_pos (by omega) ?_)
      rw [tm, wq, w0, w1, w2, w3, w4, w5, w6, w7]
      by_cases c0 : Q % 4 = 0
      · rw [if_pos c0] at i1
        exact Ev_pos c0 i1
      · refine Ev_neg c0 ?_
        rw [if_neg c0] at i1
        by_cases c1 : Q % 4 = 1
        · rw [if_pos c1] at i1
          exact Ev_pos c1 i1
        · refine Ev_neg c1 ?_
          rw [if_neg c1] at i1
          by_cases c2 : Q % 4 = 2
          · rw [if_pos c2] at i1
            exact Ev_pos c2 i1
          · rw [if_neg c2] at i1
            exact Ev_neg c2 (Ev_pos (by omega) i1)
    · refine Ev_round (fun k => by rw [mapmakerref10_Point.l0]) (Ev_pos jb ?_)
      rw [tm, wq, w1, w2, w3, w4, w5, w6, w7, w8]
      by_cases c0 : Q % 4 = 0
      · rw [if_pos c0] at i2
        exact Ev_pos c0 i2
      · refine Ev_neg c0 ?_
        rw [if_neg c0] at i2
        by_cases c1 : Q % 4 = 1
        · rw [if_pos c1] at i2
          exact Ev_pos c1 i2
        · refine Ev_neg c1 ?_
          rw [if_neg c1] at i2
          by_cases c2 : Q % 4 = 2
          · rw [if_pos c2] at i2
            exact Ev_pos c2 i2
          · rw [if_neg c2] at i2
            exact Ev_neg c2 i2
def pnt (i : Int) : Int × Int := if 0 ≤ i ∧ i < 1073741824 then hp 15 i else (-1, -1)
theorem Point_both (i : Int) : Ev (fun k => hilbert_Point.f k i) (pnt i) ∧ Ev (fun k => mapmakerref10_Point.f k i) (pnt i) := by
  unfold pnt
  by_cases c : 0 ≤ i ∧ i < 1073741824
  · rw [if_pos c]
    obtain ⟨p1, p2⟩ := Point_l0 c.1 c.2 15 0 (by omega)
    have e1 : i / 4 ^ 0 = i := Int.ediv_one i
    rw [e1] at p1 p2
    have p1 : Ev (fun k => hilbert_Point.l0 k i 0 0 1) (hp 15 i) := p1
    have p2 : Ev (fun k => mapmakerref10_Point.l0 k 1 i 1 0 0) (hp 15 i) := p2
    refine ⟨Ev.congr (fun k => by rw [hilbert_Point.f]) (Ev_neg (by omega) (Ev_round (fun k => by rw [hilbert_Point.j0]) (Ev_neg (show ¬ decide (i ≥ 1073741824) = true by simp; omega) p1))), Ev.congr (fun k => by rw [mapmakerref10_Point.f]) (Ev_neg (by omega) (Ev_round (fun k => by rw [mapmakerref10_Point.j0]) (Ev_neg (show ¬ decide (i ≥ 1073741824) = true by simp; omega) p2)))⟩
  · rw [if_neg c]
    have j1 : ∀ t : Bool, t = true → Ev (fun k => hilbert_Point.j0 k i t) (-1, -1) := fun t ht => Ev_round (fun k => by rw [hilbert_Point.j0]) (Ev_pos ht (Ev.now _))
    have j2 : ∀ t : Bool, t = true → Ev (fun k => mapmakerref10_Point.j0 k i t) (-1, -1) := fun t ht => Ev_round (fun k => by rw [mapmakerref10_Point.j0]) (Ev_pos ht (Ev.now _))
    by_cases n : i < 0
    · exact ⟨Ev.congr (fun k => by rw [hilbert_Point.f]) (Ev_pos n (j1 _ rfl)), Ev.congr (fun k => by rw [mapmakerref10_Point.f]) (Ev_pos n (j2 _ rfl))⟩
    · exact ⟨Ev.congr (fun k => by rw [hilbert_Point.f]) (Ev_neg n (j1 _ (by simp; omega))), Ev.congr (fun k => by rw [mapmakerref10_Point.f]) (Ev_neg n (j2 _ (by simp; omega)))⟩
end Go.Proofs.Ytffpomipmnlnjaa.Hi
