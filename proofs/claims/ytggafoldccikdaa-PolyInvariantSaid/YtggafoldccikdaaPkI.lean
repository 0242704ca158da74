/- An outline whose sides meet only as they should is a ring. -/
import Derived.Test.YtggafoldccikdaaPk1
import Derived.Test.YtggafoldccikdaaPoB
import Derived.Test.YtggafoldccikdaaSgM
namespace Go.Proofs.Ytggafoldccikdaa.Pk
open Go.RowKit Go.Proofs.Ytggafoldccikdaa.PAll Go.Proofs.Ytggafoldccikdaa.Bas Go.Proofs.Ytggafoldccikdaa.Sg Go.Proofs.Ytggafoldccikdaa.Po
set_option linter.unusedVariables false
set_option linter.unusedSimpArgs false

theorem on_self' {a b : S30} (ha : vd a) (hb : vd b) : on a a b ∧ on b a b := by
  have h : crS a b a = 0 ∧ crS a b b = 0 := by
    unfold crS cr
    constructor <;> grind
  unfold crS at h
  unfold on On V3
  refine ⟨⟨⟨ha, ha, hb⟩, h.1, ?_⟩, ⟨⟨hb, ha, hb⟩, h.2, ?_⟩⟩ <;> omega
def pv (s : S30) : V := ⟨s.f0, s.f1⟩
theorem pv_inj {a b : S30} (h : pv a = pv b) : a = b := by
  have h1 : a.f0 = b.f0 := congrArg V.x h
  have h2 : a.f1 = b.f1 := congrArg V.y h
  cases a
  cases b
  simp_all
theorem on_pv {o a b : S30} (ho : vd o) (ha : vd a) (hb : vd b) : On0 (sub (pv a) (pv o)) (sub (pv b) (pv o)) ↔ on o a b := by
  rw [on0_iff]
  have e : crs (sub (pv a) (pv o)) (sub (pv b) (pv o)) = crS a b o := by unfold crs sub pv crS cr; grind
  rw [e]
  unfold on On
  constructor
  · rintro ⟨h1, h2, h3, h4, h5⟩
    exact ⟨⟨ho, ha, hb⟩, h1, h2, h3, h4, h5⟩
  · rintro ⟨h0, h1, h2, h3, h4, h5⟩
    exact ⟨h1, h2, h3, h4, h5⟩
theorem opp_opp0 {x y : Int} (h : opp0 x y) : opp x y := by
  unfold opp0 at h
  unfold opp
  omega
/-- Sides that do not touch. -/
theorem rel0 {a b c d : S30} (ok : Okk a b c d) (h : rel a b c d = 0) : ∃ g, 0 < dot g (sub (pv c) (pv a)) ∧ 0 < dot g (sub (pv c) (pv b)) ∧ 0 < dot g (sub (pv d) (pv a)) ∧ 0 < dot g (sub (pv d) (pv b)) := by
  unfold rel at h
  rw [if_pos ok] at h
  by_cases x : Cross a b c d
  · rw [if_pos x] at h
    omega
  rw [if_neg x] at h
  unfold cls at h
  obtain ⟨va, vb, vc, vd', nab, ncd⟩ := ok
  have t1 : ¬ One a b c d := fun o => by
    rw [if_pos o] at h
    by_cases t : Two a b c d
    · rw [if_pos t] at h; omega
    · rw [if_neg t] at h; omega
  have self : ∀ {u v : S30}, vd u → vd v → on u u v ∧ on v u v := fun hu hv => on_self' hu hv
  refine apart (fun e => nab (pv_inj e)) (fun e => ncd (pv_inj e)) ?_ ?_ ?_ ?_ ?_
  · rw [on_pv vc va vb]
    exact fun e => t1 ⟨c, .inr (.inr (.inl rfl)), e, (self vc vd').1⟩
  · rw [on_pv vd' va vb]
    exact fun e => t1 ⟨d, .inr (.inr (.inr rfl)), e, (self vc vd').2⟩
  · rw [on_pv va vc vd']
    exact fun e => t1 ⟨a, .inl rfl, (self va vb).1, e⟩
  · rw [on_pv vb vc vd']
    exact fun e => t1 ⟨b, .inr (.inl rfl), (self va vb).2, e⟩
  · rintro ⟨h1, h2⟩
    refine x ⟨?_, ?_⟩
    · have e1 : crs (sub (pv c) (pv a)) (sub (pv c) (pv b)) = crS a b c := by unfold crs sub pv crS cr; grind
      have e2 : crs (sub (pv d) (pv a)) (sub (pv d) (pv b)) = crS a b d := by unfold crs sub pv crS cr; grind
      rw [e1, e2] at h1
      exact opp_opp0 h1
    · have e1 : crs (sub (pv c) (pv a)) (sub (pv d) (pv a)) = crS c d a := by unfold crs sub pv crS cr; grind
      have e2 : crs (sub (pv c) (pv b)) (sub (pv d) (pv b)) = crS c d b := by unfold crs sub pv crS cr; grind
      rw [e1, e2] at h2
      exact opp_opp0 h2
/-- Sides that follow one another. -/
theorem rel1 {a b c : S30} (ok : Okk a b b c) (h : rel a b b c = 1) : ∃ g, 0 < dot g (sub (pv b) (pv a)) ∧ 0 < dot g (sub (pv c) (pv b)) := by
  unfold rel at h
  rw [if_pos ok] at h
  by_cases x : Cross a b b c
  · rw [if_pos x] at h
    omega
  rw [if_neg x] at h
  unfold cls at h
  obtain ⟨va, vb, _, vc, nab, nbc⟩ := ok
  have t2 : ¬ Two a b b c := fun t => by
    rw [if_pos t] at h; omega
  have self : ∀ {u v : S30}, vd u → vd v → on u u v ∧ on v u v := fun hu hv => on_self' hu hv
  have hb : Both a b b c b := ⟨(self va vb).2, (self vb vc).1⟩
  refine joint ?_ ?_
  · rw [on_pv vc va vb]
    exact fun e => t2 ⟨b, c, .inr (.inl rfl), .inr (.inr (.inr rfl)), nbc, hb, e, (self vb vc).2⟩
  · rw [on_pv va vb vc]
    exact fun e => t2 ⟨a, b, .inl rfl, .inr (.inl rfl), nab, ⟨(self va vb).1, e⟩, hb⟩
def pts (l : List S30) (j : Nat) : V := pv (at_ l (j % l.length))
theorem mod_next (j n : Nat) : (j + 1) % n = (j % n + 1) % n := (Nat.mod_add_mod j n 1).symm
theorem pts_next {l : List S30} (j : Nat) : pts l (j + 1) = pv (nx l (j % l.length)) := by
  unfold pts
  rw [mod_next]
theorem ring_of {l : List S30} (h3 : 3 ≤ l.length) (hv : AllV l) (hd : ∀ i, i < l.length → at_ l i ≠ nx l i)
    (h1 : ∀ i j, i < l.length → j < i → (j + 1 = i ∨ i + 1 = l.length ∧ j = 0) → rel (at_ l i) (nx l i) (at_ l j) (nx l j) = 1)
    (h0 : ∀ i j, i < l.length → j < i → ¬ (j + 1 = i ∨ i + 1 = l.length ∧ j = 0) → rel (at_ l i) (nx l i) (at_ l j) (nx l j) = 0) : Ring l.length (pts l) := by
  have vat : ∀ i, i < l.length → vd (at_ l i) := fun i hi => hv _ (rd_mem hi)
  have vnx : ∀ i, i < l.length → vd (nx l i) := fun i hi => hv _ (rd_mem (next_lt hi))
  have ok : ∀ i j, i < l.length → j < l.length → Okk (at_ l i) (nx l i) (at_ l j) (nx l j) := fun i j hi hj => ⟨vat i hi, vnx i hi, vat j hj, vnx j hj, hd i hi, hd j hj⟩
  refine ⟨h3, ?_, ?_, ?_⟩
  · intro i
    unfold pts
    rw [Nat.add_mod_right]
  · intro i k hk hkn
    have hi : i % l.length < l.length := Nat.mod_lt _ (by omega)
    have e0 : rel (at_ l (i % l.length)) (nx l (i % l.length)) (at_ l ((i + k) % l.length)) (nx l ((i + k) % l.length)) = 0 := by
      by_cases c : i % l.length + k < l.length
      · have e : (i + k) % l.length = i % l.length + k := by rw [Nat.add_mod, Nat.mod_eq_of_lt (a := k) (by omega)]; exact Nat.mod_eq_of_lt c
        rw [e, rel_turn]
        exact h0 _ _ c (by omega) (by omega)
      · have e : (i + k) % l.length = i % l.length + k - l.length := by
          rw [Nat.add_mod, Nat.mod_eq_of_lt (a := k) (by omega), Nat.mod_eq_sub_mod (by omega)]
          exact Nat.mod_eq_of_lt (by omega)
        rw [e]
        exact h0 _ _ hi (by omega) (by omega)
    have g := rel0 (ok _ _ hi (Nat.mod_lt _ (by omega))) e0
    rw [← pts_next, ← pts_next] at g
    obtain ⟨g, g1, g2, g3, g4⟩ := g
    exact ⟨g, g1, g3, g2, g4⟩
  · intro i
    have hi : i % l.length < l.length := Nat.mod_lt _ (by omega)
    have e1 : rel (at_ l (i % l.length)) (nx l (i % l.length)) (nx l (i % l.length)) (nx l ((i + 1) % l.length)) = 1 := by
      show rel (at_ l (i % l.length)) (nx l (i % l.length)) (at_ l ((i % l.length + 1) % l.length)) _ = 1
      rw [← mod_next]
      by_cases c : i % l.length + 1 < l.length
      · have e : (i + 1) % l.length = i % l.length + 1 := by rw [mod_next]; exact Nat.mod_eq_of_lt c
        rw [e, rel_turn]
        exact h1 _ _ c (by omega) (.inl rfl)
      · have e : (i + 1) % l.length = 0 := by rw [mod_next, show i % l.length + 1 = l.length by omega]; exact Nat.mod_self _
        rw [e]
        exact h1 _ _ hi (by omega) (.inr ⟨by omega, rfl⟩)
    have hb := ok (i % l.length) ((i + 1) % l.length) hi (Nat.mod_lt _ (by omega))
    have en : at_ l ((i + 1) % l.length) = nx l (i % l.length) := by
      show _ = at_ l ((i % l.length + 1) % l.length)
      rw [← mod_next]
    rw [en] at hb
    have g := rel1 hb e1
    rw [← pts_next, show nx l ((i + 1) % l.length) = at_ l ((i + 2) % l.length) by
      show at_ l (((i + 1) % l.length + 1) % l.length) = _
      rw [← mod_next]] at g
    exact g
end Go.Proofs.Ytggafoldccikdaa.Pk
