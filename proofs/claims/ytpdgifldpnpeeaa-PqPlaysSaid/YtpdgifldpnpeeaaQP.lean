/- The heap law, plain: lists of whole numbers, an exchange, an order with one hole. -/
import Derived.Test.YtpdgifldpnpeeaaQT
namespace Go.Proofs.Ytpdgifldpnpeeaa.PAll
open Go.RowKit Go.Proofs.YtpdgifldpnpeeaaW.PrintWords
set_option linter.unusedVariables false
set_option linter.unusedSimpArgs false

def swh (hp : List Int) (i k : Int) : List Int := (hp.set i.toNat (rd hp k)).set k.toNat (rd hp i)
def swp (hp pl : List Int) (i k : Int) : List Int := (pl.set (rd (swh hp i k) i).toNat i).set (rd (swh hp i k) k).toNat k
theorem rd_set (xs : List Int) (i : Nat) (j x : Int) (hi : i < xs.length) : rd (xs.set i x) j = if j.toNat = i then x else rd xs j := by
  unfold rd
  rw [List.getD_eq_getElem?_getD, List.getD_eq_getElem?_getD, List.getElem?_set]
  by_cases e : i = j.toNat
  · rw [if_pos e, if_pos e.symm, if_pos (by omega)]
    rfl
  · rw [if_neg e, if_neg (fun h => e h.symm)]
theorem rd_set' (xs : List Int) (i j x : Int) (h0 : 0 ≤ i) (h1 : i < xs.length) (hj : 0 ≤ j) : rd (xs.set i.toNat x) j = if j = i then x else rd xs j := by
  rw [rd_set _ _ _ _ (by omega)]
  by_cases e : j = i
  · rw [if_pos e, if_pos (by rw [e])]
  · rw [if_neg e, if_neg (by omega)]
theorem len_set (xs : List Int) (i : Nat) (x : Int) : (xs.set i x).length = xs.length := by simp
theorem swh_len (hp : List Int) (i k : Int) : (swh hp i k).length = hp.length := by simp [swh]
theorem swp_len (hp pl : List Int) (i k : Int) : (swp hp pl i k).length = pl.length := by simp [swp]
/-- The exchanged row, cell by cell. -/
theorem swh_rd {hp : List Int} {i k j : Int} (hi0 : 0 ≤ i) (hi1 : i < hp.length) (hk0 : 0 ≤ k) (hk1 : k < hp.length) (hj : 0 ≤ j) : rd (swh hp i k) j = if j = k then rd hp i else if j = i then rd hp k else rd hp j := by
  unfold swh
  rw [rd_set' _ _ _ _ hk0 (by rw [len_set]; exact hk1) hj, rd_set' _ _ _ _ hi0 hi1 hj]

/-- What the three rows tell of each other. -/
structure QI (n : Nat) (hp pl ky : List Int) : Prop where
  lp : pl.length = n
  lk : ky.length = n
  hb : ∀ j : Int, 0 ≤ j → j < hp.length → 0 ≤ rd hp j ∧ rd hp j < n ∧ rd pl (rd hp j) = j
  pb : ∀ x : Int, 0 ≤ x → x < n → rd pl x = -1 ∨ (0 ≤ rd pl x ∧ rd pl x < hp.length ∧ rd hp (rd pl x) = x)
/-- The same items are in the queue. -/
def Same (n : Nat) (pl pl2 : List Int) : Prop := ∀ x : Int, 0 ≤ x → x < n → (rd pl2 x < 0 ↔ rd pl x < 0)
theorem Same.refl (n : Nat) (pl : List Int) : Same n pl pl := fun _ _ _ => Iff.rfl
theorem Same.trans {n : Nat} {a b c : List Int} (h : Same n a b) (k : Same n b c) : Same n a c := fun x h0 h1 => (k x h0 h1).trans (h x h0 h1)

theorem swap_QI {n : Nat} {hp pl ky : List Int} {i k : Int} (h : QI n hp pl ky) (hi0 : 0 ≤ i) (hi1 : i < hp.length) (hk0 : 0 ≤ k) (hk1 : k < hp.length) : QI n (swh hp i k) (swp hp pl i k) ky ∧ Same n pl (swp hp pl i k) := by
  have hx := h.hb i hi0 hi1
  have hy := h.hb k hk0 hk1
  have e1 : rd (swh hp i k) i = if i = k then rd hp i else rd hp k := by
    rw [swh_rd hi0 hi1 hk0 hk1 hi0]
    simp
  have e1' : rd (swh hp i k) i = rd hp k := by
    rw [e1]
    by_cases c : i = k
    · rw [if_pos c, c]
    · rw [if_neg c]
  have e2 : rd (swh hp i k) k = rd hp i := by
    rw [swh_rd hi0 hi1 hk0 hk1 hk0]
    simp
  have hP : ∀ x : Int, 0 ≤ x → x < n → rd (swp hp pl i k) x = if x = rd hp i then k else if x = rd hp k then i else rd pl x := by
    intro x h0 h1
    unfold swp
    rw [e1', e2, rd_set' _ _ _ _ hx.1 (by rw [len_set, h.lp]; exact hx.2.1) h0, rd_set' _ _ _ _ hy.1 (by rw [h.lp]; exact hy.2.1) h0]
  have inj : ∀ a b : Int, 0 ≤ a → a < hp.length → 0 ≤ b → b < hp.length → rd hp a = rd hp b → a = b := by
    intro a b a0 a1 b0 b1 e
    have h1 := (h.hb a a0 a1).2.2
    have h2 := (h.hb b b0 b1).2.2
    rw [e] at h1
    exact h1.symm.trans h2
  refine ⟨⟨by rw [swp_len]; exact h.lp, h.lk, ?_, ?_⟩, ?_⟩
  · intro j j0 j1
    rw [swh_len] at j1
    have hj := h.hb j j0 j1
    rw [swh_rd hi0 hi1 hk0 hk1 j0]
    by_cases c1 : j = k
    · rw [if_pos c1]
      refine ⟨hx.1, hx.2.1, ?_⟩
      rw [hP _ hx.1 hx.2.1, if_pos rfl, c1]
    · rw [if_neg c1]
      by_cases c2 : j = i
      · rw [if_pos c2]
        refine ⟨hy.1, hy.2.1, ?_⟩
        rw [hP _ hy.1 hy.2.1, if_neg (fun e => c1 (c2.trans (inj i k hi0 hi1 hk0 hk1 e.symm))), if_pos rfl, c2]
      · rw [if_neg c2]
        refine ⟨hj.1, hj.2.1, ?_⟩
        rw [hP _ hj.1 hj.2.1, if_neg (fun e => c2 (inj _ _ j0 j1 hi0 hi1 e)), if_neg (fun e => c1 (inj _ _ j0 j1 hk0 hk1 e))]
        exact hj.2.2
  · intro x h0 h1
    rw [hP x h0 h1, swh_len]
    by_cases c1 : x = rd hp i
    · rw [if_pos c1]
      exact .inr ⟨hk0, hk1, by rw [e2, c1]⟩
    · rw [if_neg c1]
      by_cases c2 : x = rd hp k
      · rw [if_pos c2]
        exact .inr ⟨hi0, hi1, by rw [e1', c2]⟩
      · rw [if_neg c2]
        rcases h.pb x h0 h1 with g | ⟨g0, g1, g2⟩
        · exact .inl g
        · refine .inr ⟨g0, g1, ?_⟩
          rw [swh_rd hi0 hi1 hk0 hk1 g0, if_neg (fun e => c2 (by rw [← g2, e])), if_neg (fun e => c1 (by rw [← g2, e]))]
          exact g2
  · intro x h0 h1
    rw [hP x h0 h1]
    by_cases c1 : x = rd hp i
    · rw [if_pos c1, c1, hx.2.2]
      omega
    · rw [if_neg c1]
      by_cases c2 : x = rd hp k
      · rw [if_pos c2, c2, hy.2.2]
        omega
      · rw [if_neg c2]

theorem ltk_iff (ky : List Int) (a b : Int) : ltk ky a b = true ↔ rd ky a < rd ky b ∨ (rd ky a = rd ky b ∧ a < b) := by
  unfold ltk
  simp
/-- a does not come behind b. -/
def ord (ky : List Int) (a b : Int) : Prop := rd ky a < rd ky b ∨ (rd ky a = rd ky b ∧ a ≤ b)
theorem ord_of_not {ky : List Int} {a b : Int} (h : ltk ky b a = false) : ord ky a b := by
  have : ¬ (rd ky b < rd ky a ∨ (rd ky b = rd ky a ∧ b < a)) := fun h2 => by rw [(ltk_iff ky b a).2 h2] at h; cases h
  unfold ord
  omega
theorem ord_of_lt {ky : List Int} {a b : Int} (h : ltk ky a b = true) : ord ky a b := by
  have := (ltk_iff ky a b).1 h
  unfold ord
  omega
theorem ord_trans {ky : List Int} {a b c : Int} (h : ord ky a b) (k : ord ky b c) : ord ky a c := by
  unfold ord at *
  omega
theorem ltk_ord {ky : List Int} {a b c : Int} (h : ltk ky a b = true) (k : ord ky b c) : ltk ky a c = true := by
  rw [ltk_iff] at *
  unfold ord at k
  omega
theorem ord_refl (ky : List Int) (a : Int) : ord ky a a := by
  unfold ord
  omega

/-- In order but at i: there what hangs below i lies behind what is above i. -/
def Hole (hp ky : List Int) (i : Int) : Prop :=
  (∀ k : Int, 0 < k → k < hp.length → k ≠ i → (k - 1) / 2 ≠ i → ord ky (rd hp ((k - 1) / 2)) (rd hp k)) ∧
  (∀ c : Int, 0 < c → c < hp.length → (c - 1) / 2 = i → 0 < i → ord ky (rd hp ((i - 1) / 2)) (rd hp c))
def UpOk (hp ky : List Int) (i : Int) : Prop := 0 < i → ord ky (rd hp ((i - 1) / 2)) (rd hp i)
def Heap (hp ky : List Int) : Prop := ∀ k : Int, 0 < k → k < hp.length → ord ky (rd hp ((k - 1) / 2)) (rd hp k)

theorem hole_of_heap {hp ky : List Int} (h : Heap hp ky) (i : Int) (hi : i < hp.length) : Hole hp ky i :=
  ⟨fun k h0 h1 _ _ => h k h0 h1, fun c h0 h1 e hi0 => ord_trans (h i hi0 hi) (by have := h c h0 h1; rw [e] at this; exact this)⟩

theorem up_step {hp ky : List Int} {i : Int} (h : Hole hp ky i) (hi0 : 0 < i) (hi1 : i < hp.length) (hl : ltk ky (rd hp i) (rd hp ((i - 1) / 2)) = true) : Hole (swh hp i ((i - 1) / 2)) ky ((i - 1) / 2) := by
  have p0 : 0 ≤ (i - 1) / 2 := by omega
  have p1 : (i - 1) / 2 < i := by omega
  generalize hp' : (i - 1) / 2 = q at *
  have ho := ord_of_lt hl
  have sw : ∀ j, 0 ≤ j → rd (swh hp i q) j = if j = q then rd hp i else if j = i then rd hp q else rd hp j := fun j hj => swh_rd (by omega) hi1 p0 (by omega) hj
  constructor
  · intro k h0 h1 h2 h3
    rw [swh_len] at h1
    rw [sw _ (by omega), sw _ (by omega), if_neg h3, if_neg h2]
    by_cases c1 : (k - 1) / 2 = i
    · rw [if_pos c1, if_neg (by omega)]
      have h4 := h.2 k h0 h1 c1 hi0
      rw [hp'] at h4
      exact h4
    · rw [if_neg c1]
      by_cases c2 : k = i
      · rw [c2] at h3
        exact absurd hp' h3
      · rw [if_neg c2]
        exact h.1 k h0 h1 c2 c1
  · intro c h0 h1 h2 h3
    rw [swh_len] at h1
    rw [sw _ (by omega), sw _ (by omega), if_neg (by omega), if_neg (by omega), if_neg (by omega)]
    have h4 := h.1 q h3 (by omega) (by omega) (by omega)
    by_cases c1 : c = i
    · rw [if_pos c1]
      exact h4
    · rw [if_neg c1]
      have h5 := h.1 c h0 h1 c1 (by omega)
      rw [h2] at h5
      exact ord_trans h4 h5

theorem down_stop {hp ky : List Int} {i : Int} (h : Hole hp ky i) (hu : UpOk hp ky i) (hi0 : 0 ≤ i)
    (ha : 2 * i + 1 < hp.length → ord ky (rd hp i) (rd hp (2 * i + 1))) (hb : 2 * i + 2 < hp.length → ord ky (rd hp i) (rd hp (2 * i + 2))) : Heap hp ky := by
  intro k h0 h1
  by_cases c1 : k = i
  · rw [c1]
    exact hu (by omega)
  · by_cases c2 : (k - 1) / 2 = i
    · rw [c2]
      have : k = 2 * i + 1 ∨ k = 2 * i + 2 := by omega
      rcases this with e | e
      · rw [e]
        exact ha (by omega)
      · rw [e]
        exact hb (by omega)
    · exact h.1 k h0 h1 c1 c2

theorem down_step {hp ky : List Int} {i c : Int} (h : Hole hp ky i) (hu : UpOk hp ky i) (hi0 : 0 ≤ i) (hc : c < hp.length) (hcc : c = 2 * i + 1 ∨ c = 2 * i + 2) (hl : ltk ky (rd hp c) (rd hp i) = true)
    (hleast : ∀ d : Int, 0 < d → d < hp.length → (d - 1) / 2 = i → ord ky (rd hp c) (rd hp d)) : Hole (swh hp i c) ky c ∧ UpOk (swh hp i c) ky c := by
  have hpc : (c - 1) / 2 = i := by omega
  have ho := ord_of_lt hl
  have sw : ∀ j, 0 ≤ j → rd (swh hp i c) j = if j = c then rd hp i else if j = i then rd hp c else rd hp j := fun j hj => swh_rd hi0 (by omega) (by omega) hc hj
  refine ⟨⟨?_, ?_⟩, ?_⟩
  · intro k h0 h1 h2 h3
    rw [swh_len] at h1
    rw [sw _ (by omega), sw _ (by omega), if_neg h3, if_neg h2]
    by_cases c1 : k = i
    · rw [if_neg (by omega), if_pos c1, c1]
      have h4 := h.2 c (by omega) hc hpc (by omega)
      exact h4
    · rw [if_neg c1]
      by_cases c2 : (k - 1) / 2 = i
      · rw [if_pos c2]
        exact hleast k h0 h1 c2
      · rw [if_neg c2]
        exact h.1 k h0 h1 c1 c2
  · intro d h0 h1 h2 h3
    rw [swh_len] at h1
    rw [hpc, sw _ (by omega), sw _ (by omega), if_neg (by omega), if_pos rfl, if_neg (by omega), if_neg (by omega)]
    have h4 := h.1 d h0 h1 (by omega) (by omega)
    rw [h2] at h4
    exact h4
  · intro h0
    rw [hpc, sw _ (by omega), sw _ (by omega), if_neg (by omega), if_pos rfl, if_pos rfl]
    exact ho
/-- The first of a heap comes before all others. -/
theorem heap_first {hp ky : List Int} (h : Heap hp ky) : ∀ (m : Nat) (j : Int), 0 ≤ j → j < hp.length → j.toNat ≤ m → ord ky (rd hp 0) (rd hp j) := by
  intro m
  induction m with
  | zero =>
    intro j h0 h1 h2
    have : j = 0 := by omega
    rw [this]
    exact ord_refl _ _
  | succ m ih =>
    intro j h0 h1 h2
    by_cases c : j = 0
    · rw [c]
      exact ord_refl _ _
    · exact ord_trans (ih ((j - 1) / 2) (by omega) (by omega) (by omega)) (h j (by omega) h1)
end Go.Proofs.Ytpdgifldpnpeeaa.PAll
