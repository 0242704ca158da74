/- The reference's queue: its answers are those of the queue (plain). -/
import Derived.Test.YtpdgifldpnpeeaaQZ
import Derived.Test.YtpdgifldpnpeeaaPAllx2
import Derived.Test.YtpdgifldpnpeeaaPAllx4
import Derived.Test.YtpdgifldpnpeeaaPAllx6
import Derived.Test.YtpdgifldpnpeeaaPAllx7
import Derived.Test.YtpdgifldpnpeeaaPAllx8
import Derived.Test.YtpdgifldpnpeeaaPAllx9
namespace Go.Proofs.Ytpdgifldpnpeeaa.PAll
open Go.RowKit Go.Proofs.YtpdgifldpnpeeaaW.PrintWords Go.Proofs.YtpdgifldpnpeeaaW.PrintLast Go.Proofs.YtpdgifldpnpeeaaW.PrintMore
set_option linter.unusedVariables false
set_option linter.unusedSimpArgs false

structure RefI (m : List (Option Int)) (fs : List Bool) (ks : List Int) : Prop where
  lf : fs.length = m.length
  lk : ks.length = m.length
  ab : ∀ x : Int, 0 ≤ x → x < m.length → gm m x = if rdOf false fs x = true then some (rd ks x) else none
section
variable {m : List (Option Int)} {fs : List Bool} {ks : List Int}
theorem ref_has (h : RefI m fs ks) (x : Int) : mapmakerref04_has.f fs ks x = some (decide (0 ≤ x ∧ x < m.length)) := by
  unfold mapmakerref04_has.f
  rw [h.lf]
  by_cases c : 0 ≤ x
  · rw [if_pos c]
    congr 1
    rw [Bool.eq_iff_iff]
    simp [c]
  · rw [if_neg c, decide_eq_false (fun h => c h.1)]
theorem ref_new (n : Nat) : RefI (List.replicate n none) (List.replicate n false) (List.replicate n 0) := ⟨by simp, by simp, fun x x0 x1 => by
  rw [gm_rep]
  unfold rdOf
  rw [List.getD_eq_getElem?_getD, List.getElem?_replicate]
  split <;> simp⟩
theorem ref_set (h : RefI m fs ks) (x k : Int) : ∃ b m2 fs2 ks2, pq_Queue_Set.f m x k = some (b, m2) ∧ mapmakerref04_Set.f fs ks x k = some (fs2, ks2, b) ∧ RefI m2 fs2 ks2 := by
  unfold pq_Queue_Set.f mapmakerref04_Set.f
  rw [ref_has h]
  simp only [Option.bind_some]
  by_cases c : 0 ≤ x ∧ x < (m.length : Int)
  · rw [if_pos c, decide_eq_true c, if_pos rfl, if_pos c.1, if_pos (by rw [h.lf]; exact c.2), if_pos (by rw [h.lk]; exact c.2)]
    refine ⟨_, _, _, _, rfl, rfl, by simpa using h.lf, by simpa using h.lk, fun y y0 y1 => ?_⟩
    rw [List.length_set] at y1
    rw [gm_set c.1 c.2 y0, rdb_set _ _ _ _ c.1 (by rw [h.lf]; exact c.2) y0, rd_set' _ _ _ _ c.1 (by rw [h.lk]; exact c.2) y0]
    by_cases e : y = x
    · rw [if_pos e, if_pos e, if_pos e, if_pos rfl]
    · rw [if_neg e, if_neg e, if_neg e]
      exact h.ab y y0 y1
  · rw [if_neg c, decide_eq_false c, if_neg (by decide)]
    exact ⟨_, _, _, _, rfl, rfl, h⟩
theorem ref_key (h : RefI m fs ks) (x : Int) : ∃ r b, pq_Queue_Key.f m x = some (r, b) ∧ mapmakerref04_Key.f fs ks x = some (r, b) := by
  unfold pq_Queue_Key.f mapmakerref04_Key.f
  rw [ref_has h]
  simp only [Option.bind_some]
  by_cases c : 0 ≤ x ∧ x < (m.length : Int)
  · rw [if_pos c, decide_eq_true c, if_pos rfl, if_pos c.1, if_pos (by rw [h.lf]; exact c.2), h.ab x c.1 c.2]
    by_cases e : rdOf false fs x = true
    · rw [if_pos e, if_pos e, if_pos (by rw [h.lk]; exact c.2)]
      exact ⟨_, _, rfl, rfl⟩
    · rw [if_neg e, if_neg e]
      exact ⟨_, _, rfl, rfl⟩
  · rw [if_neg c, decide_eq_false c, if_neg (by decide)]
    exact ⟨_, _, rfl, rfl⟩
theorem ref_unset (h : RefI m fs ks) {x : Int} (x0 : 0 ≤ x) (x1 : x < m.length) : RefI (m.set x.toNat none) (fs.set x.toNat false) ks := by
  refine ⟨by simpa using h.lf, by simpa using h.lk, fun y y0 y1 => ?_⟩
  rw [List.length_set] at y1
  rw [gm_set x0 x1 y0, rdb_set _ _ _ _ x0 (by rw [h.lf]; exact x1) y0]
  by_cases e : y = x
  · rw [if_pos e, if_pos e, if_neg (by decide)]
  · rw [if_neg e, if_neg e]
    exact h.ab y y0 y1
theorem ref_drop (h : RefI m fs ks) (x : Int) : ∃ b m2 fs2 ks2, pq_Queue_Drop.f m x = some (b, m2) ∧ mapmakerref04_Drop.f fs ks x = some (fs2, ks2, b) ∧ RefI m2 fs2 ks2 := by
  unfold pq_Queue_Drop.f mapmakerref04_Drop.f
  rw [ref_has h]
  simp only [Option.bind_some]
  by_cases c : 0 ≤ x ∧ x < (m.length : Int)
  · rw [if_pos c, decide_eq_true c, if_pos rfl, if_pos c.1, if_pos (by rw [h.lf]; exact c.2), h.ab x c.1 c.2]
    by_cases e : rdOf false fs x = true
    · rw [if_pos e, if_pos e]
      exact ⟨_, _, _, _, rfl, rfl, ref_unset h c.1 c.2⟩
    · rw [if_neg e, if_neg e]
      exact ⟨_, _, _, _, rfl, rfl, h⟩
  · rw [if_neg c, decide_eq_false c, if_neg (by decide)]
    exact ⟨_, _, _, _, rfl, rfl, h⟩
theorem ref_len_l (h : RefI m fs ks) (hm : m.length ≤ 1048576) : ∀ (d : Nat) (k : Nat) (i : Nat) (n : Nat), m.length = i + d → d < k → n ≤ i → mapmakerref04_Len.l0 k n i fs ks = some ((n : Int) + cnt (m.drop i)) := by
  intro d
  induction d with
  | zero =>
    intro k i n hd hk hn
    obtain ⟨k, rfl⟩ : ∃ j, k = j + 1 := ⟨k - 1, by omega⟩
    rw [mapmakerref04_Len.l0, if_neg (by have := h.lf; omega), List.drop_eq_nil_of_le (by omega)]
    simp [cnt]
  | succ d ih =>
    intro k i n hd hk hn
    obtain ⟨k, rfl⟩ : ∃ j, k = j + 1 := ⟨k - 1, by omega⟩
    have hlt : i < m.length := by omega
    have hab := h.ab i (by omega) (by omega)
    have hw : wrap64 ((i : Int) + 1) = ((i + 1 : Nat) : Int) := by unfold wrap64; omega
    have hw2 : wrap64 ((n : Int) + 1) = ((n + 1 : Nat) : Int) := by unfold wrap64; omega
    have hdr : m.drop i = m.getD i none :: m.drop (i + 1) := by
      rw [List.drop_eq_getElem_cons hlt, List.getD_eq_getElem?_getD, List.getElem?_eq_getElem hlt]
      rfl
    rw [mapmakerref04_Len.l0, if_pos (by have := h.lf; omega), if_pos (by omega), hw, hw2, hdr]
    unfold gm at hab
    rw [Int.toNat_natCast] at hab
    rw [hab]
    by_cases e : rdOf false fs (i : Int) = true
    · rw [if_pos e, if_pos e, ih k (i + 1) (n + 1) (by omega) (by omega) (by omega), cnt]
      congr 1
      omega
    · rw [if_neg e, if_neg e, ih k (i + 1) n (by omega) (by omega) (by omega), cnt]
theorem ref_len (h : RefI m fs ks) (hm : m.length ≤ 1048576) : ∃ k, mapmakerref04_Len.f k fs ks = some (cnt m : Int) := by
  refine ⟨m.length + 1, ?_⟩
  unfold mapmakerref04_Len.f
  have := ref_len_l h hm m.length (m.length + 1) 0 0 (by omega) (by omega) (by omega)
  simpa using this
/-- The reference's loop picks what bestFrom picks. -/
theorem ref_pop_l (h : RefI m fs ks) (hm : m.length ≤ 1048576) : ∀ (d : Nat) (k : Nat) (i : Nat) (b bk : Int), m.length = i + d → d < k → b < i → (0 ≤ b → rd ks b = bk) → (b < 0 → b = -1) →
    ∃ b2 bk2, bestFrom (m.drop i) i b bk = (b2, bk2) ∧ mapmakerref04_Pop.l0 k b i fs ks = (if b2 < 0 then some (fs, ks, 0, 0, false) else some (fs.set b2.toNat false, ks, b2, bk2, true)) ∧ (b2 < m.length) := by
  intro d
  induction d with
  | zero =>
    intro k i b bk hd hk hb hkb hn
    obtain ⟨k, rfl⟩ : ∃ j, k = j + 1 := ⟨k - 1, by omega⟩
    refine ⟨b, bk, by rw [List.drop_eq_nil_of_le (by omega)]; rfl, ?_, by omega⟩
    rw [mapmakerref04_Pop.l0, if_neg (by have := h.lf; omega)]
    by_cases c : b < 0
    · rw [if_pos c, if_pos c]
    · rw [if_neg c, if_neg c, if_pos (by omega), if_pos (by have := h.lf; omega), if_pos (by have := h.lk; omega), hkb (by omega)]
  | succ d ih =>
    intro k i b bk hd hk hb hkb hn
    obtain ⟨k, rfl⟩ : ∃ j, k = j + 1 := ⟨k - 1, by omega⟩
    have hlt : i < m.length := by omega
    have hab := h.ab i (by omega) (by omega)
    have hw : wrap64 ((i : Int) + 1) = ((i + 1 : Nat) : Int) := by unfold wrap64; omega
    have hdr : m.drop i = m.getD i none :: m.drop (i + 1) := by
      rw [List.drop_eq_getElem_cons hlt, List.getD_eq_getElem?_getD, List.getElem?_eq_getElem hlt]
      rfl
    unfold gm at hab
    rw [Int.toNat_natCast] at hab
    rw [mapmakerref04_Pop.l0, if_pos (by have := h.lf; omega), if_pos (by omega), hw, hdr, hab]
    have hi1 : ((i : Int) + 1) = ((i + 1 : Nat) : Int) := by omega
    by_cases e : rdOf false fs (i : Int) = true
    · rw [if_pos e, if_pos e, bestFrom, hi1]
      by_cases c : b < 0
      · rw [if_pos c, if_pos (.inl c)]
        exact ih k (i + 1) i (rd ks i) (by omega) (by omega) (by omega) (fun _ => rfl) (fun h => by omega)
      · rw [if_neg c, if_pos (show (i : Int) < (ks.length : Int) by have := h.lk; omega), if_pos (show 0 ≤ b by omega), if_pos (show b < (ks.length : Int) by have := h.lk; omega), hkb (by omega)]
        by_cases c2 : rd ks (i : Int) < bk
        · rw [if_pos c2, if_pos (.inr c2)]
          exact ih k (i + 1) i (rd ks i) (by omega) (by omega) (by omega) (fun _ => rfl) (fun h => by omega)
        · rw [if_neg c2, if_neg (by omega)]
          exact ih k (i + 1) b bk (by omega) (by omega) (by omega) hkb hn
    · rw [if_neg e, if_neg e, bestFrom, hi1]
      exact ih k (i + 1) b bk (by omega) (by omega) (by omega) hkb hn
theorem ref_pop (h : RefI m fs ks) (hm : m.length ≤ 1048576) : ∃ r1 r2 r3 m2 fs2 ks2 k, pq_Queue_Pop.f m = some (r1, r2, r3, m2) ∧ mapmakerref04_Pop.f k fs ks = some (fs2, ks2, r1, r2, r3) ∧ RefI m2 fs2 ks2 := by
  obtain ⟨b2, bk2, h1, h2, h3⟩ := ref_pop_l h hm m.length (m.length + 1) 0 (-1) 0 (by omega) (by omega) (by omega) (fun h => by omega) (fun _ => rfl)
  have h1 : bestFrom m 0 (-1) 0 = (b2, bk2) := by simpa using h1
  have h2 : mapmakerref04_Pop.f (m.length + 1) fs ks = _ := h2
  by_cases c : b2 < 0
  · rw [if_pos c] at h2
    refine ⟨0, 0, false, m, fs, ks, _, ?_, h2, h⟩
    unfold pq_Queue_Pop.f
    rw [h1, if_pos c]
  · rw [if_neg c] at h2
    refine ⟨b2, bk2, true, m.set b2.toNat none, _, ks, _, ?_, h2, ref_unset h (by omega) h3⟩
    unfold pq_Queue_Pop.f
    rw [h1, if_neg c]
end
end Go.Proofs.Ytpdgifldpnpeeaa.PAll
