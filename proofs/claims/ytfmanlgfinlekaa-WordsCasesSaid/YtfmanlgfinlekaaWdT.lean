/- Words as lists of numbers: what Split tells, of one list after another. -/
import Derived.Test.YtfmanlgfinlekaaWdP
import Derived.Test.YtfmanlgfinlekaaWdS
namespace Go.Proofs.Ytfmanlgfinlekaa.Wd
open Go.RowKit Go.Proofs.Ytfmanlgfinlekaa.PAll Go.Proofs.YtfmanlgfinlekaaW.PrintWords Go.Proofs.YtfmanlgfinlekaaW.PrintLast Go.Proofs.YtfmanlgfinlekaaW.PrintMore Go.Proofs.Ytfmanlgfinlekaa.Bas
set_option linter.unusedVariables false

/-- The words of a list, of which the last one has so far the numbers cur. -/
def spL : List Int → List Int → List (List Int)
  | cur, [] => if cur = [] then [] else [cur]
  | cur, b :: r => if prt b = true then spL (cur ++ [b]) r else (if cur = [] then spL [] r else cur :: spL [] r)
theorem sp_eq (s : ByteArray) : ∀ (n : Nat) (fr i : Int), 0 ≤ fr → fr ≤ i → i ≤ (s.size : Int) → (s.size : Int) + 1 - i = n →
    sp s n fr i = (spL (((bytesOf s).take i.toNat).drop fr.toNat) ((bytesOf s).drop i.toNat)).map strOfNums
  | 0, fr, i, _, _, h2, hn => by omega
  | n + 1, fr, i, h0, h1, h2, hn => by
    have hex : s.extract fr.toNat i.toNat = strOfNums (((bytesOf s).take i.toNat).drop fr.toNat) := by
      rw [← ext_bytes, str_bytes]
    have hcur : ((bytesOf s).take i.toNat).drop fr.toNat = [] ↔ ¬ fr < i := by
      rw [← List.length_eq_zero_iff, List.length_drop, List.length_take, bytesOf_length]
      omega
    rw [sp]
    by_cases hi : i < (s.size : Int)
    · rw [drop_bt (by omega) hi, spL]
      by_cases hp : prt (bt s i) = true
      · rw [if_pos ⟨hi, hp⟩, if_pos hp, sp_eq s n fr (i + 1) h0 (by omega) (by omega) (by omega), take_drop_bt h0 h1 hi]
      · have next := sp_eq s n (i + 1) (i + 1) (by omega) (by omega) (by omega) (by omega)
        rw [self_nil] at next
        rw [if_neg (fun h => hp h.2), if_neg hp, next]
        by_cases c : fr < i
        · rw [if_pos c, if_neg (fun h => hcur.1 h c), List.map_cons, hex]
        · rw [if_neg c, if_pos (hcur.2 c)]
    · have hz : n = 0 := by omega
      subst hz
      rw [if_neg (fun h => hi h.1), drop_end (l := bytesOf s) (i := i) (by rw [len_bytes]; omega), spL, sp]
      by_cases c : fr < i
      · rw [if_pos c, if_neg (fun h => hcur.1 h c), hex]
        rfl
      · rw [if_neg c, if_pos (hcur.2 c)]
        rfl
theorem spl_eq (s : ByteArray) : spl s = (spL [] (bytesOf s)).map strOfNums := by
  unfold spl
  rw [sp_eq s (s.size + 1) 0 0 (by omega) (by omega) (by omega) (by omega)]
  rfl
theorem spL_words : ∀ (L cur : List Int), (∀ c ∈ cur, prt c = true) → ∀ x ∈ spL cur L, x ≠ [] ∧ ∀ c ∈ x, prt c = true
  | [], cur, hc, x, hx => by
    rw [spL] at hx
    by_cases h : cur = []
    · rw [if_pos h] at hx
      cases hx
    · rw [if_neg h] at hx
      rw [List.mem_singleton.1 hx]
      exact ⟨h, hc⟩
  | b :: r, cur, hc, x, hx => by
    rw [spL] at hx
    have nil : ∀ c ∈ ([] : List Int), prt c = true := fun c h => by cases h
    by_cases hp : prt b = true
    · rw [if_pos hp] at hx
      exact spL_words r _ (fun c h => by
        rcases List.mem_append.1 h with h | h
        · exact hc c h
        · rw [List.mem_singleton.1 h]
          exact hp) x hx
    · rw [if_neg hp] at hx
      by_cases h : cur = []
      · rw [if_pos h] at hx
        exact spL_words r [] nil x hx
      · rw [if_neg h] at hx
        rcases List.mem_cons.1 hx with e | e
        · rw [e]
          exact ⟨h, hc⟩
        · exact spL_words r [] nil x e
theorem spL_mem : ∀ (L cur : List Int), ∀ x ∈ spL cur L, ∀ c ∈ x, c ∈ cur ∨ c ∈ L
  | [], cur, x, hx, c, hc => by
    rw [spL] at hx
    split at hx
    · cases hx
    · rw [List.mem_singleton.1 hx] at hc
      exact Or.inl hc
  | b :: r, cur, x, hx, c, hc => by
    rw [spL] at hx
    have nil : c ∈ ([] : List Int) ∨ c ∈ r → c ∈ cur ∨ c ∈ b :: r := fun h => by
      rcases h with h | h
      · cases h
      · exact Or.inr (List.mem_cons_of_mem _ h)
    split at hx
    · rcases spL_mem r _ x hx c hc with h | h
      · rcases List.mem_append.1 h with h | h
        · exact Or.inl h
        · rw [List.mem_singleton.1 h]
          exact Or.inr List.mem_cons_self
      · exact Or.inr (List.mem_cons_of_mem _ h)
    · split at hx
      · exact nil (spL_mem r [] x hx c hc)
      · rcases List.mem_cons.1 hx with e | e
        · rw [e] at hc
          exact Or.inl hc
        · exact nil (spL_mem r [] x e c hc)
theorem spL_one : ∀ (x cur : List Int), (∀ c ∈ x, prt c = true) → cur ++ x ≠ [] → spL cur x = [cur ++ x]
  | [], cur, _, h => by
    rw [List.append_nil] at h ⊢
    rw [spL, if_neg h]
  | b :: r, cur, hx, h => by
    rw [spL, if_pos (hx b List.mem_cons_self), spL_one r (cur ++ [b]) (fun c hc => hx c (List.mem_cons_of_mem _ hc)) (by simp), List.append_assoc]
    rfl
theorem prt_32 : ¬ prt 32 = true := by decide
theorem spL_append : ∀ (A cur B : List Int), spL cur (A ++ 32 :: B) = spL cur A ++ spL [] B
  | [], cur, B => by
    rw [List.nil_append, show spL cur (32 :: B) = (if cur = [] then spL [] B else cur :: spL [] B) by rw [spL, if_neg prt_32], spL]
    split <;> rfl
  | b :: r, cur, B => by
    rw [List.cons_append, spL, spL]
    split
    · exact spL_append r _ B
    · split
      · exact spL_append r [] B
      · rw [spL_append r [] B, List.cons_append]
theorem spL_sum : ∀ (L cur : List Int), ((spL cur L).map List.length).sum ≤ cur.length + L.length
  | [], cur => by
    rw [spL]
    split <;> simp
  | b :: r, cur => by
    have h1 := spL_sum r (cur ++ [b])
    have h2 := spL_sum r []
    rw [List.length_append] at h1
    rw [spL]
    simp only [List.length_cons, List.length_nil] at *
    split
    · omega
    · split
      · omega
      · rw [List.map_cons, List.sum_cons]
        omega
theorem byte_mem {s : ByteArray} : ∀ c ∈ bytesOf s, 0 ≤ c ∧ c ≤ 255 := fun c hc => by
  unfold bytesOf at hc
  obtain ⟨b, _, rfl⟩ := List.mem_map.1 hc
  have := b.toNat_lt
  omega
theorem bytes_append (a b : ByteArray) : bytesOf (a ++ b) = bytesOf a ++ bytesOf b := by
  unfold bytesOf
  rw [ByteArray.data_append, Array.toList_append, List.map_append]
/-- A word of a string: its numbers. -/
theorem word_of {s w : ByteArray} (h : w ∈ spl s) : ∃ x, w = strOfNums x ∧ x ∈ spL [] (bytesOf s) ∧ bytesOf w = x ∧ x ≠ [] ∧ ∀ c ∈ x, prt c = true := by
  rw [spl_eq] at h
  obtain ⟨x, hx, rfl⟩ := List.mem_map.1 h
  have hw := spL_words _ _ (fun c h => by cases h) x hx
  refine ⟨x, rfl, hx, bytes_str (fun c hc => ?_), hw.1, hw.2⟩
  rcases spL_mem _ _ x hx c hc with h | h
  · cases h
  · exact byte_mem c h
theorem spl_word {w : ByteArray} (h1 : bytesOf w ≠ []) (h2 : ∀ c ∈ bytesOf w, prt c = true) : spl w = [w] := by
  rw [spl_eq, spL_one _ _ h2 (by simpa using h1), List.nil_append]
  show [strOfNums (bytesOf w)] = [w]
  rw [str_bytes]
theorem toList_loop (s : ByteArray) (n : Nat) : ∀ (i : Nat) (r : List UInt8), s.size - i = n → ByteArray.toList.loop s i r = r.reverse ++ s.data.toList.drop i := by
  induction n with
  | zero =>
    intro i r h
    rw [ByteArray.toList.loop.eq_def, if_neg (by omega), List.drop_eq_nil_of_le (by rw [Array.length_toList]; show s.size ≤ i; omega), List.append_nil]
  | succ n ih =>
    intro i r h
    have hi : i < s.size := by omega
    have hi2 : i < s.data.toList.length := by rw [Array.length_toList]; exact hi
    rw [ByteArray.toList.loop.eq_def, if_pos hi, ih (i + 1) _ (by omega), List.reverse_cons, List.append_assoc, List.drop_eq_getElem_cons hi2]
    have e : s.get! i = s.data.toList[i] := by
      simp [ByteArray.get!, getElem!_pos, hi]
    rw [e]
    rfl
theorem toList_data (s : ByteArray) : s.toList = s.data.toList := by
  unfold ByteArray.toList
  rw [toList_loop s s.size 0 [] (by omega)]
  rfl
theorem toList_ne {s : ByteArray} (h : bytesOf s ≠ []) : ¬ s.toList = [] := fun e => h (by
  rw [toList_data] at e
  unfold bytesOf
  rw [e]
  rfl)
end Go.Proofs.Ytfmanlgfinlekaa.Wd
