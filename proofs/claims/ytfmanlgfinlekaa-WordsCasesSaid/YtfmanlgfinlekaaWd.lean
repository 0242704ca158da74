/- Fold: over bytes, one plain function; the program's runes and the reference's bytes come to it. -/
import Derived.Test.YtfmanlgfinlekaaBas
import Derived.Test.YtfmanlgfinlekaaPAllx1
import Derived.Test.YtfmanlgfinlekaaPAllx9
import Derived.Test.YtfmanlgfinlekaaPAllx10
namespace Go.Proofs.Ytfmanlgfinlekaa.Wd
open Go.RowKit Go.Proofs.Ytfmanlgfinlekaa.PAll Go.Proofs.YtfmanlgfinlekaaW.PrintWords Go.Proofs.YtfmanlgfinlekaaW.PrintLast Go.Proofs.YtfmanlgfinlekaaW.PrintMore Go.Proofs.Ytfmanlgfinlekaa.Bas
set_option linter.unusedVariables false

theorem byte_range (s : ByteArray) (i : Int) : 0 ≤ bt s i ∧ bt s i ≤ 255 := by
  unfold bt
  split
  · rename_i h
    have := (s[i.toNat]'h).toNat_lt
    omega
  · omega
theorem get_bt {s : ByteArray} {i : Nat} (h : i < s.size) : (s.get! i).toNat = (bt s i).toNat := by
  unfold bt
  have h2 : ((i : Int)).toNat < s.size := by omega
  rw [dif_pos h2]
  simp [ByteArray.get!, h]
  rfl
/-- The rune at a place, and its width. -/
theorem dec_cases (s : ByteArray) (i : Nat) (h : i < s.size) : ∃ c n : Nat, Utf8.decode s i = (c, n) ∧ i + n ≤ s.size ∧ (
    (bt s i < 128 ∧ (c : Int) = bt s i ∧ n = 1) ∨
    (bt s i = 195 ∧ i + 1 < s.size ∧ 128 ≤ bt s (i + 1 : Nat) ∧ bt s (i + 1 : Nat) ≤ 191 ∧ (c : Int) = bt s (i + 1 : Nat) + 64 ∧ n = 2) ∨
    (128 ≤ bt s i ∧ 128 ≤ c ∧ c ≤ 1114111 ∧ (c < 192 ∨ 255 < c) ∧ 1 ≤ n ∧ n ≤ 4 ∧ (2 ≤ n → 128 ≤ bt s (i + 1 : Nat) ∧ bt s (i + 1 : Nat) ≤ 191) ∧ (3 ≤ n → 128 ≤ bt s (i + 2 : Nat) ∧ bt s (i + 2 : Nat) ≤ 191) ∧ (4 ≤ n → 128 ≤ bt s (i + 3 : Nat) ∧ bt s (i + 3 : Nat) ≤ 191) ∧ (bt s i = 195 → ¬ (i + 1 < s.size ∧ 128 ≤ bt s (i + 1 : Nat) ∧ bt s (i + 1 : Nat) ≤ 191)))) := by
  have r0 := byte_range s i
  have r1 := byte_range s (i + 1 : Nat)
  have r2 := byte_range s (i + 2 : Nat)
  have r3 := byte_range s (i + 3 : Nat)
  have g0 : (s.get! (i + 0)).toNat = (bt s i).toNat := get_bt h
  have G1 : i + 1 < s.size → (s.get! (i + 1)).toNat = (bt s (i + 1 : Nat)).toNat := get_bt
  have G2 : i + 2 < s.size → (s.get! (i + 2)).toNat = (bt s (i + 2 : Nat)).toNat := get_bt
  have G3 : i + 3 < s.size → (s.get! (i + 3)).toNat = (bt s (i + 3 : Nat)).toNat := get_bt
  unfold Utf8.decode
  generalize bt s (i + 1 : Nat) = b1 at *
  generalize bt s (i + 2 : Nat) = b2 at *
  generalize bt s (i + 3 : Nat) = b3 at *
  generalize bt s (i : Int) = b0 at *
  obtain ⟨b0, rfl⟩ := Int.eq_ofNat_of_zero_le r0.1
  obtain ⟨b1, rfl⟩ := Int.eq_ofNat_of_zero_le r1.1
  obtain ⟨b2, rfl⟩ := Int.eq_ofNat_of_zero_le r2.1
  obtain ⟨b3, rfl⟩ := Int.eq_ofNat_of_zero_le r3.1
  have x0 := r0.2
  have x1 := r1.2
  have x2 := r2.2
  have x3 := r3.2
  clear r0 r1 r2 r3
  simp only [Int.toNat_natCast] at g0 G1 G2 G3
  simp only [g0]
  clear g0
  by_cases c0 : b0 < 128
  · exact ⟨_, _, if_pos c0, by omega, Or.inl ⟨by omega, by omega, rfl⟩⟩
  rw [if_neg c0]
  have bad : i + 1 ≤ s.size ∧ ((b0 : Int) = 195 → ¬ (i + 1 < s.size ∧ 128 ≤ (b1 : Int) ∧ (b1 : Int) ≤ 191)) → ∃ c n : Nat, (Utf8.runeError, 1) = (c, n) ∧ i + n ≤ s.size ∧ (
    ((b0 : Int) < 128 ∧ (c : Int) = b0 ∧ n = 1) ∨ ((b0 : Int) = 195 ∧ i + 1 < s.size ∧ 128 ≤ (b1 : Int) ∧ (b1 : Int) ≤ 191 ∧ (c : Int) = (b1 : Int) + 64 ∧ n = 2) ∨
    (128 ≤ (b0 : Int) ∧ 128 ≤ c ∧ c ≤ 1114111 ∧ (c < 192 ∨ 255 < c) ∧ 1 ≤ n ∧ n ≤ 4 ∧ (2 ≤ n → 128 ≤ (b1 : Int) ∧ (b1 : Int) ≤ 191) ∧ (3 ≤ n → 128 ≤ (b2 : Int) ∧ (b2 : Int) ≤ 191) ∧ (4 ≤ n → 128 ≤ (b3 : Int) ∧ (b3 : Int) ≤ 191) ∧ ((b0 : Int) = 195 → ¬ (i + 1 < s.size ∧ 128 ≤ (b1 : Int) ∧ (b1 : Int) ≤ 191)))) := fun hb =>
    ⟨_, _, rfl, by omega, Or.inr (Or.inr ⟨by omega, by decide, by decide, by decide, by omega, by omega, by omega, by omega, by omega, hb.2⟩)⟩
  by_cases s1 : i + 1 < s.size
  · have g1 := G1 s1
    simp only [g1]
    clear g1 G1
    by_cases t1 : b1 / 64 = 2
    · by_cases c1 : b0 / 32 = 6
      · rw [if_pos (by simp [s1, t1, c1])]
        generalize hC : b0 % 32 * 64 + b1 % 64 = C
        by_cases c2 : C ≥ 128
        · refine ⟨_, _, if_pos c2, by omega, ?_⟩
          by_cases c3 : (b0 : Int) = 195
          · exact Or.inr (Or.inl ⟨c3, s1, by omega, by omega, by omega, rfl⟩)
          · exact Or.inr (Or.inr ⟨by omega, by omega, by omega, by omega, by omega, by omega, by omega, by omega, by omega, by omega⟩)
        · rw [if_neg c2]
          exact bad ⟨by omega, by omega⟩
      · rw [if_neg (by simp [c1])]
        by_cases s2 : i + 2 < s.size
        · have g2 := G2 s2
          simp only [g2]
          clear g2 G2
          by_cases t2 : b2 / 64 = 2
          · by_cases c2 : b0 / 16 = 14
            · rw [if_pos (by simp [s1, t1, s2, t2, c2])]
              generalize hC : b0 % 16 * 4096 + b1 % 64 * 64 + b2 % 64 = C
              by_cases c3 : (decide (C ≥ 2048) && Utf8.valid (C : Int)) = true
              · have c4 := (Bool.and_eq_true _ _ ▸ c3 : _ ∧ _).1
                rw [decide_eq_true_eq] at c4
                exact ⟨_, _, if_pos c3, by omega, Or.inr (Or.inr ⟨by omega, by omega, by omega, by omega, by omega, by omega, by omega, by omega, by omega, by omega⟩)⟩
              · rw [if_neg c3]
                exact bad ⟨by omega, by omega⟩
            · rw [if_neg (by simp [c2])]
              by_cases s3 : i + 3 < s.size
              · have g3 := G3 s3
                simp only [g3]
                clear g3 G3
                by_cases t3 : b3 / 64 = 2
                · by_cases c3 : b0 / 8 = 30
                  · rw [if_pos (by simp [s1, t1, s2, t2, s3, t3, c3])]
                    generalize hC : b0 % 8 * 262144 + b1 % 64 * 4096 + b2 % 64 * 64 + b3 % 64 = C
                    by_cases c4 : (decide (C ≥ 65536) && Utf8.valid (C : Int)) = true
                    · have c5 := (Bool.and_eq_true _ _ ▸ c4 : _ ∧ _)
                      have v := c5.2
                      have c6 := c5.1
                      rw [decide_eq_true_eq] at c6
                      unfold Utf8.valid at v
                      simp at v
                      exact ⟨_, _, if_pos c4, by omega, Or.inr (Or.inr ⟨by omega, by omega, by omega, by omega, by omega, by omega, by omega, by omega, by omega, by omega⟩)⟩
                    · rw [if_neg c4]
                      exact bad ⟨by omega, by omega⟩
                  · rw [if_neg (by simp [c3])]
                    exact bad ⟨by omega, by omega⟩
                · rw [if_neg (by simp [t3])]
                  exact bad ⟨by omega, by omega⟩
              · rw [if_neg (by simp [s3])]
                exact bad ⟨by omega, by omega⟩
          · rw [if_neg (by simp [t2]), if_neg (by simp [t2])]
            exact bad ⟨by omega, by omega⟩
        · rw [if_neg (by simp [s2]), if_neg (by simp [s2])]
          exact bad ⟨by omega, by omega⟩
    · rw [if_neg (by simp [t1]), if_neg (by simp [t1]), if_neg (by simp [t1])]
      exact bad ⟨by omega, by omega⟩
  · rw [if_neg (by simp [s1]), if_neg (by simp [s1]), if_neg (by simp [s1])]
    exact bad ⟨by omega, by omega⟩

/-! Bytes as numbers, strings of numbers. -/
theorem bytes_ext {a b : ByteArray} (h : a.data.toList = b.data.toList) : a = b := by
  cases a
  cases b
  congr
  exact Array.toList_inj.1 h
theorem str_append (a b : List Int) : strOfNums a ++ strOfNums b = strOfNums (a ++ b) := by
  apply bytes_ext
  rw [ByteArray.data_append, Array.toList_append, strOfNums_data, strOfNums_data, strOfNums_data, List.map_append]
theorem str_bytes (s : ByteArray) : strOfNums (bytesOf s) = s := by
  apply bytes_ext
  rw [strOfNums_data, bytesOf, List.map_map]
  conv => rhs; rw [← List.map_id s.data.toList]
  apply List.map_congr_left
  intro b _
  simp
theorem len_bytes (s : ByteArray) : ((bytesOf s).length : Int) = (s.size : Int) := by rw [bytesOf_length]
theorem drop_bt {s : ByteArray} {i : Int} (h0 : 0 ≤ i) (h : i < (s.size : Int)) : (bytesOf s).drop i.toNat = bt s i :: (bytesOf s).drop (i + 1).toNat := by
  have := drop_at (l := bytesOf s) (i := i) 0 h0 (by rw [len_bytes]; exact h)
  rw [this]
  congr 1
  exact rd_bytesOf s i
theorem ext_bytes (s : ByteArray) (a b : Nat) : bytesOf (s.extract a b) = ((bytesOf s).take b).drop a := by
  unfold bytesOf
  rw [ByteArray.data_extract, Array.toList_extract]
  show List.map _ (List.take (b - a) (List.drop a s.data.toList)) = _
  rw [List.map_take, List.map_drop, List.drop_take]
theorem ext_size (s : ByteArray) {a b : Nat} (h : b ≤ s.size) : (s.extract a b).size = b - a := by
  have := bytesOf_length (s.extract a b)
  rw [ext_bytes, List.length_drop, List.length_take, bytesOf_length] at this
  omega

theorem bytes_str {xs : List Int} (h : ∀ x ∈ xs, 0 ≤ x ∧ x ≤ 255) : bytesOf (strOfNums xs) = xs := by
  unfold bytesOf
  rw [strOfNums_data, List.map_map]
  conv => rhs; rw [← List.map_id xs]
  apply List.map_congr_left
  intro x hx
  have := h x hx
  simp
  omega
theorem num_one {c : Int} (h0 : 0 ≤ c) (h : c ≤ 255) : bytesOf (strOfNums [c]) = [c] := bytes_str (fun x hx => by
  rw [List.mem_singleton.1 hx]
  exact ⟨h0, h⟩)
/-- The replacement of 195 followed by c. -/
def fw (c : Int) : List Int :=
  if c = 159 then [115, 115] else
  let d := if 160 ≤ c ∧ c ≤ 190 ∧ c ≠ 183 then c - 32 else c
  if 128 ≤ d ∧ d ≤ 133 then [97] else if d = 135 then [99] else if 136 ≤ d ∧ d ≤ 139 then [101] else if 140 ≤ d ∧ d ≤ 143 then [105] else if d = 145 then [110]
  else if 146 ≤ d ∧ d ≤ 150 ∨ d = 152 then [111] else if 153 ≤ d ∧ d ≤ 156 then [117] else []
theorem fold_tab : ∀ c : Fin 256, mapmakerref51_fold.f 10 ((c.val : Nat) : Int) = some (strOfNums (fw ((c.val : Nat) : Int))) := by decide +kernel
theorem plain_tab : ∀ c : Fin 64, words_plain.f 10 ((c.val : Nat) : Int) = some (strOfNums (fw (((c.val : Nat) : Int) + 128))) := by decide +kernel
theorem empty_tab : ∀ c : Fin 256, (strOfNums (fw ((c.val : Nat) : Int))).toList = [] ↔ fw ((c.val : Nat) : Int) = [] := by decide +kernel
theorem one_tab : ∀ c : Fin 256, ¬ (strOfNums [((c.val : Nat) : Int)]).toList = [] := by decide +kernel
theorem fold_ev {c : Int} (h0 : 0 ≤ c) (h : c ≤ 255) : Ev (fun k => mapmakerref51_fold.f k c) (strOfNums (fw c)) := by
  have := fold_tab ⟨c.toNat, by omega⟩
  simp only [show ((c.toNat : Nat) : Int) = c by omega] at this
  exact Ev.of (mapmakerref51_fold.mono _) (k := 10) this
theorem plain_ev {n : Int} (h0 : 0 ≤ n) (h : n ≤ 63) : Ev (fun k => words_plain.f k n) (strOfNums (fw (n + 128))) := by
  have := plain_tab ⟨n.toNat, by omega⟩
  simp only [show ((n.toNat : Nat) : Int) = n by omega] at this
  exact Ev.of (words_plain.mono _) (k := 10) this
theorem empty_iff {c : Int} (h0 : 0 ≤ c) (h : c ≤ 255) : (strOfNums (fw c)).toList = [] ↔ fw c = [] := by
  have := empty_tab ⟨c.toNat, by omega⟩
  simpa only [show ((c.toNat : Nat) : Int) = c by omega] using this
theorem one_ne {c : Int} (h0 : 0 ≤ c) (h : c ≤ 255) : ¬ (strOfNums [c]).toList = [] := by
  have := one_tab ⟨c.toNat, by omega⟩
  simpa only [show ((c.toNat : Nat) : Int) = c by omega] using this
theorem fw_small {c : Int} (h : fw c ≠ []) : 128 ≤ c ∧ c ≤ 191 := by
  unfold fw at h
  by_cases a : 128 ≤ c ∧ c ≤ 191
  · exact a
  · exfalso
    apply h
    rw [if_neg (by omega)]
    simp only []
    rw [if_neg (show ¬ (160 ≤ c ∧ c ≤ 190 ∧ c ≠ 183) by omega), if_neg (by omega), if_neg (by omega), if_neg (by omega), if_neg (by omega), if_neg (by omega), if_neg (by omega), if_neg (by omega)]
theorem fwb_tab : ∀ c : Fin 256, bytesOf (strOfNums (fw ((c.val : Nat) : Int))) = fw ((c.val : Nat) : Int) := by decide +kernel
theorem fw_bytes {c : Int} (h0 : 0 ≤ c) (h : c ≤ 255) : bytesOf (strOfNums (fw c)) = fw c := by
  have := fwb_tab ⟨c.toNat, by omega⟩
  simpa only [show ((c.toNat : Nat) : Int) = c by omega] using this
theorem fw_length (c : Int) : (fw c).length ≤ 2 := by
  unfold fw
  simp only []
  split
  · simp
  · generalize (if 160 ≤ c ∧ c ≤ 190 ∧ c ≠ 183 then c - 32 else c) = d
    repeat' split
    all_goals simp

/-- Fold, over the bytes. -/
def fdl : List Int → List Int
  | [] => []
  | [b] => if 65 ≤ b ∧ b ≤ 90 then [b + 32] else [b]
  | b :: c :: r => if 65 ≤ b ∧ b ≤ 90 then (b + 32) :: fdl (c :: r) else if b = 195 ∧ fw c ≠ [] then fw c ++ fdl r else b :: fdl (c :: r)
theorem fdl_cap {b : Int} (h : 65 ≤ b ∧ b ≤ 90) : ∀ r : List Int, fdl (b :: r) = (b + 32) :: fdl r
  | [] => by simp only [fdl, if_pos h]
  | c :: r => by rw [fdl, if_pos h]
theorem fdl_one {b : Int} (h : ¬ (65 ≤ b ∧ b ≤ 90)) (h2 : b ≠ 195) : ∀ r : List Int, fdl (b :: r) = b :: fdl r
  | [] => by simp only [fdl, if_neg h]
  | c :: r => by rw [fdl, if_neg h, if_neg (fun k => h2 k.1)]
theorem fdl_two {c : Int} {r : List Int} (h : fw c ≠ []) : fdl (195 :: c :: r) = fw c ++ fdl r := by rw [fdl, if_neg (by decide), if_pos ⟨rfl, h⟩]
theorem fdl_not {c : Int} {r : List Int} (h : fw c = []) : fdl (195 :: c :: r) = 195 :: fdl (c :: r) := by rw [fdl, if_neg (by decide), if_neg (fun k => k.2 h)]
theorem fdl_end : fdl [195] = [195] := by decide

/-! The reference's. -/
theorem rfold_l0 (s : ByteArray) (hs : (s.size : Int) ≤ 1000000) (n : Nat) : ∀ (i : Int) (A : List Int), 0 ≤ i → i ≤ (s.size : Int) → (s.size : Int) - i ≤ n → (A.length : Int) ≤ i →
    Ev (fun k => mapmakerref51_Fold.l0 k s (strOfNums A) i) (strOfNums (A ++ fdl ((bytesOf s).drop i.toNat))) := by
  induction n with
  | zero =>
    intro i A h0 h1 hn hA
    refine Ev_round (fun k => by rw [mapmakerref51_Fold.l0]) (Ev_neg (by omega) ?_)
    rw [drop_end (by rw [len_bytes]; omega), fdl, List.append_nil]
    exact Ev.now _
  | succ n ih =>
    intro i A h0 h1 hn hA
    by_cases hi : i < (s.size : Int)
    · have hw : wrap64 (i + 1) = i + 1 := wrap_in ⟨by omega, by omega⟩
      have hw2 : wrap64 (i + 1 + 1) = i + 2 := by rw [wrap_in ⟨by omega, by omega⟩]; omega
      have br := byte_range s i
      have hd := drop_bt h0 hi
      have ex : s.extract i.toNat (i + 1).toNat = strOfNums [bt s i] := by
        rw [← str_bytes (s.extract i.toNat (i + 1).toNat), ext_bytes]
        congr 1
        rw [List.drop_take, show (i + 1).toNat - i.toNat = 1 by omega, hd, List.take_succ_cons, List.take_zero]
      refine Ev_round (fun k => by rw [mapmakerref51_Fold.l0]) (Ev_pos hi (Ev_pos h0 ?_))
      have cap : (65 ≤ bt s i ∧ bt s i ≤ 90) → Ev (fun k => mapmakerref51_Fold.j1 k s (strOfNums A) i true) (strOfNums (A ++ fdl ((bytesOf s).drop i.toNat))) := fun hc => by
        refine Ev_round (fun k => by rw [mapmakerref51_Fold.j1]) ?_
        refine Ev_pos rfl (Ev_pos h0 (Ev_pos hi (Ev.congr (fun k => by rw [Option.bind_some]) (Ev_pos (by rw [strOfNums_size, strOfNums_size]; simp; omega) ?_))))
        rw [hw, str_append, hd, fdl_cap hc, show (bt s i + 32) % 256 = bt s i + 32 by omega]
        have := ih (i + 1) (A ++ [bt s i + 32]) (by omega) (by omega) (by omega) (by rw [List.length_append]; simp; omega)
        rwa [List.append_assoc] at this
      have plain : fdl ((bytesOf s).drop i.toNat) = bt s i :: fdl ((bytesOf s).drop (i + 1).toNat) → Ev (fun k => if i ≤ wrap64 (i + 1) then (if wrap64 (i + 1) ≤ (s.size : Int) then (if (strOfNums A).size + (s.extract i.toNat (wrap64 (i + 1)).toNat).size ≤ 9223372036854775807 then mapmakerref51_Fold.l0 k s (strOfNums A ++ s.extract i.toNat (wrap64 (i + 1)).toNat) (wrap64 (i + 1)) else none) else none) else none) (strOfNums (A ++ fdl ((bytesOf s).drop i.toNat))) := fun hp => by
        rw [hw, ex, str_append, hp]
        refine Ev_pos (by omega) (Ev_pos (by omega) (Ev_pos (by rw [strOfNums_size, strOfNums_size]; simp; omega) ?_))
        have := ih (i + 1) (A ++ [bt s i]) (by omega) (by omega) (by omega) (by rw [List.length_append]; simp; omega)
        rwa [List.append_assoc] at this
      have rest : ¬ (65 ≤ bt s i ∧ bt s i ≤ 90) → Ev (fun k => mapmakerref51_Fold.j1 k s (strOfNums A) i false) (strOfNums (A ++ fdl ((bytesOf s).drop i.toNat))) := fun hc => by
        refine Ev_round (fun k => by rw [mapmakerref51_Fold.j1]) ?_
        refine Ev_neg (by decide) (Ev_pos h0 (Ev_pos hi ?_))
        by_cases h195 : bt s i = 195
        · refine Ev_pos h195 ?_
          by_cases h2 : i + 1 < (s.size : Int)
          · have hd2 := drop_bt (show 0 ≤ i + 1 by omega) h2
            have cr := byte_range s (i + 1)
            rw [show wrap64 (i + 1) = i + 1 from hw]
            refine Ev_pos h2 (Ev_pos (by omega) (Ev.bind (fold_ev cr.1 cr.2) ?_))
            by_cases he : fw (bt s (i + 1)) = []
            · refine Ev_pos ((empty_iff cr.1 cr.2).2 he) ?_
              have := plain (by rw [hd, h195, hd2, fdl_not he])
              rwa [hw] at this
            · refine Ev_neg (fun k => he ((empty_iff cr.1 cr.2).1 k)) (Ev.bind (fold_ev cr.1 cr.2) ?_)
              have fl := fw_length (bt s (i + 1))
              refine Ev_pos (by rw [strOfNums_size, strOfNums_size]; omega) ?_
              rw [hw2, str_append, hd, h195, hd2, fdl_two he, show (i + 1 + 1).toNat = (i + 2).toNat by omega]
              have := ih (i + 2) (A ++ fw (bt s (i + 1))) (by omega) (by omega) (by omega) (by rw [List.length_append]; omega)
              rwa [List.append_assoc] at this
          · refine Ev_neg (by rw [hw]; exact h2) (plain ?_)
            rw [hd, h195, drop_end (by rw [len_bytes]; omega), fdl_end, fdl]
        · refine Ev_neg h195 (plain ?_)
          rw [hd, fdl_one hc h195]
      by_cases c1 : bt s i ≥ 65
      · refine Ev_pos c1 ?_
        by_cases c2 : bt s i ≤ 90
        · rw [decide_eq_true c2]
          exact cap ⟨c1, c2⟩
        · rw [decide_eq_false c2]
          exact rest (fun h => c2 h.2)
      · exact Ev_neg c1 (rest (fun h => c1 h.1))
    · refine Ev_round (fun k => by rw [mapmakerref51_Fold.l0]) (Ev_neg hi ?_)
      rw [drop_end (by rw [len_bytes]; omega), fdl, List.append_nil]
      exact Ev.now _
theorem rfold_ev (s : ByteArray) (hs : (s.size : Int) ≤ 1000000) : Ev (fun k => mapmakerref51_Fold.f k s) (strOfNums (fdl (bytesOf s))) := by
  refine Ev.congr (fun k => by rw [mapmakerref51_Fold.f]) ?_
  rw [show (⟨#[]⟩ : ByteArray) = strOfNums [] from rfl]
  have := rfold_l0 s hs s.size 0 [] (by omega) (by omega) (by omega) (by simp)
  simpa using this
end Go.Proofs.Ytfmanlgfinlekaa.Wd
