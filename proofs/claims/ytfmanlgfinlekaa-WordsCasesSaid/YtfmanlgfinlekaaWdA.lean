/- Folded strings: no capital letter and no letter with a mark is left; folding them again changes nothing, and so for their words. -/
import Derived.Test.YtfmanlgfinlekaaWdT
import Derived.Test.YtfmanlgfinlekaaWdO
namespace Go.Proofs.Ytfmanlgfinlekaa.Wd
open Go.RowKit Go.Proofs.Ytfmanlgfinlekaa.PAll Go.Proofs.YtfmanlgfinlekaaW.PrintWords Go.Proofs.YtfmanlgfinlekaaW.PrintLast Go.Proofs.YtfmanlgfinlekaaW.PrintMore Go.Proofs.Ytfmanlgfinlekaa.Bas
set_option linter.unusedVariables false

/-- Nothing is left to be folded. -/
def cln : List Int → Bool
  | [] => true
  | [b] => !(decide (65 ≤ b ∧ b ≤ 90))
  | b :: c :: r => !(decide (65 ≤ b ∧ b ≤ 90)) && (!(decide (b = 195)) || (fw c).isEmpty) && cln (c :: r)
theorem cln_cons {b : Int} {M : List Int} (h : ¬ (65 ≤ b ∧ b ≤ 90)) (h2 : b = 195 → ∀ c r, M = c :: r → fw c = []) (hM : cln M = true) : cln (b :: M) = true := by
  cases M with
  | nil => simp [cln, h]
  | cons c r =>
    rw [cln, hM]
    by_cases e : b = 195
    · simp [h, h2 e c r rfl]
    · simp [h, e]
theorem cln_head {b : Int} {M : List Int} (h : cln (b :: M) = true) : ¬ (65 ≤ b ∧ b ≤ 90) ∧ (b = 195 → ∀ c r, M = c :: r → fw c = []) ∧ cln M = true := by
  cases M with
  | nil =>
    have h' : ¬ (65 ≤ b ∧ b ≤ 90) := by
      simp [cln] at h
      omega
    exact ⟨h', fun _ c r e => (by cases e), rfl⟩
  | cons c r =>
    rw [cln] at h
    simp only [Bool.and_eq_true, Bool.or_eq_true, Bool.not_eq_true', decide_eq_false_iff_not, List.isEmpty_iff] at h
    refine ⟨h.1.1, fun e c' r' e' => ?_, h.2⟩
    injection e' with e1 e2
    rw [← e1]
    rcases h.1.2 with k | k
    · exact absurd e k
    · exact k
theorem fdl_cln : ∀ {L : List Int}, cln L = true → fdl L = L
  | [], _ => by simp [fdl]
  | [b], h => by
    have := (cln_head h).1
    simp only [fdl, if_neg this]
  | b :: c :: r, h => by
    obtain ⟨h1, h2, h3⟩ := cln_head h
    rw [fdl, if_neg h1, if_neg (fun k => k.2 (h2 k.1 c r rfl)), fdl_cln h3]
theorem fw_low (c : Int) : ∀ x ∈ fw c, 97 ≤ x ∧ x ≤ 122 := by
  unfold fw
  simp only []
  split
  · decide
  · generalize (if 160 ≤ c ∧ c ≤ 190 ∧ c ≠ 183 then c - 32 else c) = d
    repeat' split
    all_goals decide
theorem fw_ascii {c : Int} (h : c < 128) : fw c = [] := by
  by_cases e : fw c = []
  · exact e
  · have := fw_small e
    omega
theorem cln_low : ∀ {A M : List Int}, (∀ x ∈ A, 97 ≤ x ∧ x ≤ 122) → cln M = true → cln (A ++ M) = true
  | [], M, _, hM => hM
  | b :: r, M, hA, hM => by
    have hb := hA b List.mem_cons_self
    exact cln_cons (by omega) (fun e => by omega) (cln_low (fun x hx => hA x (List.mem_cons_of_mem _ hx)) hM)
/-- The head of what is folded is not the second byte of a letter with a mark, if it was none. -/
theorem fdl_head {c h : Int} {r r' : List Int} (e : fdl (c :: r) = h :: r') (hc : fw c = []) : fw h = [] := by
  by_cases k : 65 ≤ c ∧ c ≤ 90
  · rw [fdl_cap k] at e
    injection e with e1
    exact fw_ascii (by omega)
  · by_cases k2 : c = 195
    · subst k2
      cases r with
      | nil =>
        rw [fdl_end] at e
        injection e with e1
        rw [← e1]
        exact hc
      | cons d r2 =>
        by_cases k3 : fw d = []
        · rw [fdl_not k3] at e
          injection e with e1
          rw [← e1]
          exact hc
        · rw [fdl_two k3] at e
          cases hd : fw d with
          | nil => exact absurd hd k3
          | cons y ys =>
            rw [hd] at e
            injection e with e1
            have := fw_low d y (by rw [hd]; exact List.mem_cons_self)
            exact fw_ascii (by omega)
    · rw [fdl_one k k2] at e
      injection e with e1
      rw [← e1]
      exact hc
theorem cln_fdl : ∀ L : List Int, cln (fdl L) = true
  | [] => by simp [fdl, cln]
  | [b] => by
    by_cases h : 65 ≤ b ∧ b ≤ 90
    · simp only [fdl, if_pos h]
      exact cln_cons (by omega) (fun e => by omega) rfl
    · simp only [fdl, if_neg h]
      exact cln_cons h (fun _ c r e => by cases e) rfl
  | b :: c :: r => by
    have h1 := cln_fdl (c :: r)
    have h2 := cln_fdl r
    rw [fdl]
    by_cases h : 65 ≤ b ∧ b ≤ 90
    · rw [if_pos h]
      exact cln_cons (by omega) (fun e => by omega) h1
    · rw [if_neg h]
      by_cases k : b = 195 ∧ fw c ≠ []
      · rw [if_pos k]
        exact cln_low (fw_low c) h2
      · rw [if_neg k]
        refine cln_cons h (fun e c' r' e' => ?_) h1
        have hc : fw c = [] := by
          by_cases z : fw c = []
          · exact z
          · exact absurd ⟨e, z⟩ k
        exact fdl_head e' hc
theorem cln_append : ∀ {A B : List Int}, cln (A ++ B) = true → cln A = true ∧ cln B = true
  | [], B, h => ⟨rfl, h⟩
  | b :: r, B, h => by
    obtain ⟨h1, h2, h3⟩ := cln_head h
    obtain ⟨a, c⟩ := cln_append h3
    exact ⟨cln_cons h1 (fun e c' r' e' => h2 e c' (r' ++ B) (by rw [e']; rfl)) a, c⟩
theorem cln_space : ∀ {A M : List Int}, cln A = true → cln M = true → (∀ c r, M = c :: r → c = 32) → cln (A ++ M) = true
  | [], M, _, hM, _ => hM
  | b :: r, M, hA, hM, hs => by
    obtain ⟨h1, h2, h3⟩ := cln_head hA
    refine cln_cons h1 (fun e c' r' e' => ?_) (cln_space h3 hM hs)
    cases r with
    | nil =>
      rw [hs c' r' e']
      exact fw_ascii (by omega)
    | cons d r2 =>
      injection e' with e1
      rw [← e1]
      exact h2 e d r2 rfl
theorem spL_cln : ∀ (L cur : List Int), cln (cur ++ L) = true → ∀ x ∈ spL cur L, cln x = true
  | [], cur, h, x, hx => by
    rw [List.append_nil] at h
    rw [spL] at hx
    split at hx
    · cases hx
    · rw [List.mem_singleton.1 hx]
      exact h
  | b :: r, cur, h, x, hx => by
    rw [spL] at hx
    have hb := (cln_append h).2
    have hr := (cln_head hb).2.2
    split at hx
    · exact spL_cln r (cur ++ [b]) (by rw [List.append_assoc]; exact h) x hx
    · split at hx
      · exact spL_cln r [] hr x hx
      · rcases List.mem_cons.1 hx with e | e
        · rw [e]
          exact (cln_append h).1
        · exact spL_cln r [] hr x e
theorem spL_len : ∀ (L cur : List Int), ∀ x ∈ spL cur L, x.length ≤ cur.length + L.length
  | [], cur, x, hx => by
    rw [spL] at hx
    split at hx
    · cases hx
    · rw [List.mem_singleton.1 hx]
      omega
  | b :: r, cur, x, hx => by
    rw [spL] at hx
    rw [List.length_cons]
    split at hx
    · have := spL_len r (cur ++ [b]) x hx
      rw [List.length_append, List.length_singleton] at this
      omega
    · split at hx
      · have := spL_len r [] x hx
        rw [List.length_nil] at this
        omega
      · rcases List.mem_cons.1 hx with e | e
        · rw [e]
          omega
        · have := spL_len r [] x e
          rw [List.length_nil] at this
          omega
theorem fdl_range : ∀ {L : List Int}, (∀ c ∈ L, 0 ≤ c ∧ c ≤ 255) → ∀ c ∈ fdl L, 0 ≤ c ∧ c ≤ 255
  | [], _, c, hc => by simp [fdl] at hc
  | [b], h, c, hc => by
    have hb := h b List.mem_cons_self
    by_cases k : 65 ≤ b ∧ b ≤ 90
    · simp only [fdl, if_pos k] at hc
      rw [List.mem_singleton.1 hc]
      omega
    · simp only [fdl, if_neg k] at hc
      rw [List.mem_singleton.1 hc]
      exact hb
  | b :: d :: r, h, c, hc => by
    have hb := h b List.mem_cons_self
    have h1 := fdl_range (L := d :: r) (fun x hx => h x (List.mem_cons_of_mem _ hx))
    have h2 := fdl_range (L := r) (fun x hx => h x (List.mem_cons_of_mem _ (List.mem_cons_of_mem _ hx)))
    rw [fdl] at hc
    split at hc
    · rcases List.mem_cons.1 hc with e | e
      · omega
      · exact h1 c e
    · split at hc
      · rcases List.mem_append.1 hc with e | e
        · have := fw_low d c e
          omega
        · exact h2 c e
      · rcases List.mem_cons.1 hc with e | e
        · rw [e]
          exact hb
        · exact h1 c e
/-- Words with a space ahead of each. -/
def cat : List (List Int) → List Int
  | [] => []
  | x :: xs => 32 :: (x ++ cat xs)
theorem cat_snoc : ∀ (xs : List (List Int)) (x : List Int), cat (xs ++ [x]) = cat xs ++ 32 :: x
  | [], x => by simp [cat]
  | y :: ys, x => by
    rw [List.cons_append, cat, cat, cat_snoc ys x, List.cons_append, List.append_assoc]
theorem cat_head (xs : List (List Int)) : ∀ c r, cat xs = c :: r → c = 32 := fun c r e => by
  cases xs with
  | nil => cases e
  | cons x xs =>
    rw [cat] at e
    injection e with e1
    exact e1.symm
theorem cln_cat : ∀ {xs : List (List Int)}, (∀ x ∈ xs, cln x = true) → cln (cat xs) = true
  | [], _ => rfl
  | x :: xs, h => by
    rw [cat]
    refine cln_cons (by omega) (fun e => by omega) (cln_space (h x List.mem_cons_self) (cln_cat (fun y hy => h y (List.mem_cons_of_mem _ hy))) (cat_head xs))
theorem spL_pre : ∀ (x cur M : List Int), (∀ c ∈ x, prt c = true) → spL cur (x ++ M) = spL (cur ++ x) M
  | [], cur, M, _ => by rw [List.nil_append, List.append_nil]
  | b :: r, cur, M, h => by
    rw [List.cons_append, spL, if_pos (h b List.mem_cons_self), spL_pre r (cur ++ [b]) M (fun c hc => h c (List.mem_cons_of_mem _ hc)), List.append_assoc]
    rfl
theorem spL_cat : ∀ (xs : List (List Int)) (cur : List Int), (∀ x ∈ xs, x ≠ [] ∧ ∀ c ∈ x, prt c = true) → spL cur (cat xs) = (if cur = [] then [] else [cur]) ++ xs
  | [], cur, _ => by rw [cat, spL, List.append_nil]
  | x :: xs, cur, h => by
    obtain ⟨h1, h2⟩ := h x List.mem_cons_self
    have next := spL_cat xs x (fun y hy => h y (List.mem_cons_of_mem _ hy))
    rw [if_neg h1] at next
    rw [cat, spL, if_neg prt_32, spL_pre x [] _ h2, List.nil_append, next]
    split <;> rfl
/-- A word that stays as it is. -/
def good (y : ByteArray) : Bool := !(bytesOf y).isEmpty && (bytesOf y).all prt && cln (bytesOf y) && decide (ex y = y) && decide (y.size ≤ 1000)
theorem longs : good (⟨#[115, 116, 114, 101, 101, 116]⟩ : ByteArray) = true ∧ good (⟨#[114, 111, 97, 100]⟩ : ByteArray) = true ∧ good (⟨#[97, 118, 101, 110, 117, 101]⟩ : ByteArray) = true ∧ good (⟨#[115, 113, 117, 97, 114, 101]⟩ : ByteArray) = true ∧ good (⟨#[110, 111, 114, 116, 104]⟩ : ByteArray) = true ∧ good (⟨#[115, 111, 117, 116, 104]⟩ : ByteArray) = true ∧ good (⟨#[101, 97, 115, 116]⟩ : ByteArray) = true ∧ good (⟨#[119, 101, 115, 116]⟩ : ByteArray) = true ∧ good (⟨#[115, 97, 105, 110, 116]⟩ : ByteArray) = true := by decide +kernel
theorem ex_good {w : ByteArray} (h1 : bytesOf w ≠ []) (h2 : ∀ c ∈ bytesOf w, prt c = true) (h3 : cln (bytesOf w) = true) (h4 : w.size ≤ 1000) : good (ex w) = true := by
  obtain ⟨l0, l1, l2, l3, l4, l5, l6, l7, l8⟩ := longs
  have self : ex w = w → good (ex w) = true := fun e => by
    rw [e]
    unfold good
    rw [h3, decide_eq_true e, decide_eq_true h4, List.all_eq_true.2 h2]
    simp [h1]
  unfold ex at self ⊢
  repeat' split
  · exact l0
  · exact l1
  · exact l2
  · exact l3
  · exact l4
  · exact l5
  · exact l6
  · exact l7
  · exact l8
  · simp only [*, if_false] at self
    exact self trivial
theorem good_iff {y : ByteArray} (h : good y = true) : bytesOf y ≠ [] ∧ (∀ c ∈ bytesOf y, prt c = true) ∧ cln (bytesOf y) = true ∧ ex y = y ∧ y.size ≤ 1000 := by
  unfold good at h
  simp only [Bool.and_eq_true, Bool.not_eq_true', List.isEmpty_eq_false_iff, List.all_eq_true, decide_eq_true_eq] at h
  exact ⟨h.1.1.1.1, h.1.1.1.2, h.1.1.2, h.1.2, h.2⟩
theorem off0_good (s : ByteArray) (hs : s.size ≤ 400) : ∀ y ∈ off0 s, good y = true := fun y hy => by
  unfold off0 off at hy
  obtain ⟨w, hw, rfl⟩ := List.mem_map.1 hy
  have hm : w ∈ spl (fold s) := List.mem_of_mem_drop (List.mem_of_mem_take hw)
  obtain ⟨x, e1, e2, e3, e4, e5⟩ := word_of hm
  have fb : bytesOf (fold s) = fdl (bytesOf s) := by
    unfold fold
    refine bytes_str (fun c hc => ?_)
    exact fdl_range byte_mem c hc
  rw [fb] at e2
  have cl := spL_cln _ [] (by rw [List.nil_append]; exact cln_fdl (bytesOf s)) x e2
  have ln := spL_len _ [] x e2
  have fl := fdl_length (bytesOf s)
  rw [bytesOf_length] at fl
  have ws : w.size = x.length := by rw [e1, strOfNums_size]
  refine ex_good (by rw [e3]; exact e4) (by rw [e3]; exact e5) (by rw [e3]; exact cl) ?_
  rw [List.length_nil] at ln
  omega
theorem fold_cln {y : ByteArray} (h : cln (bytesOf y) = true) : fold y = y := by
  unfold fold
  rw [fdl_cln h, str_bytes]
end Go.Proofs.Ytfmanlgfinlekaa.Wd
