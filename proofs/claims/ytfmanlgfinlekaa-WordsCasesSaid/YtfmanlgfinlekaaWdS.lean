/- Split, the program's and the reference's: the same words. Same holds of a list and itself. -/
import Derived.Test.YtfmanlgfinlekaaBas
import Derived.Test.YtfmanlgfinlekaaPAllx4
import Derived.Test.YtfmanlgfinlekaaPAllx5
import Derived.Test.YtfmanlgfinlekaaPAllx11
import Derived.Test.YtfmanlgfinlekaaPAllx12
import Derived.Test.YtfmanlgfinlekaaPAllx3
namespace Go.Proofs.Ytfmanlgfinlekaa.Wd
open Go.RowKit Go.Proofs.Ytfmanlgfinlekaa.PAll Go.Proofs.YtfmanlgfinlekaaW.PrintWords Go.Proofs.YtfmanlgfinlekaaW.PrintLast Go.Proofs.YtfmanlgfinlekaaW.PrintMore Go.Proofs.Ytfmanlgfinlekaa.Bas
set_option linter.unusedVariables false

/-- A byte of a word. -/
def prt (c : Int) : Bool := decide ((97 ≤ c ∧ c ≤ 122) ∨ (65 ≤ c ∧ c ≤ 90) ∨ (48 ≤ c ∧ c ≤ 57) ∨ 128 ≤ c)
theorem part_eq (c : Int) : words_part.f c = some (prt c) := by
  unfold words_part.f prt
  repeat' split
  all_goals (apply congrArg some; rw [Bool.eq_iff_iff]; simp; omega)
theorem rpart_eq (c : Int) : mapmakerref51_part.f c = some (prt c) := by
  unfold mapmakerref51_part.f prt
  repeat' split
  all_goals (apply congrArg some; rw [Bool.eq_iff_iff]; simp; omega)
/-- The words, from a place on, of which the last one begins at fr. -/
def sp (s : ByteArray) : Nat → Int → Int → List ByteArray
  | 0, _, _ => []
  | n + 1, fr, i => if i < (s.size : Int) ∧ prt (bt s i) = true then sp s n fr (i + 1) else (if fr < i then s.extract fr.toNat i.toNat :: sp s n (i + 1) (i + 1) else sp s n (i + 1) (i + 1))
theorem sp_length (s : ByteArray) : ∀ (n : Nat) (fr i : Int), (sp s n fr i).length ≤ n
  | 0, _, _ => Nat.le_refl _
  | n + 1, fr, i => by
    rw [sp]
    have a := sp_length s n fr (i + 1)
    have b := sp_length s n (i + 1) (i + 1)
    repeat' split
    · omega
    · rw [List.length_cons]
      omega
    · omega
theorem psplit_l0 (s : ByteArray) (hs : (s.size : Int) ≤ 1000000) (n : Nat) : ∀ (i fr : Int) (out : List ByteArray), 0 ≤ i → (s.size : Int) + 1 - i = n → 0 ≤ fr → (out.length : Int) ≤ i →
    Ev (fun k => words_Split.l0 k s out fr ((s.size : Int) + 1) i) (out ++ sp s n fr i) := by
  induction n with
  | zero =>
    intro i fr out h0 hn hf ho
    refine Ev_round (fun k => by rw [words_Split.l0]) ?_
    refine Ev_neg (by omega) ?_
    rw [sp, List.append_nil]
    exact Ev.now _
  | succ n ih =>
    intro i fr out h0 hn hf ho
    have cut : ¬ (i < (s.size : Int) ∧ prt (bt s i) = true) → Ev (fun k => words_Split.j1 k s out fr i ((s.size : Int) + 1) i false) (out ++ sp s (n + 1) fr i) := fun hc => by
      refine Ev_round (fun k => by rw [words_Split.j1, wrap_in (x := i + 1) ⟨by omega, by omega⟩]) ?_
      refine Ev_neg Bool.false_ne_true ?_
      rw [sp, if_neg hc]
      by_cases c : fr < i
      · rw [if_pos c]
        refine Ev_pos c (Ev_pos hf (Ev_pos (by omega) (Ev_pos (by omega) (Ev_pos (by omega) ?_))))
        have := ih (i + 1) (i + 1) (out ++ [s.extract fr.toNat i.toNat]) (by omega) (by omega) (by omega) (by rw [List.length_append]; simp; omega)
        rwa [List.append_assoc] at this
      · rw [if_neg c]
        exact Ev_neg c (ih (i + 1) (i + 1) out (by omega) (by omega) (by omega) (by omega))
    refine Ev_round (fun k => by rw [words_Split.l0]) ?_
    refine Ev_pos (by omega) ?_
    by_cases hi : i < (s.size : Int)
    · refine Ev_pos hi (Ev_pos h0 (Ev.congr (fun k => by rw [part_eq, Option.bind_some]) ?_))
      by_cases hp : prt (bt s i) = true
      · rw [hp]
        refine Ev_round (fun k => by rw [words_Split.j1, wrap_in (x := i + 1) ⟨by omega, by omega⟩]) ?_
        refine Ev_pos rfl ?_
        rw [sp, if_pos ⟨hi, hp⟩]
        exact ih (i + 1) fr out (by omega) (by omega) hf (by omega)
      · rw [Bool.eq_false_iff.2 hp]
        exact cut (fun h => hp h.2)
    · exact Ev_neg hi (cut (fun h => hi h.1))
/-- Split. -/
def spl (s : ByteArray) : List ByteArray := sp s (s.size + 1) 0 0
theorem psplit_ev (s : ByteArray) (hs : (s.size : Int) ≤ 1000000) : Ev (fun k => words_Split.f k s) (spl s) := by
  refine Ev.congr (fun k => by rw [words_Split.f, wrap_in (x := (s.size : Int) + 1) ⟨by omega, by omega⟩]) ?_
  have := psplit_l0 s hs (s.size + 1) 0 0 [] (by omega) (by omega) (by omega) (by simp)
  simpa [spl] using this
theorem rsplit_l0 (s : ByteArray) (hs : (s.size : Int) ≤ 1000000) (n : Nat) : ∀ (i fr : Int) (out : List ByteArray), 0 ≤ i → (s.size : Int) + 1 - i = n → 0 ≤ fr → (out.length : Int) ≤ i →
    Ev (fun k => mapmakerref51_Split.l0 k s out fr i) (out ++ sp s n fr i) := by
  induction n with
  | zero =>
    intro i fr out h0 hn hf ho
    refine Ev_round (fun k => by rw [mapmakerref51_Split.l0]) ?_
    refine Ev_neg (by omega) ?_
    rw [sp, List.append_nil]
    exact Ev.now _
  | succ n ih =>
    intro i fr out h0 hn hf ho
    have cut : ¬ (i < (s.size : Int) ∧ prt (bt s i) = true) → Ev (fun k => mapmakerref51_Split.j1 k s out fr i false) (out ++ sp s (n + 1) fr i) := fun hc => by
      refine Ev_round (fun k => by rw [mapmakerref51_Split.j1, wrap_in (x := i + 1) ⟨by omega, by omega⟩]) ?_
      refine Ev_neg Bool.false_ne_true ?_
      rw [sp, if_neg hc]
      by_cases c : fr < i
      · rw [if_pos c]
        refine Ev_pos c (Ev_pos hf (Ev_pos (by omega) (Ev_pos (by omega) (Ev_pos (by omega) ?_))))
        have := ih (i + 1) (i + 1) (out ++ [s.extract fr.toNat i.toNat]) (by omega) (by omega) (by omega) (by rw [List.length_append]; simp; omega)
        rwa [List.append_assoc] at this
      · rw [if_neg c]
        exact Ev_neg c (ih (i + 1) (i + 1) out (by omega) (by omega) (by omega) (by omega))
    refine Ev_round (fun k => by rw [mapmakerref51_Split.l0]) ?_
    refine Ev_pos (by omega) ?_
    by_cases hi : i < (s.size : Int)
    · refine Ev_pos hi (Ev_pos h0 (Ev.congr (fun k => by rw [rpart_eq, Option.bind_some]) ?_))
      by_cases hp : prt (bt s i) = true
      · rw [hp]
        refine Ev_round (fun k => by rw [mapmakerref51_Split.j1, wrap_in (x := i + 1) ⟨by omega, by omega⟩]) ?_
        refine Ev_pos rfl ?_
        rw [sp, if_pos ⟨hi, hp⟩]
        exact ih (i + 1) fr out (by omega) (by omega) hf (by omega)
      · rw [Bool.eq_false_iff.2 hp]
        exact cut (fun h => hp h.2)
    · exact Ev_neg hi (cut (fun h => hi h.1))
theorem rsplit_ev (s : ByteArray) (hs : (s.size : Int) ≤ 1000000) : Ev (fun k => mapmakerref51_Split.f k s) (spl s) := by
  refine Ev.congr (fun k => by rw [mapmakerref51_Split.f]) ?_
  have := rsplit_l0 s hs (s.size + 1) 0 0 [] (by omega) (by omega) (by omega) (by simp)
  simpa [spl] using this
theorem same_l0 (l : List ByteArray) (hl : (l.length : Int) ≤ 2000000) (n : Nat) : ∀ (i : Int), 0 ≤ i → (l.length : Int) - i = n → Ev (fun k => mapmakerref51_Same.l0 k l l i) true := by
  induction n with
  | zero =>
    intro i h0 hn
    refine Ev_round (fun k => by rw [mapmakerref51_Same.l0]) ?_
    refine Ev_neg (by omega) ?_
    exact Ev.now _
  | succ n ih =>
    intro i h0 hn
    refine Ev_round (fun k => by rw [mapmakerref51_Same.l0, wrap_in (x := i + 1) ⟨by omega, by omega⟩]) ?_
    exact Ev_pos (by omega) (Ev_pos h0 (Ev_pos (by omega) (Ev_pos rfl (ih (i + 1) (by omega) (by omega)))))
theorem same_ev (l : List ByteArray) (hl : (l.length : Int) ≤ 2000000) : Ev (fun k => mapmakerref51_Same.f k l l) true :=
  Ev.congr (fun k => by rw [mapmakerref51_Same.f]) (Ev_pos rfl (same_l0 l hl l.length 0 (by omega) (by omega)))
end Go.Proofs.Ytfmanlgfinlekaa.Wd
