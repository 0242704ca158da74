/- Expand and Of, the program's and the reference's: the same words. -/
import Derived.Test.YtfmanlgfinlekaaWdP
import Derived.Test.YtfmanlgfinlekaaWdS
import Derived.Test.YtfmanlgfinlekaaPAllx6
import Derived.Test.YtfmanlgfinlekaaPAllx14
import Derived.Test.YtfmanlgfinlekaaPAllx7
import Derived.Test.YtfmanlgfinlekaaPAllx15
namespace Go.Proofs.Ytfmanlgfinlekaa.Wd
open Go.RowKit Go.Proofs.Ytfmanlgfinlekaa.PAll Go.Proofs.YtfmanlgfinlekaaW.PrintWords Go.Proofs.YtfmanlgfinlekaaW.PrintLast Go.Proofs.YtfmanlgfinlekaaW.PrintMore Go.Proofs.Ytfmanlgfinlekaa.Bas
set_option linter.unusedVariables false

/-- Expand. -/
def ex (w : ByteArray) : ByteArray := if ([115, 116] : List UInt8) = w.toList then (⟨#[115, 116, 114, 101, 101, 116]⟩ : ByteArray) else if ([114, 100] : List UInt8) = w.toList then (⟨#[114, 111, 97, 100]⟩ : ByteArray) else if ([97, 118, 101] : List UInt8) = w.toList then (⟨#[97, 118, 101, 110, 117, 101]⟩ : ByteArray) else if ([115, 113] : List UInt8) = w.toList then (⟨#[115, 113, 117, 97, 114, 101]⟩ : ByteArray) else if ([110] : List UInt8) = w.toList then (⟨#[110, 111, 114, 116, 104]⟩ : ByteArray) else if ([115] : List UInt8) = w.toList then (⟨#[115, 111, 117, 116, 104]⟩ : ByteArray) else if ([101] : List UInt8) = w.toList then (⟨#[101, 97, 115, 116]⟩ : ByteArray) else if ([119] : List UInt8) = w.toList then (⟨#[119, 101, 115, 116]⟩ : ByteArray) else if ([115, 116, 101] : List UInt8) = w.toList then (⟨#[115, 97, 105, 110, 116]⟩ : ByteArray) else w
theorem pexpand_eq (w : ByteArray) : words_Expand.f w = some (ex w) := by
  unfold words_Expand.f ex
  repeat' split
  all_goals rfl
theorem sh0 : (rdOf ByteArray.empty ([(⟨#[115, 116]⟩ : ByteArray), (⟨#[114, 100]⟩ : ByteArray), (⟨#[97, 118, 101]⟩ : ByteArray), (⟨#[115, 113]⟩ : ByteArray), (⟨#[110]⟩ : ByteArray), (⟨#[115]⟩ : ByteArray), (⟨#[101]⟩ : ByteArray), (⟨#[119]⟩ : ByteArray), (⟨#[115, 116, 101]⟩ : ByteArray)] : List ByteArray) 0).toList = [115, 116] := by decide +kernel
theorem lo0 : rdOf ByteArray.empty ([(⟨#[115, 116, 114, 101, 101, 116]⟩ : ByteArray), (⟨#[114, 111, 97, 100]⟩ : ByteArray), (⟨#[97, 118, 101, 110, 117, 101]⟩ : ByteArray), (⟨#[115, 113, 117, 97, 114, 101]⟩ : ByteArray), (⟨#[110, 111, 114, 116, 104]⟩ : ByteArray), (⟨#[115, 111, 117, 116, 104]⟩ : ByteArray), (⟨#[101, 97, 115, 116]⟩ : ByteArray), (⟨#[119, 101, 115, 116]⟩ : ByteArray), (⟨#[115, 97, 105, 110, 116]⟩ : ByteArray)] : List ByteArray) 0 = (⟨#[115, 116, 114, 101, 101, 116]⟩ : ByteArray) := by decide +kernel
theorem sh1 : (rdOf ByteArray.empty ([(⟨#[115, 116]⟩ : ByteArray), (⟨#[114, 100]⟩ : ByteArray), (⟨#[97, 118, 101]⟩ : ByteArray), (⟨#[115, 113]⟩ : ByteArray), (⟨#[110]⟩ : ByteArray), (⟨#[115]⟩ : ByteArray), (⟨#[101]⟩ : ByteArray), (⟨#[119]⟩ : ByteArray), (⟨#[115, 116, 101]⟩ : ByteArray)] : List ByteArray) 1).toList = [114, 100] := by decide +kernel
theorem lo1 : rdOf ByteArray.empty ([(⟨#[115, 116, 114, 101, 101, 116]⟩ : ByteArray), (⟨#[114, 111, 97, 100]⟩ : ByteArray), (⟨#[97, 118, 101, 110, 117, 101]⟩ : ByteArray), (⟨#[115, 113, 117, 97, 114, 101]⟩ : ByteArray), (⟨#[110, 111, 114, 116, 104]⟩ : ByteArray), (⟨#[115, 111, 117, 116, 104]⟩ : ByteArray), (⟨#[101, 97, 115, 116]⟩ : ByteArray), (⟨#[119, 101, 115, 116]⟩ : ByteArray), (⟨#[115, 97, 105, 110, 116]⟩ : ByteArray)] : List ByteArray) 1 = (⟨#[114, 111, 97, 100]⟩ : ByteArray) := by decide +kernel
theorem sh2 : (rdOf ByteArray.empty ([(⟨#[115, 116]⟩ : ByteArray), (⟨#[114, 100]⟩ : ByteArray), (⟨#[97, 118, 101]⟩ : ByteArray), (⟨#[115, 113]⟩ : ByteArray), (⟨#[110]⟩ : ByteArray), (⟨#[115]⟩ : ByteArray), (⟨#[101]⟩ : ByteArray), (⟨#[119]⟩ : ByteArray), (⟨#[115, 116, 101]⟩ : ByteArray)] : List ByteArray) 2).toList = [97, 118, 101] := by decide +kernel
theorem lo2 : rdOf ByteArray.empty ([(⟨#[115, 116, 114, 101, 101, 116]⟩ : ByteArray), (⟨#[114, 111, 97, 100]⟩ : ByteArray), (⟨#[97, 118, 101, 110, 117, 101]⟩ : ByteArray), (⟨#[115, 113, 117, 97, 114, 101]⟩ : ByteArray), (⟨#[110, 111, 114, 116, 104]⟩ : ByteArray), (⟨#[115, 111, 117, 116, 104]⟩ : ByteArray), (⟨#[101, 97, 115, 116]⟩ : ByteArray), (⟨#[119, 101, 115, 116]⟩ : ByteArray), (⟨#[115, 97, 105, 110, 116]⟩ : ByteArray)] : List ByteArray) 2 = (⟨#[97, 118, 101, 110, 117, 101]⟩ : ByteArray) := by decide +kernel
theorem sh3 : (rdOf ByteArray.empty ([(⟨#[115, 116]⟩ : ByteArray), (⟨#[114, 100]⟩ : ByteArray), (⟨#[97, 118, 101]⟩ : ByteArray), (⟨#[115, 113]⟩ : ByteArray), (⟨#[110]⟩ : ByteArray), (⟨#[115]⟩ : ByteArray), (⟨#[101]⟩ : ByteArray), (⟨#[119]⟩ : ByteArray), (⟨#[115, 116, 101]⟩ : ByteArray)] : List ByteArray) 3).toList = [115, 113] := by decide +kernel
theorem lo3 : rdOf ByteArray.empty ([(⟨#[115, 116, 114, 101, 101, 116]⟩ : ByteArray), (⟨#[114, 111, 97, 100]⟩ : ByteArray), (⟨#[97, 118, 101, 110, 117, 101]⟩ : ByteArray), (⟨#[115, 113, 117, 97, 114, 101]⟩ : ByteArray), (⟨#[110, 111, 114, 116, 104]⟩ : ByteArray), (⟨#[115, 111, 117, 116, 104]⟩ : ByteArray), (⟨#[101, 97, 115, 116]⟩ : ByteArray), (⟨#[119, 101, 115, 116]⟩ : ByteArray), (⟨#[115, 97, 105, 110, 116]⟩ : ByteArray)] : List ByteArray) 3 = (⟨#[115, 113, 117, 97, 114, 101]⟩ : ByteArray) := by decide +kernel
theorem sh4 : (rdOf ByteArray.empty ([(⟨#[115, 116]⟩ : ByteArray), (⟨#[114, 100]⟩ : ByteArray), (⟨#[97, 118, 101]⟩ : ByteArray), (⟨#[115, 113]⟩ : ByteArray), (⟨#[110]⟩ : ByteArray), (⟨#[115]⟩ : ByteArray), (⟨#[101]⟩ : ByteArray), (⟨#[119]⟩ : ByteArray), (⟨#[115, 116, 101]⟩ : ByteArray)] : List ByteArray) 4).toList = [110] := by decide +kernel
theorem lo4 : rdOf ByteArray.empty ([(⟨#[115, 116, 114, 101, 101, 116]⟩ : ByteArray), (⟨#[114, 111, 97, 100]⟩ : ByteArray), (⟨#[97, 118, 101, 110, 117, 101]⟩ : ByteArray), (⟨#[115, 113, 117, 97, 114, 101]⟩ : ByteArray), (⟨#[110, 111, 114, 116, 104]⟩ : ByteArray), (⟨#[115, 111, 117, 116, 104]⟩ : ByteArray), (⟨#[101, 97, 115, 116]⟩ : ByteArray), (⟨#[119, 101, 115, 116]⟩ : ByteArray), (⟨#[115, 97, 105, 110, 116]⟩ : ByteArray)] : List ByteArray) 4 = (⟨#[110, 111, 114, 116, 104]⟩ : ByteArray) := by decide +kernel
theorem sh5 : (rdOf ByteArray.empty ([(⟨#[115, 116]⟩ : ByteArray), (⟨#[114, 100]⟩ : ByteArray), (⟨#[97, 118, 101]⟩ : ByteArray), (⟨#[115, 113]⟩ : ByteArray), (⟨#[110]⟩ : ByteArray), (⟨#[115]⟩ : ByteArray), (⟨#[101]⟩ : ByteArray), (⟨#[119]⟩ : ByteArray), (⟨#[115, 116, 101]⟩ : ByteArray)] : List ByteArray) 5).toList = [115] := by decide +kernel
theorem lo5 : rdOf ByteArray.empty ([(⟨#[115, 116, 114, 101, 101, 116]⟩ : ByteArray), (⟨#[114, 111, 97, 100]⟩ : ByteArray), (⟨#[97, 118, 101, 110, 117, 101]⟩ : ByteArray), (⟨#[115, 113, 117, 97, 114, 101]⟩ : ByteArray), (⟨#[110, 111, 114, 116, 104]⟩ : ByteArray), (⟨#[115, 111, 117, 116, 104]⟩ : ByteArray), (⟨#[101, 97, 115, 116]⟩ : ByteArray), (⟨#[119, 101, 115, 116]⟩ : ByteArray), (⟨#[115, 97, 105, 110, 116]⟩ : ByteArray)] : List ByteArray) 5 = (⟨#[115, 111, 117, 116, 104]⟩ : ByteArray) := by decide +kernel
theorem sh6 : (rdOf ByteArray.empty ([(⟨#[115, 116]⟩ : ByteArray), (⟨#[114, 100]⟩ : ByteArray), (⟨#[97, 118, 101]⟩ : ByteArray), (⟨#[115, 113]⟩ : ByteArray), (⟨#[110]⟩ : ByteArray), (⟨#[115]⟩ : ByteArray), (⟨#[101]⟩ : ByteArray), (⟨#[119]⟩ : ByteArray), (⟨#[115, 116, 101]⟩ : ByteArray)] : List ByteArray) 6).toList = [101] := by decide +kernel
theorem lo6 : rdOf ByteArray.empty ([(⟨#[115, 116, 114, 101, 101, 116]⟩ : ByteArray), (⟨#[114, 111, 97, 100]⟩ : ByteArray), (⟨#[97, 118, 101, 110, 117, 101]⟩ : ByteArray), (⟨#[115, 113, 117, 97, 114, 101]⟩ : ByteArray), (⟨#[110, 111, 114, 116, 104]⟩ : ByteArray), (⟨#[115, 111, 117, 116, 104]⟩ : ByteArray), (⟨#[101, 97, 115, 116]⟩ : ByteArray), (⟨#[119, 101, 115, 116]⟩ : ByteArray), (⟨#[115, 97, 105, 110, 116]⟩ : ByteArray)] : List ByteArray) 6 = (⟨#[101, 97, 115, 116]⟩ : ByteArray) := by decide +kernel
theorem sh7 : (rdOf ByteArray.empty ([(⟨#[115, 116]⟩ : ByteArray), (⟨#[114, 100]⟩ : ByteArray), (⟨#[97, 118, 101]⟩ : ByteArray), (⟨#[115, 113]⟩ : ByteArray), (⟨#[110]⟩ : ByteArray), (⟨#[115]⟩ : ByteArray), (⟨#[101]⟩ : ByteArray), (⟨#[119]⟩ : ByteArray), (⟨#[115, 116, 101]⟩ : ByteArray)] : List ByteArray) 7).toList = [119] := by decide +kernel
theorem lo7 : rdOf ByteArray.empty ([(⟨#[115, 116, 114, 101, 101, 116]⟩ : ByteArray), (⟨#[114, 111, 97, 100]⟩ : ByteArray), (⟨#[97, 118, 101, 110, 117, 101]⟩ : ByteArray), (⟨#[115, 113, 117, 97, 114, 101]⟩ : ByteArray), (⟨#[110, 111, 114, 116, 104]⟩ : ByteArray), (⟨#[115, 111, 117, 116, 104]⟩ : ByteArray), (⟨#[101, 97, 115, 116]⟩ : ByteArray), (⟨#[119, 101, 115, 116]⟩ : ByteArray), (⟨#[115, 97, 105, 110, 116]⟩ : ByteArray)] : List ByteArray) 7 = (⟨#[119, 101, 115, 116]⟩ : ByteArray) := by decide +kernel
theorem sh8 : (rdOf ByteArray.empty ([(⟨#[115, 116]⟩ : ByteArray), (⟨#[114, 100]⟩ : ByteArray), (⟨#[97, 118, 101]⟩ : ByteArray), (⟨#[115, 113]⟩ : ByteArray), (⟨#[110]⟩ : ByteArray), (⟨#[115]⟩ : ByteArray), (⟨#[101]⟩ : ByteArray), (⟨#[119]⟩ : ByteArray), (⟨#[115, 116, 101]⟩ : ByteArray)] : List ByteArray) 8).toList = [115, 116, 101] := by decide +kernel
theorem lo8 : rdOf ByteArray.empty ([(⟨#[115, 116, 114, 101, 101, 116]⟩ : ByteArray), (⟨#[114, 111, 97, 100]⟩ : ByteArray), (⟨#[97, 118, 101, 110, 117, 101]⟩ : ByteArray), (⟨#[115, 113, 117, 97, 114, 101]⟩ : ByteArray), (⟨#[110, 111, 114, 116, 104]⟩ : ByteArray), (⟨#[115, 111, 117, 116, 104]⟩ : ByteArray), (⟨#[101, 97, 115, 116]⟩ : ByteArray), (⟨#[119, 101, 115, 116]⟩ : ByteArray), (⟨#[115, 97, 105, 110, 116]⟩ : ByteArray)] : List ByteArray) 8 = (⟨#[115, 97, 105, 110, 116]⟩ : ByteArray) := by decide +kernel
theorem rexpand_ev (w : ByteArray) : Ev (fun k => mapmakerref51_Expand.f k w) (ex w) := by
  refine Ev.congr (fun k => by rw [mapmakerref51_Expand.f]) ?_
  unfold ex
  refine Ev_round (fun k => by rw [mapmakerref51_Expand.l0, sh0, lo0, show wrap64 (0 + 1) = 1 by decide +kernel]) ?_
  refine Ev_pos (by simp) (Ev_pos (by decide) ?_)
  by_cases c0 : ([115, 116] : List UInt8) = w.toList
  · rw [if_pos c0]
    refine Ev_pos c0 (Ev_pos (by simp) ?_)
    exact Ev.now _
  rw [if_neg c0]
  refine Ev_neg c0 ?_
  refine Ev_round (fun k => by rw [mapmakerref51_Expand.l0, sh1, lo1, show wrap64 (1 + 1) = 2 by decide +kernel]) ?_
  refine Ev_pos (by simp) (Ev_pos (by decide) ?_)
  by_cases c1 : ([114, 100] : List UInt8) = w.toList
  · rw [if_pos c1]
    refine Ev_pos c1 (Ev_pos (by simp) ?_)
    exact Ev.now _
  rw [if_neg c1]
  refine Ev_neg c1 ?_
  refine Ev_round (fun k => by rw [mapmakerref51_Expand.l0, sh2, lo2, show wrap64 (2 + 1) = 3 by decide +kernel]) ?_
  refine Ev_pos (by simp) (Ev_pos (by decide) ?_)
  by_cases c2 : ([97, 118, 101] : List UInt8) = w.toList
  · rw [if_pos c2]
    refine Ev_pos c2 (Ev_pos (by simp) ?_)
    exact Ev.now _
  rw [if_neg c2]
  refine Ev_neg c2 ?_
  refine Ev_round (fun k => by rw [mapmakerref51_Expand.l0, sh3, lo3, show wrap64 (3 + 1) = 4 by decide +kernel]) ?_
  refine Ev_pos (by simp) (Ev_pos (by decide) ?_)
  by_cases c3 : ([115, 113] : List UInt8) = w.toList
  · rw [if_pos c3]
    refine Ev_pos c3 (Ev_pos (by simp) ?_)
    exact Ev.now _
  rw [if_neg c3]
  refine Ev_neg c3 ?_
  refine Ev_round (fun k => by rw [mapmakerref51_Expand.l0, sh4, lo4, show wrap64 (4 + 1) = 5 by decide +kernel]) ?_
  refine Ev_pos (by simp) (Ev_pos (by decide) ?_)
  by_cases c4 : ([110] : List UInt8) = w.toList
  · rw [if_pos c4]
    refine Ev_pos c4 (Ev_pos (by simp) ?_)
    exact Ev.now _
  rw [if_neg c4]
  refine Ev_neg c4 ?_
  refine Ev_round (fun k => by rw [mapmakerref51_Expand.l0, sh5, lo5, show wrap64 (5 + 1) = 6 by decide +kernel]) ?_
  refine Ev_pos (by simp) (Ev_pos (by decide) ?_)
  by_cases c5 : ([115] : List UInt8) = w.toList
  · rw [if_pos c5]
    refine Ev_pos c5 (Ev_pos (by simp) ?_)
    exact Ev.now _
  rw [if_neg c5]
  refine Ev_neg c5 ?_
  refine Ev_round (fun k => by rw [mapmakerref51_Expand.l0, sh6, lo6, show wrap64 (6 + 1) = 7 by decide +kernel]) ?_
  refine Ev_pos (by simp) (Ev_pos (by decide) ?_)
  by_cases c6 : ([101] : List UInt8) = w.toList
  · rw [if_pos c6]
    refine Ev_pos c6 (Ev_pos (by simp) ?_)
    exact Ev.now _
  rw [if_neg c6]
  refine Ev_neg c6 ?_
  refine Ev_round (fun k => by rw [mapmakerref51_Expand.l0, sh7, lo7, show wrap64 (7 + 1) = 8 by decide +kernel]) ?_
  refine Ev_pos (by simp) (Ev_pos (by decide) ?_)
  by_cases c7 : ([119] : List UInt8) = w.toList
  · rw [if_pos c7]
    refine Ev_pos c7 (Ev_pos (by simp) ?_)
    exact Ev.now _
  rw [if_neg c7]
  refine Ev_neg c7 ?_
  refine Ev_round (fun k => by rw [mapmakerref51_Expand.l0, sh8, lo8, show wrap64 (8 + 1) = 9 by decide +kernel]) ?_
  refine Ev_pos (by simp) (Ev_pos (by decide) ?_)
  by_cases c8 : ([115, 116, 101] : List UInt8) = w.toList
  · rw [if_pos c8]
    refine Ev_pos c8 (Ev_pos (by simp) ?_)
    exact Ev.now _
  rw [if_neg c8]
  refine Ev_neg c8 ?_
  refine Ev_round (fun k => by rw [mapmakerref51_Expand.l0]) ?_
  refine Ev_neg (by simp) ?_
  exact Ev.now _
theorem rdOf_drop {l : List ByteArray} {i : Int} (h0 : 0 ≤ i) (h1 : i < (l.length : Int)) : l.drop i.toNat = rdOf ByteArray.empty l i :: l.drop (i + 1).toNat := drop_at ByteArray.empty h0 h1
/-- The words of words. -/
def off (l : List ByteArray) (i : Int) : List ByteArray := ((l.drop i.toNat).take (16 - i).toNat).map ex
theorem off_cons {l : List ByteArray} {i : Int} (h0 : 0 ≤ i) (h1 : i < (l.length : Int)) (h2 : i < 16) : off l i = ex (rdOf ByteArray.empty l i) :: off l (i + 1) := by
  unfold off
  rw [rdOf_drop h0 h1, show (16 - i).toNat = (16 - (i + 1)).toNat + 1 by omega, List.take_succ_cons, List.map_cons]
theorem pof_l0 (l : List ByteArray) (hl : (l.length : Int) ≤ 2000000) (n : Nat) : ∀ (i : Int) (out : List ByteArray), 0 ≤ i → i ≤ (l.length : Int) → (l.length : Int) - i = n → i ≤ 16 → (out.length : Int) = i →
    Ev (fun k => words_Of.l0 k out l (l.length : Int) i) (out ++ off l i) := by
  induction n with
  | zero =>
    intro i out h0 h1 hn h16 ho
    refine Ev_round (fun k => by rw [words_Of.l0]) ?_
    refine Ev_neg (by omega) ?_
    unfold off
    rw [drop_end (by omega), List.take_nil, List.map_nil, List.append_nil]
    exact Ev.now _
  | succ n ih =>
    intro i out h0 h1 hn h16 ho
    refine Ev_round (fun k => by rw [words_Of.l0, pexpand_eq, Option.bind_some, wrap_in (x := i + 1) ⟨by omega, by omega⟩]) ?_
    refine Ev_pos (by omega) (Ev_pos h0 (Ev_pos (by omega) ?_))
    by_cases c : (out.length : Int) = 16
    · refine Ev_pos c ?_
      have : (16 - i).toNat = 0 := by omega
      unfold off
      rw [this, List.take_zero, List.map_nil, List.append_nil]
      exact Ev.now _
    · refine Ev_neg c (Ev_pos (by omega) ?_)
      rw [off_cons h0 (by omega) (by omega)]
      have := ih (i + 1) (out ++ [ex (rdOf ByteArray.empty l i)]) (by omega) (by omega) (by omega) (by omega) (by rw [List.length_append]; simp; omega)
      rwa [List.append_assoc] at this
theorem rof_l0 (l : List ByteArray) (hl : (l.length : Int) ≤ 2000000) (n : Nat) : ∀ (i : Int) (out : List ByteArray), 0 ≤ i → i ≤ (l.length : Int) → (l.length : Int) - i = n → i ≤ 16 → (out.length : Int) = i →
    Ev (fun k => mapmakerref51_Of.l0 k l out i) (out ++ off l i) := by
  induction n with
  | zero =>
    intro i out h0 h1 hn h16 ho
    refine Ev_round (fun k => by rw [mapmakerref51_Of.l0]) ?_
    refine Ev_neg (by omega) ?_
    unfold off
    rw [drop_end (by omega), List.take_nil, List.map_nil, List.append_nil]
    exact Ev.now _
  | succ n ih =>
    intro i out h0 h1 hn h16 ho
    refine Ev_round (fun k => by rw [mapmakerref51_Of.l0, wrap_in (x := i + 1) ⟨by omega, by omega⟩]) ?_
    refine Ev_pos (by omega) ?_
    by_cases c : i < 16
    · refine Ev_pos c (Ev_pos h0 (Ev.bind (rexpand_ev _) ?_))
      refine Ev_pos (by omega) ?_
      rw [off_cons h0 (by omega) c]
      have := ih (i + 1) (out ++ [ex (rdOf ByteArray.empty l i)]) (by omega) (by omega) (by omega) (by omega) (by rw [List.length_append]; simp; omega)
      rwa [List.append_assoc] at this
    · refine Ev_neg c ?_
      have : (16 - i).toNat = 0 := by omega
      unfold off
      rw [this, List.take_zero, List.map_nil, List.append_nil]
      exact Ev.now _
theorem fdl_length : ∀ l : List Int, (fdl l).length ≤ l.length
  | [] => by simp [fdl]
  | [b] => by
    rw [fdl]
    split <;> simp
  | b :: c :: r => by
    have h1 := fdl_length (c :: r)
    have h2 := fdl_length r
    have h3 := fw_length c
    rw [fdl]
    simp only [List.length_cons] at h1 ⊢
    split
    · rw [List.length_cons]
      omega
    · split
      · rw [List.length_append]
        omega
      · rw [List.length_cons]
        omega
/-- Fold. -/
def fold (s : ByteArray) : ByteArray := strOfNums (fdl (bytesOf s))
theorem fold_size (s : ByteArray) : (fold s).size ≤ s.size := by
  unfold fold
  rw [strOfNums_size]
  have := fdl_length (bytesOf s)
  rwa [bytesOf_length] at this
theorem spl_length (s : ByteArray) : (spl s).length ≤ s.size + 1 := sp_length s _ _ _
/-- Of. -/
def off0 (s : ByteArray) : List ByteArray := off (spl (fold s)) 0
theorem pof_ev (s : ByteArray) (hs : (s.size : Int) ≤ 1000000) : Ev (fun k => words_Of.f k s) (off0 s) := by
  have a := fold_size s
  have b := spl_length (fold s)
  refine Ev.congr (fun k => by rw [words_Of.f]) (Ev.bind (pfold_ev s hs) (Ev.bind (psplit_ev (fold s) (by omega)) ?_))
  have := pof_l0 (spl (fold s)) (by omega) (spl (fold s)).length 0 [] (by omega) (by omega) (by omega) (by omega) (by simp)
  simpa [off0] using this
theorem rof_ev (s : ByteArray) (hs : (s.size : Int) ≤ 1000000) : Ev (fun k => mapmakerref51_Of.f k s) (off0 s) := by
  have a := fold_size s
  have b := spl_length (fold s)
  refine Ev.congr (fun k => by rw [mapmakerref51_Of.f]) (Ev.bind (rfold_ev s hs) (Ev.bind (rsplit_ev (fold s) (by omega)) ?_))
  have := rof_l0 (spl (fold s)) (by omega) (spl (fold s)).length 0 [] (by omega) (by omega) (by omega) (by omega) (by simp)
  simpa [off0] using this
theorem off0_length (s : ByteArray) : (off0 s).length ≤ 16 := by
  unfold off0 off
  rw [List.length_map, List.length_take]
  omega
end Go.Proofs.Ytfmanlgfinlekaa.Wd
