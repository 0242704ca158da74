/- There are at most 16 words, none of them empty, and the words of the words joined by spaces are the same ones: for any string of at most 400 bytes. -/
import Derived.Test.YtfmanlgfinlekaaWdA
import Derived.Test.YtfmanlgfinlekaaWdL
import Derived.Test.YtfmanlgfinlekaaPAllx19
namespace Go.Proofs.Ytfmanlgfinlekaa.Pure
open Go.RowKit Go.Proofs.Ytfmanlgfinlekaa.PAll Go.Proofs.YtfmanlgfinlekaaW.PrintWords Go.Proofs.YtfmanlgfinlekaaW.PrintLast Go.Proofs.YtfmanlgfinlekaaW.PrintMore Go.Proofs.Ytfmanlgfinlekaa.Bas Go.Proofs.Ytfmanlgfinlekaa.Wd
set_option linter.unusedVariables false

theorem take_rdOf {l : List ByteArray} {i : Int} (h0 : 0 ≤ i) (h1 : i < (l.length : Int)) : l.take (i + 1).toNat = l.take i.toNat ++ [rdOf ByteArray.empty l i] := take_at ByteArray.empty h0 h1
theorem again_of {l : List ByteArray} {all : ByteArray} (hl : l.length ≤ 16) (hg : ∀ y ∈ l, good y = true) (ha : bytesOf all = cat (l.map bytesOf)) : off0 all = l := by
  have hc : cln (bytesOf all) = true := by
    rw [ha]
    refine cln_cat (fun x hx => ?_)
    obtain ⟨y, hy, rfl⟩ := List.mem_map.1 hx
    exact (good_iff (hg y hy)).2.2.1
  unfold off0
  rw [fold_cln hc, spl_eq, ha, spL_cat _ _ (fun x hx => by
    obtain ⟨y, hy, rfl⟩ := List.mem_map.1 hx
    exact ⟨(good_iff (hg y hy)).1, (good_iff (hg y hy)).2.1⟩), if_pos rfl, List.nil_append, List.map_map]
  have e : l.map (strOfNums ∘ bytesOf) = l := by
    conv => rhs; rw [← List.map_id l]
    apply List.map_congr_left
    intro y _
    exact str_bytes y
  rw [e]
  unfold off
  rw [show (0 : Int).toNat = 0 from rfl, List.drop_zero, List.take_of_length_le (by omega)]
  conv => rhs; rw [← List.map_id l]
  apply List.map_congr_left
  intro y hy
  exact (good_iff (hg y hy)).2.2.2.1
theorem again_l0 (l : List ByteArray) (hl : l.length ≤ 16) (hg : ∀ y ∈ l, good y = true) (n : Nat) : ∀ (i : Int) (all : ByteArray), 0 ≤ i → (l.length : Int) - i = n → bytesOf all = cat ((l.take i.toNat).map bytesOf) → (all.size : Int) ≤ 1001 * i →
    Ev (fun k => mapmakerlaw51_WordsAgain.l0 k l all true i) true := by
  induction n with
  | zero =>
    intro i all h0 hn ha hs
    refine Ev_round (fun k => by rw [mapmakerlaw51_WordsAgain.l0]) ?_
    refine Ev_neg (by omega) (Ev_neg (by omega) (Ev_pos rfl ?_))
    rw [List.take_of_length_le (by omega)] at ha
    refine Ev.bind (pof_ev all (by omega)) ?_
    rw [again_of hl hg ha]
    refine Ev.bind (same_ev l (by omega)) ?_
    exact Ev_pos rfl fin_ev
  | succ n ih =>
    intro i all h0 hn ha hs
    have hi : i < (l.length : Int) := by omega
    have hm : rdOf ByteArray.empty l i ∈ l := getD_mem ByteArray.empty h0 hi
    have ht := take_rdOf h0 hi
    generalize rdOf ByteArray.empty l i = w at hm ht
    obtain ⟨g1, g2, g3, g4, g5⟩ := good_iff (hg w hm)
    have hw : rdOf ByteArray.empty l i = w := by
      have := congrArg List.getLast? ht
      rw [take_rdOf h0 hi] at this
      simpa using this
    have e32 : (⟨#[32]⟩ : ByteArray).size = 1 := rfl
    have b32 : bytesOf (⟨#[32]⟩ : ByteArray) = [32] := by decide +kernel
    refine Ev_round (fun k => by rw [mapmakerlaw51_WordsAgain.l0, hw, pexpand_eq, Option.bind_some, g4]) ?_
    refine Ev_pos hi (Ev_pos h0 (Ev_neg (toList_ne g1) (Ev_pos rfl (Ev_pos rfl (Ev.bind (pfold_ev w (by omega)) ?_)))))
    have hf : strOfNums (fdl (bytesOf w)) = w := fold_cln g3
    rw [hf, show (w.toList == w.toList) = true from beq_self_eq_true _]
    refine Ev_pos (by omega) (Ev_pos (by rw [ByteArray.size_append, e32]; omega) ?_)
    rw [wrap_in (x := i + 1) ⟨by omega, by omega⟩]
    refine ih (i + 1) _ (by omega) (by omega) ?_ (by rw [ByteArray.size_append, ByteArray.size_append, e32]; omega)
    rw [bytes_append, bytes_append, b32, ha, ht, List.map_append, List.map_cons, List.map_nil, cat_snoc]
    rfl
theorem WordsAgain : mapmakerlaw51_WordsAgain.Pure := by
  intro s _
  refine Ev.rounds (Ev.congr (fun k => by rw [mapmakerlaw51_WordsAgain.f]) ?_)
  by_cases c : (s.size : Int) > 400
  · exact Ev_pos c fin_ev
  · refine Ev_neg c (Ev.bind (pof_ev s (by omega)) ?_)
    exact again_l0 (off0 s) (off0_length s) (off0_good s (by omega)) (off0 s).length 0 _ (by omega) (by omega) (by rw [show (0 : Int).toNat = 0 from rfl, List.take_zero]; rfl) (by decide)
end Go.Proofs.Ytfmanlgfinlekaa.Pure
