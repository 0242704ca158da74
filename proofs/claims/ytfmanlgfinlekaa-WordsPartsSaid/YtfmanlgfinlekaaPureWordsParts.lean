/- The words of a string are not empty and consist of letters, digits and bytes of at least 128; the words of two strings with a space between them are those of both: for strings of at most 200 bytes. -/
import Derived.Test.YtfmanlgfinlekaaWdT
import Derived.Test.YtfmanlgfinlekaaWdL
import Derived.Test.YtfmanlgfinlekaaPAllx18
namespace Go.Proofs.Ytfmanlgfinlekaa.Pure
open Go.RowKit Go.Proofs.Ytfmanlgfinlekaa.PAll Go.Proofs.YtfmanlgfinlekaaW.PrintWords Go.Proofs.YtfmanlgfinlekaaW.PrintLast Go.Proofs.YtfmanlgfinlekaaW.PrintMore Go.Proofs.Ytfmanlgfinlekaa.Bas Go.Proofs.Ytfmanlgfinlekaa.Wd
set_option linter.unusedVariables false

theorem rdOf_drop' {l : List ByteArray} {i : Int} (h0 : 0 ≤ i) (h1 : i < (l.length : Int)) : l.drop i.toNat = rdOf ByteArray.empty l i :: l.drop (i + 1).toNat := drop_at ByteArray.empty h0 h1
theorem total (s : ByteArray) : ((spl s).map ByteArray.size).sum ≤ s.size := by
  rw [spl_eq, List.map_map]
  have h := spL_sum (bytesOf s) []
  rw [bytesOf_length] at h
  have e : (ByteArray.size ∘ strOfNums) = List.length := by
    funext x
    exact strOfNums_size x
  rw [e]
  simpa using h
theorem parts_l0 (s t : ByteArray) (hs : (s.size : Int) ≤ 200) (ht : (t.size : Int) ≤ 200) (n : Nat) : ∀ (i z : Int), 0 ≤ i → ((spl s).length : Int) - i = n → 0 ≤ z → z + ((((spl s).drop i.toNat).map ByteArray.size).sum : Int) ≤ (s.size : Int) →
    Ev (fun k => mapmakerlaw51_WordsParts.l0 k s t (spl s) (spl t) z i) true := by
  have la := sp_length s (s.size + 1) 0 0
  have lb := sp_length t (t.size + 1) 0 0
  induction n with
  | zero =>
    intro i z h0 hn hz hsum
    refine Ev_round (fun k => by rw [mapmakerlaw51_WordsParts.l0]) ?_
    refine Ev_neg (by omega) ?_
    unfold spl at *
    refine Ev_pos (by simp; omega) (Ev.congr (fun k => by rw [Option.bind_some]) ?_)
    have e32 : (⟨#[32]⟩ : ByteArray).size = 1 := rfl
    refine Ev_pos (by simp; omega) (Ev_pos (by omega) (Ev_pos (by omega) (Ev_pos (by rw [ByteArray.size_append, e32]; omega) ?_)))
    refine Ev.bind (psplit_ev _ (by rw [ByteArray.size_append, ByteArray.size_append, e32]; omega)) ?_
    have b32 : bytesOf (⟨#[32]⟩ : ByteArray) = [32] := by decide +kernel
    have key : spl (s ++ (⟨#[32]⟩ : ByteArray) ++ t) = [] ++ sp s (s.size + 1) 0 0 ++ sp t (t.size + 1) 0 0 := by
      show _ = [] ++ spl s ++ spl t
      rw [spl_eq, spl_eq, spl_eq, bytes_append, bytes_append, b32, List.append_assoc, List.singleton_append, spL_append, List.map_append, List.nil_append]
    rw [key]
    refine Ev.bind (same_ev _ (by rw [List.length_append, List.nil_append]; omega)) ?_
    exact Ev_pos rfl fin_ev
  | succ n ih =>
    intro i z h0 hn hz hsum
    have hi : i < ((spl s).length : Int) := by omega
    have hm : rdOf ByteArray.empty (spl s) i ∈ spl s := getD_mem ByteArray.empty h0 hi
    obtain ⟨x, e1, e2, e3, e4, e5⟩ := word_of hm
    have hd := rdOf_drop' h0 hi
    rw [hd, List.map_cons, List.sum_cons] at hsum
    have w1 : wrap64 (i + 1) = i + 1 := wrap_in ⟨by unfold spl at hi; omega, by unfold spl at hi; omega⟩
    have ws : spl (rdOf ByteArray.empty (spl s) i) = [rdOf ByteArray.empty (spl s) i] := spl_word (by rw [e3]; exact e4) (by rw [e3]; exact e5)
    have cut : ((spl s).take (i + 1).toNat).drop i.toNat = [rdOf ByteArray.empty (spl s) i] := by
      rw [List.drop_take, show (i + 1).toNat - i.toNat = 1 by omega, hd, List.take_succ_cons, List.take_zero]
    refine Ev_round (fun k => by rw [mapmakerlaw51_WordsParts.l0, w1, cut]) ?_
    refine Ev_pos hi (Ev_pos h0 (Ev_neg (toList_ne (by rw [e3]; exact e4)) ?_))
    refine Ev.bind (psplit_ev _ (by omega)) ?_
    rw [ws]
    refine Ev_pos (by omega) (Ev_pos (by omega) (Ev.bind (same_ev _ (by simp)) (Ev_pos rfl ?_)))
    rw [wrap_in (x := z + ((rdOf ByteArray.empty (spl s) i).size : Int)) ⟨by omega, by omega⟩]
    exact ih (i + 1) _ (by omega) (by omega) (by omega) (by omega)
theorem WordsParts : mapmakerlaw51_WordsParts.Pure := by
  intro s t _ _
  refine Ev.rounds (Ev.congr (fun k => by rw [mapmakerlaw51_WordsParts.f]) ?_)
  have out : Ev (fun k => mapmakerlaw51_WordsParts.j0 k s t true) true := by
    refine Ev_round (fun k => by rw [mapmakerlaw51_WordsParts.j0]) ?_
    exact Ev_pos rfl fin_ev
  by_cases c : (s.size : Int) > 200
  · exact Ev_pos c out
  · refine Ev_neg c ?_
    by_cases d : (t.size : Int) > 200
    · rw [decide_eq_true d]
      exact out
    · rw [decide_eq_false d]
      refine Ev_round (fun k => by rw [mapmakerlaw51_WordsParts.j0]) ?_
      refine Ev_neg Bool.false_ne_true (Ev.bind (psplit_ev s (by omega)) (Ev.bind (psplit_ev t (by omega)) ?_))
      have h := total s
      exact parts_l0 s t (by omega) (by omega) (spl s).length 0 0 (by omega) (by omega) (by omega) (by rw [show (0 : Int).toNat = 0 from rfl, List.drop_zero]; omega)
end Go.Proofs.Ytfmanlgfinlekaa.Pure
