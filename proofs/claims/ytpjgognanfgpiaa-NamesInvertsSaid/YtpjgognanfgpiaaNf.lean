/- few; Of and the specification's Of agree: told together, over the first i strings. -/
import Derived.Test.YtpjgognanfgpiaaNd
import Derived.Test.YtpjgognanfgpiaaNOf
import Derived.Test.YtpjgognanfgpiaaPAllx9
namespace Go.Proofs.Ytpjgognanfgpiaa.Nd
open Go.RowKit Go.Proofs.Ytpjgognanfgpiaa.PAll Go.Proofs.YtpjgognanfgpiaaW.PrintWords Go.Proofs.YtpjgognanfgpiaaW.PrintLast Go.Proofs.YtpjgognanfgpiaaW.PrintMore Go.Proofs.Ytpjgognanfgpiaa.Bas
set_option linter.unusedVariables false

theorem few_l0 {l : List ByteArray} (hl : (l.length : Int) ≤ 9223372036854775807) (n : Nat) : ∀ (i : Int), 0 ≤ i → i ≤ 61 → 61 - i = n →
    ∃ b, Ev (fun k => mapmakerlaw03_few.l0 k l i) b ∧ (b = true → (l.length : Int) ≤ 60 ∧ ∀ j : Int, i ≤ j → j < (l.length : Int) → (rdOf ByteArray.empty l j).size ≤ 300) := by
  induction n with
  | zero =>
    intro i h0 h1 hn
    refine ⟨decide ((l.length : Int) ≤ 60), ?_, fun h => ⟨of_decide_eq_true h, fun j hj hj2 => by have := of_decide_eq_true h; omega⟩⟩
    refine Ev_round (fun k => by rw [mapmakerlaw03_few.l0]) ?_
    by_cases c : i < (l.length : Int)
    · refine Ev_pos c (Ev_round (fun k => by rw [mapmakerlaw03_few.j1]) ?_)
      exact Ev_neg (by simp; omega) (Ev.now _)
    · refine Ev_neg c (Ev_round (fun k => by rw [mapmakerlaw03_few.j1]) ?_)
      exact Ev_neg (by simp) (Ev.now _)
  | succ n ih =>
    intro i h0 h1 hn
    by_cases c : i < (l.length : Int)
    · by_cases d : ((rdOf ByteArray.empty l i).size : Int) > 300
      · refine ⟨false, ?_, fun h => by cases h⟩
        refine Ev_round (fun k => by rw [mapmakerlaw03_few.l0]) ?_
        refine Ev_pos c (Ev_round (fun k => by rw [mapmakerlaw03_few.j1]) ?_)
        exact Ev_pos (by simp; omega) (Ev_pos h0 (Ev_pos c (Ev_pos d (Ev.now _))))
      · obtain ⟨b, hb, hr⟩ := ih (i + 1) (by omega) (by omega) (by omega)
        refine ⟨b, ?_, fun h => ⟨(hr h).1, fun j hj hj2 => ?_⟩⟩
        · refine Ev_round (fun k => by rw [mapmakerlaw03_few.l0]) ?_
          refine Ev_pos c (Ev_round (fun k => by rw [mapmakerlaw03_few.j1]) ?_)
          rw [wrap_in (x := i + 1) ⟨by omega, by omega⟩]
          exact Ev_pos (by simp; omega) (Ev_pos h0 (Ev_pos c (Ev_neg d hb)))
        · by_cases e : j = i
          · rw [e]
            omega
          · exact (hr h).2 j (by omega) hj2
    · refine ⟨decide ((l.length : Int) ≤ 60), ?_, fun h => ⟨of_decide_eq_true h, fun j hj hj2 => by omega⟩⟩
      refine Ev_round (fun k => by rw [mapmakerlaw03_few.l0]) ?_
      refine Ev_neg c (Ev_round (fun k => by rw [mapmakerlaw03_few.j1]) ?_)
      exact Ev_neg (by simp) (Ev.now _)
theorem few_ev {l : List ByteArray} (hl : l.length ≤ maxLen) : ∃ b, Ev (fun k => mapmakerlaw03_few.f k l) b ∧ (b = true → (l.length : Int) ≤ 60 ∧ ∀ j : Int, 0 ≤ j → j < (l.length : Int) → (rdOf ByteArray.empty l j).size ≤ 300) := by
  unfold maxLen at hl
  obtain ⟨b, hb, hr⟩ := few_l0 (l := l) (by omega) 61 0 (by omega) (by omega) (by omega)
  exact ⟨b, Ev.congr (fun k => by rw [mapmakerlaw03_few.f]) hb, hr⟩
theorem of_l0 {l : List ByteArray} (hl : (l.length : Int) ≤ 60) (hs : ∀ j : Int, 0 ≤ j → j < (l.length : Int) → (rdOf ByteArray.empty l j).size ≤ 300) (n : Nat) : ∀ (i : Int), 0 ≤ i → i ≤ (l.length : Int) → (l.length : Int) - i = n →
    ∃ m q e, Ev (fun k => names_Of.l0 k (l.take i.toNat) l (l.length : Int) i) (m, e) ∧ Ev (fun k => ofRead.l0 k l i) (q, e) ∧ (e = 0 → m = l) := by
  induction n with
  | zero =>
    intro i h0 h1 hn
    refine ⟨l, [(⟨#[98]⟩ : ByteArray)], 0, ?_, ?_, fun _ => rfl⟩
    · refine Ev_round (fun k => by rw [names_Of.l0]) ?_
      refine Ev_neg (by omega) ?_
      rw [List.take_of_length_le (by omega)]
      exact Ev.now _
    · refine Ev_round (fun k => by rw [ofRead.l0]) ?_
      exact Ev_neg (by omega) (Ev.now _)
  | succ n ih =>
    intro i h0 h1 hn
    have hi : i < (l.length : Int) := by omega
    have hsz := hs i h0 hi
    have hlen : ((l.take i.toNat).length : Int) = i := by rw [List.length_take]; omega
    have hw : wrap64 (i + 1) = i + 1 := wrap_in ⟨by omega, by omega⟩
    have hadd := tadd (m := l.take i.toNat) (s := rdOf ByteArray.empty l i) (by omega) (by omega)
    cases ht : tfind (l.take i.toNat) (rdOf ByteArray.empty l i) 0 with
    | some j =>
      have hj := tfind_ge ht
      refine ⟨[], [], 7, ?_, ?_, fun h => by cases h⟩
      · refine Ev_round (fun k => by rw [names_Of.l0]) ?_
        refine Ev_pos hi (Ev_pos h0 (Ev_pos hi (Ev.bind (Ev_const hadd) ?_)))
        refine Ev_neg ?_ (Ev.now _)
        unfold anum
        rw [ht]
        simp only
        omega
      · refine Ev_round (fun k => by rw [ofRead.l0]) ?_
        refine Ev_pos hi (Ev_pos h0 (Ev_pos (by omega) (Ev.bind (find_ev (by omega)) ?_)))
        rw [ht]
        exact Ev_pos rfl (Ev.now _)
    | none =>
      obtain ⟨m, q, e, e1, e2, e3⟩ := ih (i + 1) (by omega) (by omega) (by omega)
      refine ⟨m, q, e, ?_, ?_, e3⟩
      · refine Ev_round (fun k => by rw [names_Of.l0]) ?_
        refine Ev_pos hi (Ev_pos h0 (Ev_pos hi (Ev.bind (Ev_const hadd) ?_)))
        have ha : anum (l.take i.toNat) (rdOf ByteArray.empty l i) = i := by unfold anum; rw [ht]; exact hlen
        have hb : ares (l.take i.toNat) (rdOf ByteArray.empty l i) = l.take (i + 1).toNat := by
          unfold ares
          rw [ht]
          exact (take_at ByteArray.empty h0 hi).symm
        refine Ev_pos ha ?_
        rw [hw]
        show Ev (fun k => names_Of.l0 k (ares (l.take i.toNat) (rdOf ByteArray.empty l i)) l (l.length : Int) (i + 1)) (m, e)
        rw [hb]
        exact e1
      · refine Ev_round (fun k => by rw [ofRead.l0]) ?_
        refine Ev_pos hi (Ev_pos h0 (Ev_pos (by omega) (Ev.bind (find_ev (by omega)) ?_)))
        rw [ht, hw]
        exact Ev_neg (by decide) e2
theorem addRead_ev {m : List ByteArray} {s : ByteArray} (hm : (m.length : Int) ≤ 1000000) : ∃ q, Ev (fun k => addRead.f k m s) (q, anum m s) := by
  cases ht : tfind m s 0 with
  | some i =>
    refine ⟨[], Ev.congr (fun k => by rw [addRead.f]) (Ev.bind (find_ev hm) ?_)⟩
    unfold anum fres
    rw [ht]
    exact Ev_pos rfl (Ev.now _)
  | none =>
    refine ⟨m ++ [s], Ev.congr (fun k => by rw [addRead.f]) (Ev.bind (find_ev hm) ?_)⟩
    unfold anum fres
    rw [ht]
    refine Ev_neg (by decide) (Ev_pos (by rw [List.length_nil]; omega) ?_)
    rw [List.nil_append, Option.bind_some]
    exact Ev_pos (by omega) (Ev.now _)
end Go.Proofs.Ytpjgognanfgpiaa.Nd
