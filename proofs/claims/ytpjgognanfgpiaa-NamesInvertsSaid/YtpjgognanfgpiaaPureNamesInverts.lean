/- Get inverts Add, adding strings again changes nothing, Of inverts All: at most 60 strings of at most 300 bytes. -/
import Derived.Test.YtpjgognanfgpiaaNf
import Derived.Test.YtpjgognanfgpiaaNIn
namespace Go.Proofs.Ytpjgognanfgpiaa.Pure
open Go.RowKit Go.Proofs.Ytpjgognanfgpiaa.PAll Go.Proofs.YtpjgognanfgpiaaW.PrintWords Go.Proofs.YtpjgognanfgpiaaW.PrintLast Go.Proofs.YtpjgognanfgpiaaW.PrintMore Go.Proofs.Ytpjgognanfgpiaa.Bas Go.Proofs.Ytpjgognanfgpiaa.Nd
set_option linter.unusedVariables false

/-- No string stands twice. -/
def ND (m : List ByteArray) : Prop := ∀ i : Int, 0 ≤ i → i < (m.length : Int) → tfind (m.take i.toNat) (rdOf ByteArray.empty m i) 0 = none
theorem nd_append {m : List ByteArray} {s : ByteArray} (h : ND m) (hs : tfind m s 0 = none) : ND (m ++ [s]) := by
  intro i h0 h1
  rw [List.length_append, List.length_singleton] at h1
  by_cases c : i < (m.length : Int)
  · have e1 : (m ++ [s]).take i.toNat = m.take i.toNat := List.take_append_of_le_length (by omega)
    have e2 : rdOf ByteArray.empty (m ++ [s]) i = rdOf ByteArray.empty m i := by
      unfold rdOf
      rw [List.getD_eq_getElem?_getD, List.getD_eq_getElem?_getD, List.getElem?_append_left (by omega)]
    rw [e1, e2]
    exact h i h0 c
  · have e : i.toNat = m.length := by omega
    have e2 : rdOf ByteArray.empty (m ++ [s]) i = s := by
      unfold rdOf
      rw [e, List.getD_eq_getElem?_getD, List.getElem?_append_right (Nat.le_refl _)]
      simp
    rw [e, e2, List.take_left']
    · exact hs
    · rfl
theorem tfind_rd {s : ByteArray} : ∀ {m : List ByteArray} {i j : Int}, tfind m s i = some j → m.getD (j - i).toNat ByteArray.empty = s
  | [], _, _, h => by simp [tfind] at h
  | x :: r, i, j, h => by
    rw [tfind] at h
    split at h
    · rename_i e
      injection h with h
      have : (j - i).toNat = 0 := by omega
      rw [this]
      exact e
    · have h1 := tfind_ge h
      have h2 := tfind_rd h
      have : (j - i).toNat = (j - (i + 1)).toNat + 1 := by omega
      rw [this]
      exact h2
theorem get_add (m : List ByteArray) (s : ByteArray) : names_Table_Get.f (ares m s) (anum m s) = some (s, true) := by
  unfold names_Table_Get.f ares anum
  cases ht : tfind m s 0 with
  | some j =>
    have h1 := tfind_ge ht
    have h2 := tfind_rd ht
    simp only
    rw [if_neg (by omega), if_neg (by omega)]
    unfold rdOf
    rw [show j = j - 0 by omega, h2]
  | none =>
    simp only
    rw [if_neg (by omega), if_neg (by rw [List.length_append, List.length_singleton]; omega)]
    unfold rdOf
    rw [List.getD_eq_getElem?_getD, show ((m.length : Int)).toNat = m.length by omega, List.getElem?_append_right (Nat.le_refl _)]
    simp
theorem of_nd {m : List ByteArray} (hm : (m.length : Int) ≤ 60) (hs : ∀ x ∈ m, x.size ≤ 1000000) (hd : ND m) (n : Nat) : ∀ (i : Int), 0 ≤ i → i ≤ (m.length : Int) → (m.length : Int) - i = n → Ev (fun k => names_Of.l0 k (m.take i.toNat) m (m.length : Int) i) (m, 0) := by
  induction n with
  | zero =>
    intro i h0 h1 hn
    refine Ev_round (fun k => by rw [names_Of.l0]) ?_
    refine Ev_neg (by omega) ?_
    rw [List.take_of_length_le (by omega)]
    exact Ev.now _
  | succ n ih =>
    intro i h0 h1 hn
    have hi : i < (m.length : Int) := by omega
    have hsz := hs _ (getD_mem ByteArray.empty h0 hi)
    have hlen : ((m.take i.toNat).length : Int) = i := by rw [List.length_take]; omega
    have ht := hd i h0 hi
    have hadd := tadd (m := m.take i.toNat) (s := rdOf ByteArray.empty m i) hsz (by omega)
    have ha : anum (m.take i.toNat) (rdOf ByteArray.empty m i) = i := by unfold anum; rw [ht]; exact hlen
    have hb : ares (m.take i.toNat) (rdOf ByteArray.empty m i) = m.take (i + 1).toNat := by
      unfold ares
      rw [ht]
      exact (take_at ByteArray.empty h0 hi).symm
    refine Ev_round (fun k => by rw [names_Of.l0]) ?_
    refine Ev_pos hi (Ev_pos h0 (Ev_pos hi (Ev.bind (Ev_const hadd) ?_)))
    refine Ev_pos ha ?_
    rw [wrap_in (x := i + 1) ⟨by omega, by omega⟩]
    show Ev (fun k => names_Of.l0 k (ares (m.take i.toNat) (rdOf ByteArray.empty m i)) m (m.length : Int) (i + 1)) (m, 0)
    rw [hb]
    exact ih (i + 1) (by omega) (by omega) (by omega)
section
variable {l : List ByteArray}
theorem inv_l1 (hl : (l.length : Int) ≤ 60) (hs : ∀ j : Int, 0 ≤ j → j < (l.length : Int) → (rdOf ByteArray.empty l j).size ≤ 300) {m : List ByteArray} (hm : (m.length : Int) ≤ 60) (hms : ∀ x ∈ m, x.size ≤ 1000000) (hd : ND m)
    {first : List Int} (hf : first.length = l.length) (hj : ∀ j : Int, 0 ≤ j → j < (l.length : Int) → tfind m (rdOf ByteArray.empty l j) 0 = some (rd first j)) (n : Nat) : ∀ (i : Int), 0 ≤ i → i ≤ (l.length : Int) → (l.length : Int) - i = n →
    Ev (fun k => mapmakerlaw03_NamesInverts.l1 k l m first m i) true := by
  induction n with
  | zero =>
    intro i h0 h1 hn
    refine Ev_round (fun k => by rw [mapmakerlaw03_NamesInverts.l1]) ?_
    refine Ev_neg (by omega) ?_
    refine Ev.bind (Ev.congr (fun k => by rw [names_Of.f, show names_New.f = some [] from rfl, Option.bind_some]; rfl) (of_nd hm hms hd m.length 0 (by omega) (by omega) (by omega))) ?_
    have hall : names_Table_All.f m = some m := by unfold names_Table_All.f; rw [if_pos (by omega)]
    refine Ev_pos rfl (Ev_pos (by decide) ?_)
    refine Ev.bind (Ev_const hall) (Ev.bind (same_ev (by omega)) (Ev_pos rfl ?_))
    refine Ev.bind (Ev_const hall) (Ev.bind (same_ev (by omega)) (Ev_pos rfl ?_))
    exact Ev.bind (Ev_const (show names_Table_Len.f m = some (m.length : Int) from rfl)) (Ev_pos rfl fin_ev)
  | succ n ih =>
    intro i h0 h1 hn
    have hi : i < (l.length : Int) := by omega
    have hsz := hs i h0 hi
    have ht := hj i h0 hi
    refine Ev_round (fun k => by rw [mapmakerlaw03_NamesInverts.l1]) ?_
    rw [wrap_in (x := i + 1) ⟨by omega, by omega⟩]
    refine Ev_pos hi (Ev_pos h0 (Ev.bind (Ev_const (tadd (m := m) (s := rdOf ByteArray.empty l i) (by omega) (by omega))) ?_))
    have ha : anum m (rdOf ByteArray.empty l i) = rd first i := by unfold anum; rw [ht]
    have hb : ares m (rdOf ByteArray.empty l i) = m := by unfold ares; rw [ht]
    refine Ev_pos (by omega) (Ev_pos ha ?_)
    show Ev (fun k => mapmakerlaw03_NamesInverts.l1 k l (ares m (rdOf ByteArray.empty l i)) first m (i + 1)) true
    rw [hb]
    exact ih (i + 1) (by omega) (by omega) (by omega)
theorem inv_l0 (hl : (l.length : Int) ≤ 60) (hs : ∀ j : Int, 0 ≤ j → j < (l.length : Int) → (rdOf ByteArray.empty l j).size ≤ 300) (n : Nat) : ∀ (i : Int) (m : List ByteArray) (first : List Int), 0 ≤ i → i ≤ (l.length : Int) → (l.length : Int) - i = n →
    (m.length : Int) ≤ i → (∀ x ∈ m, x.size ≤ 1000000) → ND m → (first.length : Int) = i → (∀ j : Int, 0 ≤ j → j < i → tfind m (rdOf ByteArray.empty l j) 0 = some (rd first j)) → Ev (fun k => mapmakerlaw03_NamesInverts.l0 k l m first i) true := by
  induction n with
  | zero =>
    intro i m first h0 h1 hn hm hms hd hf hj
    refine Ev_round (fun k => by rw [mapmakerlaw03_NamesInverts.l0]) ?_
    refine Ev_neg (by omega) ?_
    refine Ev.bind (Ev_const (show names_Table_All.f m = some m from by unfold names_Table_All.f; rw [if_pos (by omega)])) ?_
    exact inv_l1 hl hs (by omega) hms hd (by omega) (fun j a b => hj j a (by omega)) l.length 0 (by omega) (by omega) (by omega)
  | succ n ih =>
    intro i m first h0 h1 hn hm hms hd hf hj
    have hi : i < (l.length : Int) := by omega
    have hsz := hs i h0 hi
    generalize hS : rdOf ByteArray.empty l i = s at hsz
    have hal := ares_length m s
    have hle : anum m s ≤ i := by
      unfold anum
      cases ht : tfind m s 0 with
      | some j =>
        have := tfind_ge ht
        simp only
        omega
      | none => exact hm
    refine Ev_round (fun k => by rw [mapmakerlaw03_NamesInverts.l0]) ?_
    rw [wrap_in (x := i + 1) ⟨by omega, by omega⟩, hS]
    refine Ev_pos hi (Ev_pos h0 (Ev.bind (Ev_const (tadd (m := m) (s := s) (by omega) (by omega))) ?_))
    refine Ev.bind (Ev_const (get_add m s)) ?_
    refine Ev_pos rfl (Ev_pos rfl (Ev_neg (show ¬ anum m s > i by omega) (Ev_pos (by omega) ?_)))
    refine ih (i + 1) (ares m s) (first ++ [anum m s]) (by omega) (by omega) (by omega) (by omega) ?_ ?_ ?_ ?_
    · intro x hx
      unfold ares at hx
      split at hx
      · exact hms x hx
      · rcases List.mem_append.1 hx with e | e
        · exact hms x e
        · rw [List.mem_singleton.1 e]
          omega
    · unfold ares
      cases ht : tfind m s 0 with
      | some j => exact hd
      | none => exact nd_append hd ht
    · rw [List.length_append, List.length_singleton]
      omega
    · intro j a b
      by_cases c : j < i
      · have e : rd (first ++ [anum m s]) j = rd first j := by
          unfold rd
          rw [List.getD_eq_getElem?_getD, List.getD_eq_getElem?_getD, List.getElem?_append_left (by omega)]
        rw [e]
        have hk := hj j a c
        unfold ares
        cases ht : tfind m s 0 with
        | some q => exact hk
        | none =>
          simp only
          rw [tfind_append, hk]
      · have ej : j = i := by omega
        have e : rd (first ++ [anum m s]) j = anum m s := by
          unfold rd
          rw [List.getD_eq_getElem?_getD, List.getElem?_append_right (by omega), show j.toNat - first.length = 0 by omega]
          rfl
        rw [e, ej, hS]
        unfold ares anum
        cases ht : tfind m s 0 with
        | some q => exact ht
        | none =>
          simp only
          rw [tfind_append, ht]
          simp
end
theorem NamesInverts : mapmakerlaw03_NamesInverts.Pure := by
  intro l hl
  refine Ev.rounds (Ev.congr (fun k => by rw [mapmakerlaw03_NamesInverts.f, show names_New.f = some [] from rfl, Option.bind_some]) ?_)
  obtain ⟨b, hb, hr⟩ := few_ev hl.1
  refine Ev.bind hb ?_
  cases b with
  | false =>
    refine Ev_neg (by decide) (Ev_round (fun k => by rw [mapmakerlaw03_NamesInverts.j0]) ?_)
    exact Ev_pos rfl fin_ev
  | true =>
    obtain ⟨h60, hs⟩ := hr rfl
    refine Ev_pos rfl (Ev_round (fun k => by rw [mapmakerlaw03_NamesInverts.j0]) (Ev_neg (by decide) ?_))
    exact inv_l0 h60 hs l.length 0 [] [] (by omega) (by omega) (by omega) (by rw [List.length_nil]; omega) (fun x hx => by cases hx) (fun i h0 h1 => by rw [List.length_nil] at h1; omega) rfl (fun j a b => by omega)
end Go.Proofs.Ytpjgognanfgpiaa.Pure
