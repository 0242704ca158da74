/- Capitals make no difference to Fold; what it returns holds none, is folded already, and is no longer than the string: for any string of at most 400 bytes. -/
import Derived.Test.YtfmanlgfinlekaaWdP
import Derived.Test.YtfmanlgfinlekaaWdA
import Derived.Test.YtfmanlgfinlekaaWdL
import Derived.Test.YtfmanlgfinlekaaCas
namespace Go.Proofs.Ytfmanlgfinlekaa.Pure
open Go.RowKit Go.Proofs.Ytfmanlgfinlekaa.PAll Go.Proofs.YtfmanlgfinlekaaW.PrintWords Go.Proofs.YtfmanlgfinlekaaW.PrintLast Go.Proofs.YtfmanlgfinlekaaW.PrintMore Go.Proofs.Ytfmanlgfinlekaa.Bas Go.Proofs.Ytfmanlgfinlekaa.Wd
set_option linter.unusedVariables false

/-- A small letter made great: folded, they are the same. -/
theorem fdl_up {b : Int} (h : 97 ≤ b ∧ b ≤ 122) (r : List Int) : ∀ A : List Int, fdl (A ++ (b - 32) :: r) = fdl (A ++ b :: r)
  | [] => by
    rw [List.nil_append, List.nil_append, fdl_cap (by omega), fdl_one (by omega) (by omega)]
    congr 1
    omega
  | [a] => by
    have ih := fdl_up h r []
    rw [List.nil_append, List.nil_append] at ih
    simp only [List.cons_append, List.nil_append]
    by_cases c : 65 ≤ a ∧ a ≤ 90
    · rw [fdl_cap c, fdl_cap c, ih]
    · by_cases e : a = 195
      · subst e
        rw [fdl_not (fw_ascii (by omega)), fdl_not (fw_ascii (by omega)), ih]
      · rw [fdl_one c e, fdl_one c e, ih]
  | a :: d :: A => by
    have i1 := fdl_up h r (d :: A)
    have i2 := fdl_up h r A
    simp only [List.cons_append] at i1 ⊢
    by_cases c : 65 ≤ a ∧ a ≤ 90
    · rw [fdl_cap c, fdl_cap c, i1]
    · by_cases e : a = 195
      · subst e
        by_cases z : fw d = []
        · rw [fdl_not z, fdl_not z, i1]
        · rw [fdl_two z, fdl_two z, i2]
      · rw [fdl_one c e, fdl_one c e, i1]
theorem fdl_set {xs : List Int} {i : Int} (h0 : 0 ≤ i) (hi : i < (xs.length : Int)) (h : 97 ≤ rd xs i ∧ rd xs i ≤ 122) : fdl (xs.set i.toNat (rd xs i - 32)) = fdl xs := by
  have hl : i.toNat < xs.length := by omega
  have e : xs = xs.take i.toNat ++ rd xs i :: xs.drop (i.toNat + 1) := by
    conv => lhs; rw [← List.take_append_drop i.toNat xs]
    congr 1
    rw [List.drop_eq_getElem_cons hl]
    congr 1
    simp [rd, List.getD_eq_getElem?_getD, List.getElem?_eq_getElem hl]
  rw [List.set_eq_take_append_cons_drop, if_pos hl, fdl_up h]
  exact congrArg fdl e.symm
theorem cap_free {L : List Int} (h : cln L = true) : ∀ x ∈ L, ¬ (65 ≤ x ∧ x ≤ 90) := by
  induction L with
  | nil => intro x hx; cases hx
  | cons b r ih =>
    obtain ⟨h1, _, h3⟩ := cln_head h
    intro x hx
    rcases List.mem_cons.1 hx with e | e
    · rw [e]; exact h1
    · exact ih h3 x e
section
variable {s : ByteArray}
theorem cases_l1 (hs : s.size ≤ 400) {xs : List Int} (hx : fdl xs = fdl (bytesOf s)) (hr : ∀ c ∈ xs, 0 ≤ c ∧ c ≤ 255) (hl : xs.length = s.size) (n : Nat) : ∀ (i : Int), 0 ≤ i → i ≤ (fdl (bytesOf s)).length → ((fdl (bytesOf s)).length : Int) - i = n →
    Ev (fun k => mapmakerlaw51_WordsCases.l1 k s xs (strOfNums (fdl (bytesOf s))) i) true := by
  have hL : ∀ c ∈ bytesOf s, 0 ≤ c ∧ c ≤ 255 := byte_mem
  have hF : bytesOf (strOfNums (fdl (bytesOf s))) = fdl (bytesOf s) := bytes_str (fdl_range hL)
  have hsz : (strOfNums (fdl (bytesOf s))).size = (fdl (bytesOf s)).length := by rw [← bytesOf_length, hF]
  have hle := fdl_length (bytesOf s)
  rw [bytesOf_length] at hle
  have hX : bytesOf (strOfNums xs) = xs := bytes_str hr
  have hxs : (strOfNums xs).size = s.size := by rw [← bytesOf_length, hX, hl]
  induction n with
  | zero =>
    intro i h0 hi hn
    refine Ev_round (fun k => by rw [mapmakerlaw51_WordsCases.l1]) ?_
    refine Ev_neg (by rw [hsz]; omega) ?_
    refine Ev.bind (pfold_ev _ (by omega)) ?_
    rw [hX, hx]
    refine Ev_pos rfl ?_
    refine Ev.bind (pfold_ev _ (by omega)) ?_
    rw [hF, fdl_cln (cln_fdl _)]
    refine Ev_pos rfl ?_
    exact Ev_pos (by rw [hsz]; omega) fin_ev
  | succ n ih =>
    intro i h0 hi hn
    refine Ev_round (fun k => by rw [mapmakerlaw51_WordsCases.l1]) ?_
    rw [wrap_in (x := i + 1) ⟨by omega, by omega⟩]
    refine Ev_pos (by rw [hsz]; omega) (Ev_pos h0 ?_)
    have hb : bt (strOfNums (fdl (bytesOf s))) i ∈ fdl (bytesOf s) := by
      rw [← rd_bytesOf, hF]
      exact getD_mem 0 h0 (by omega)
    have hc := cap_free (cln_fdl (bytesOf s)) _ hb
    by_cases c : bt (strOfNums (fdl (bytesOf s))) i ≥ 65
    · refine Ev_pos c ?_
      refine Ev_neg (fun d => hc ⟨c, d⟩) ?_
      exact ih (i + 1) (by omega) (by omega) (by omega)
    · refine Ev_neg c ?_
      exact ih (i + 1) (by omega) (by omega) (by omega)
theorem cases_l0 (hs : s.size ≤ 400) (n : Nat) : ∀ (i : Int) (xs : List Int), fdl xs = fdl (bytesOf s) → (∀ c ∈ xs, 0 ≤ c ∧ c ≤ 255) → xs.length = s.size → 0 ≤ i → i ≤ xs.length → (xs.length : Int) - i = n →
    Ev (fun k => mapmakerlaw51_WordsCases.l0 k s xs i) true := by
  induction n with
  | zero =>
    intro i xs hx hr hl h0 hi hn
    refine Ev_round (fun k => by rw [mapmakerlaw51_WordsCases.l0]) ?_
    refine Ev_neg (by omega) ?_
    refine Ev.bind (pfold_ev s (by omega)) ?_
    exact cases_l1 hs hx hr hl (fdl (bytesOf s)).length 0 (by omega) (by omega) (by omega)
  | succ n ih =>
    intro i xs hx hr hl h0 hi hn
    refine Ev_round (fun k => by rw [mapmakerlaw51_WordsCases.l0]) ?_
    rw [wrap_in (x := i + 1) ⟨by omega, by omega⟩]
    refine Ev_pos (by omega) (Ev_pos h0 ?_)
    by_cases c : rd xs i ≥ 97
    · refine Ev_pos c ?_
      by_cases d : rd xs i ≤ 122
      · refine Ev_pos d ?_
        have hm : (rd xs i - 32) % 256 = rd xs i - 32 := by omega
        rw [hm]
        refine ih (i + 1) _ ?_ ?_ ?_ (by omega) ?_ ?_
        · rw [fdl_set h0 (by omega) ⟨c, d⟩, hx]
        · intro x hxm
          rcases List.mem_or_eq_of_mem_set hxm with e | e
          · exact hr x e
          · rw [e]; omega
        · rw [List.length_set]; exact hl
        · rw [List.length_set]; omega
        · rw [List.length_set]; omega
      · refine Ev_neg d ?_
        exact ih (i + 1) xs hx hr hl (by omega) (by omega) (by omega)
    · refine Ev_neg c ?_
      exact ih (i + 1) xs hx hr hl (by omega) (by omega) (by omega)
end
theorem WordsCases : mapmakerlaw51_WordsCases.Pure := by
  intro s _
  refine Ev.rounds (Ev.congr (fun k => by rw [mapmakerlaw51_WordsCases.f]) ?_)
  by_cases c : (s.size : Int) > 400
  · exact Ev_pos c fin_ev
  · have hs : s.size ≤ 400 := by omega
    refine Ev_neg c (Ev_pos (by rw [List.length_nil]; omega) ?_)
    rw [List.nil_append]
    have hl := bytesOf_length s
    exact cases_l0 hs (bytesOf s).length 0 (bytesOf s) rfl (byte_mem) hl (by omega) (by omega) (by omega)
end Go.Proofs.Ytfmanlgfinlekaa.Pure
