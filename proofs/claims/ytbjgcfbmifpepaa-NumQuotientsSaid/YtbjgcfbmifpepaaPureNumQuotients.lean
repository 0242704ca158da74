/- FloorDiv, MulDiv by 1 and RoundDiv against Go's quotient: for all arguments. -/
import Derived.Test.YtbjgcfbmifpepaaNmM
import Derived.Test.YtbjgcfbmifpepaaNmD
import Derived.Test.YtbjgcfbmifpepaaNmL
import Derived.Test.YtbjgcfbmifpepaaPAllx30
namespace Go.Proofs.Ytbjgcfbmifpepaa.Pure
open Go.RowKit Go.Proofs.Ytbjgcfbmifpepaa.PAll Go.Proofs.YtbjgcfbmifpepaaW.PrintWords Go.Proofs.YtbjgcfbmifpepaaW.PrintLast Go.Proofs.YtbjgcfbmifpepaaW.PrintMore Go.Proofs.Ytbjgcfbmifpepaa.Bas Go.Proofs.Ytbjgcfbmifpepaa.Nm
set_option linter.unusedVariables false
set_option linter.unusedSimpArgs false

theorem NumQuotients : mapmakerlaw01_NumQuotients.Pure := by
  intro a b ha hb
  have ha := isI ha
  have hb := isI hb
  refine Ev.rounds (Ev.congr (fun k => by rw [mapmakerlaw01_NumQuotients.f]) ?_)
  by_cases c : b ≤ 0
  · refine Ev_pos c (Ev.bind (Ev_const (FloorDiv_no c)) (Ev_pos rfl (Ev.bind (RoundDiv_ev ha hb) (Ev_pos ?_ fin_ev))))
    unfold rnd
    rw [if_pos c]
  · refine Ev_neg c (Ev.bind (Ev_const (FloorDiv_eq ha (by omega))) (Ev_neg (by omega) ?_))
    have hf := floor_eq a (show 0 < b by omega)
    obtain ⟨s1, s2, s3, s4⟩ := tmod_sign a (show 0 < b by omega)
    have iq := div_isI ha (show 0 < b by omega)
    have db := div_bd (a := a) (show 0 < b by omega)
    have i1 : IsI 1 := ⟨by decide, by decide⟩
    have md : mdv a 1 b = (a / b, true) := by
      rw [mdv_eq ha i1 (by omega), Int.mul_one]
      exact if_pos iq
    have rd : rnd a b = a / b ∨ wrap64 (rnd a b - 1) = a / b := by
      unfold rnd
      rw [if_neg c]
      split
      · right
        unfold IsI at iq
        unfold wrap64
        omega
      · left; rfl
    have fin : Ev (fun k => if rnd a b = a / b then ((mapmakerlaw01_lives.f k).bind fun t => (some t)) else (if (wrap64 (rnd a b - 1)) = a / b then ((mapmakerlaw01_lives.f k).bind fun t => (some t)) else (none))) true := by
      by_cases h : rnd a b = a / b
      · exact Ev_pos h fin_ev
      · exact Ev_neg h (Ev_pos (rd.resolve_left h) fin_ev)
    have mdev := MulDiv_ev ha i1 hb
    rw [md] at mdev
    have j0 : ∀ (t : Bool), (t = true ↔ a.tmod b < 0) → Ev (fun k => mapmakerlaw01_NumQuotients.j0 k a b (a / b) (wrap64 (Int.tdiv a b)) t) true := by
      intro t ht
      unfold IsI at iq ha
      refine Ev_round (fun k => by rw [mapmakerlaw01_NumQuotients.j0]) ?_
      by_cases h : a.tmod b < 0
      · rw [if_pos h] at hf
        refine Ev_pos (ht.2 h) (Ev.bind mdev (Ev.bind (RoundDiv_ev ha hb) (Ev_pos ?_ (Ev_pos rfl (Ev_pos rfl fin)))))
        have := db.2 (s1.1 h).1
        rw [wrap_in (x := a.tdiv b) ⟨by omega, by omega⟩, wrap_in ⟨by omega, by omega⟩]
        omega
      · rw [if_neg h] at hf
        refine Ev_neg (fun e => h (ht.1 e)) (Ev.bind mdev (Ev.bind (RoundDiv_ev ha hb) (Ev_pos ?_ (Ev_pos rfl (Ev_pos rfl fin)))))
        rw [wrap_in (x := a.tdiv b) ⟨by omega, by omega⟩]
        omega
    by_cases a0 : a < 0
    · refine Ev_pos a0 (j0 _ ?_)
      rw [bne_iff_ne, s1]
      exact ⟨fun h => ⟨a0, h⟩, fun h => h.2⟩
    · refine Ev_neg a0 (j0 _ ?_)
      have := s4 (by omega)
      simp
      omega

end Go.Proofs.Ytbjgcfbmifpepaa.Pure
