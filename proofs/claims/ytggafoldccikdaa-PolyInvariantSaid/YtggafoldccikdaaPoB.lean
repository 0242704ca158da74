/- Outlines: valid points, the reference's All, and the next point. -/
import Derived.Test.YtggafoldccikdaaSg
import Derived.Test.YtggafoldccikdaaSgM
import Derived.Test.YtggafoldccikdaaPAllx1
import Derived.Test.YtggafoldccikdaaPAllx24
namespace Go.Proofs.Ytggafoldccikdaa.Po
open Go.RowKit Go.Proofs.Ytggafoldccikdaa.PAll Go.Proofs.YtggafoldccikdaaW.PrintWords Go.Proofs.YtggafoldccikdaaW.PrintLast Go.Proofs.YtggafoldccikdaaW.PrintMore Go.Proofs.Ytggafoldccikdaa.Bas Go.Proofs.Ytggafoldccikdaa.Sg
set_option linter.unusedVariables false
set_option linter.unusedSimpArgs false

theorem lives_ev : Ev (fun k => mapmakerlaw11_lives.f k) true := Ev.of mapmakerlaw11_lives.mono (k := 100) (by decide +kernel)
theorem fin_ev : Ev (fun k => (mapmakerlaw11_lives.f k).bind fun t => some t) true := Ev.bind lives_ev (Ev.now _)
theorem pt_iff {p : S30} : pt_ok p = true ↔ vd p := by
  unfold pt_ok vd Vd
  simp
theorem pt_eq (p : S30) : pt_ok p = decide (Vd p.f0 p.f1) := by
  unfold pt_ok Vd
  rfl
def AllV (l : List S30) : Prop := ∀ p ∈ l, vd p
theorem all_iff {l : List S30} : l.all pt_ok = true ↔ AllV l := by
  rw [List.all_eq_true]
  constructor
  · intro h p hp; exact pt_iff.1 (h p hp)
  · intro h p hp; exact pt_iff.2 (h p hp)
theorem valid_eq {l : List S30} (hl : l.length ≤ 1000000) : poly_valid.f l = some (l.all pt_ok) := by
  unfold poly_valid.f
  rw [if_pos hl]
theorem rAll_l0 (l : List S30) (hl : l.length ≤ 1000000) (n : Nat) : ∀ i : Int, 0 ≤ i → (l.length : Int) - i = n → Ev (fun k => mapmakerref08_All.l0 k l i) ((l.drop i.toNat).all pt_ok) := by
  induction n with
  | zero =>
    intro i h0 h1
    refine Ev_round (fun k => by rw [mapmakerref08_All.l0]) (Ev_neg (by omega) (Ev_const ?_))
    rw [drop_end (by omega)]
    rfl
  | succ n ih =>
    intro i h0 h1
    refine Ev_round (fun k => by rw [mapmakerref08_All.l0]) (Ev_pos (by omega) (Ev_pos h0 ?_))
    rw [drop_at z30 h0 (by omega), List.all_cons]
    refine Ev.bind (Ev_const (rValid_eq _ _)) ?_
    have e0 : pt_ok (l.getD i.toNat z30) = decide (Vd (rd_T30 l i).f0 (rd_T30 l i).f1) := pt_eq _
    rw [e0]
    by_cases h : Vd (rd_T30 l i).f0 (rd_T30 l i).f1
    · refine Ev_pos (by simpa using h) ?_
      rw [wrap_in ⟨by omega, by omega⟩, decide_eq_true h, Bool.true_and]
      exact ih (i + 1) (by omega) (by omega)
    · refine Ev_neg (by simpa using h) (Ev_const ?_)
      rw [decide_eq_false h, Bool.false_and]
theorem rAll_ev (l : List S30) (hl : l.length ≤ 1000000) : Ev (fun k => mapmakerref08_All.f k l) (l.all pt_ok) := by
  refine Ev.congr (fun k => by rw [mapmakerref08_All.f]) ?_
  exact rAll_l0 l hl l.length 0 (by decide) (by omega)
/-- The point at i, and the next one. -/
abbrev at_ (l : List S30) (i : Nat) : S30 := rd_T30 l (i : Nat)
abbrev nx (l : List S30) (i : Nat) : S30 := rd_T30 l ((i + 1) % l.length : Nat)
theorem next_eq {l : List S30} {i : Nat} (hi : i < l.length) (hl : l.length ≤ 1000000) : Int.tmod (wrap64 ((i : Int) + 1)) (l.length : Int) = (((i + 1) % l.length : Nat) : Int) := by
  rw [wrap_in ⟨by omega, by omega⟩, tmod_nn (by omega)]
  exact (Int.natCast_emod (i + 1) l.length).symm
theorem next_lt {l : List S30} {i : Nat} (hi : i < l.length) : (i + 1) % l.length < l.length := Nat.mod_lt _ (by omega)
theorem rd_mem {l : List S30} {i : Nat} (hi : i < l.length) : at_ l i ∈ l := by
  have := getD_mem (l := l) z30 (i := (i : Int)) (by omega) (by omega)
  exact this
end Go.Proofs.Ytggafoldccikdaa.Po
