-- Written by a program of this session (wip/tools), over the words that print.sh lays.
import Derived.Test.YtfinlgckalbfoaaPAllx0
import Derived.Test.YtfinlgckalbfoaaPAllx2
namespace Go.Proofs.Ytfinlgckalbfoaa.PAll
open Go.RowKit Go.Proofs.YtfinlgckalbfoaaW.PrintWords Go.Proofs.YtfinlgckalbfoaaW.PrintLast Go.Proofs.YtfinlgckalbfoaaW.PrintMore
attribute [local go_sem] max2_int min2_int max_two min_two max_three min_three max_four min_four   -- for this text's walks alone
set_option linter.unusedVariables false
set_option linter.unusedSimpArgs false
attribute [local irreducible] Calls

/-! ### mapmakerref54_zero: function 22 -/
def mapmakerref54_zero.f (k : Nat)  : Option (ByteArray) := (mapmakerref54_pad.f k (⟨#[]⟩ : ByteArray)).bind fun t101 => (some t101)
theorem mapmakerref54_zero.mono : ∀ k, LeO (mapmakerref54_zero.f k ) (mapmakerref54_zero.f (k + 1) ) := by
  intro  k
  unfold mapmakerref54_zero.f
  repeat' first
      | (with_reducible exact mapmakerref54_pad.mono _ _)
      | (with_reducible exact LeO.refl _)
      | (with_reducible exact LeO.none _)
      | (with_reducible refine LeO.ite ?_ ?_)
      | (with_reducible refine LeO.bind ?_ (fun _ => ?_))
      | exact mapmakerref54_pad.mono _ _
      | exact LeO.none _
      | refine LeO.ite ?_ ?_
      | refine LeO.bind ?_ (fun _ => ?_)
set_option maxHeartbeats 8000000 in
set_option maxRecDepth 100000 in
theorem mapmakerref54_zero.calls (k : Nat)  (r : ByteArray) (w : World) (h : mapmakerref54_zero.f k  = some r) :
    Calls Try.prog 22 #[] w fun e w' => e = .returned (.string r) ∧ Drawn0 w w' := by
  have H : ((mapmakerref54_pad.f k (⟨#[]⟩ : ByteArray)).bind fun t101 => (some t101)) = some r := h
  clear h
  replace H := Option.bind_eq_some_iff.mp H
  obtain ⟨t101, A10, H⟩ := H
  replace H : (some t101) = some r := H
  have A1 := Aside0.mk A10
  clear A10
  obtain rfl := Option.some.inj H
  go_enter Try.func22, Try.ntmps22
  go_wp2_with (first | ((with_reducible refine gate_callee (f := 24) rfl ?_); refine goesL_ (some 1) rfl rfl Try.func24 (by kernel_rfl) rfl #[.string (⟨#[]⟩ : ByteArray)] rfl (by (try simp only [List.map_toArray, List.map_cons, List.map_nil]); first | done | rfl | (simp only [List.length_drop, List.length_take]; rfl)) ?_; (with_reducible refine (mapmakerref54_pad.calls k (⟨#[]⟩ : ByteArray) t101 _ A1.out).mono ?_); rintro e w' ⟨rfl, ⟨nd, rfl⟩⟩; refine ⟨_, rfl, ?_⟩))
  go_ret
  exact ⟨by first | rfl | (simp; done) | (simp [*]; done), by repeat (first | exact Drawn0.refl _ | apply Drawn0.step)⟩

end Go.Proofs.Ytfinlgckalbfoaa.PAll
