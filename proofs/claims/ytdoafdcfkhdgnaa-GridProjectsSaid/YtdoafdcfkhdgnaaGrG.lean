/- The reference for the grid: Project and Center. -/
import Derived.Test.YtdoafdcfkhdgnaaGrF
import Derived.Test.YtdoafdcfkhdgnaaGrR
import Derived.Test.YtdoafdcfkhdgnaaPAllx31
import Derived.Test.YtdoafdcfkhdgnaaPAllx33
namespace Go.Proofs.Ytdoafdcfkhdgnaa.Gr
open Go.RowKit Go.Proofs.Ytdoafdcfkhdgnaa.PAll Go.Proofs.YtdoafdcfkhdgnaaW.PrintWords Go.Proofs.YtdoafdcfkhdgnaaW.PrintLast Go.Proofs.YtdoafdcfkhdgnaaW.PrintMore Go.Proofs.Ytdoafdcfkhdgnaa.Bas
set_option linter.unusedVariables false
set_option linter.unusedSimpArgs false

theorem rProject_eq (lon lat : Int) : mapmakerref08_Project.f lon lat = some (proj lon lat) := by
  unfold mapmakerref08_Project.f proj
  by_cases c1 : lon < -1800000000
  · rw [if_pos c1, if_neg (by omega)]
  · rw [if_neg c1]
    by_cases c2 : lon > 1800000000
    · rw [if_pos c2, if_neg (by omega)]
    · rw [if_neg c2]
      by_cases c3 : lat < -900000000
      · rw [if_pos c3, if_neg (by omega)]
      · rw [if_neg c3]
        by_cases c4 : lat > 900000000
        · rw [if_pos c4, if_neg (by omega)]
        · rw [if_neg c4, if_pos (by omega), wrap_in (x := lon + 1800000000) ⟨by omega, by omega⟩, wrap_in (x := (lon + 1800000000) * 32768) ⟨by omega, by omega⟩, wrap_in (x := 900000000 - lat) ⟨by omega, by omega⟩, wrap_in (x := (900000000 - lat) * 32768) ⟨by omega, by omega⟩, tdiv_nn (by omega), tdiv_nn (by omega), wrap_in (x := (lon + 1800000000) * 32768 / 3600000000) ⟨by omega, by omega⟩, wrap_in (x := (900000000 - lat) * 32768 / 1800000000) ⟨by omega, by omega⟩, mn_eq, mn_eq]

theorem rCenter_eq (x y : Int) : mapmakerref08_Center.f x y = some (cent x y) := by
  unfold mapmakerref08_Center.f cent
  rw [rValid_eq]
  by_cases h : Vd x y
  · have h' := h
    obtain ⟨v1, v2, v3, v4⟩ := h'
    rw [wrap_in (x := 2 * x) ⟨by omega, by omega⟩, wrap_in (x := 2 * x + 1) ⟨by omega, by omega⟩, wrap_in (x := (2 * x + 1) * 1800000000) ⟨by omega, by omega⟩, wrap_in (x := 2 * y) ⟨by omega, by omega⟩, wrap_in (x := 2 * y + 1) ⟨by omega, by omega⟩, wrap_in (x := (2 * y + 1) * 900000000) ⟨by omega, by omega⟩, tdiv_nn (by omega), tdiv_nn (by omega), wrap_in (x := (2 * x + 1) * 1800000000 / 32768) ⟨by omega, by omega⟩, wrap_in (x := (2 * y + 1) * 900000000 / 32768) ⟨by omega, by omega⟩]
    simp only [h, decide_true, Option.bind_some, if_true]
    rw [wrap_in ⟨by omega, by omega⟩, wrap_in ⟨by omega, by omega⟩]
  · simp [h]
end Go.Proofs.Ytdoafdcfkhdgnaa.Gr
