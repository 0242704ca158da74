/- Parent, Children, Less, ID and Tile return what is specified: for any tiles and any number. -/
import Derived.Test.YtdmobbbegdknkaaTg
import Derived.Test.YtdmobbbegdknkaaPAllx34
import Derived.Test.YtdmobbbegdknkaaPAllx39
import Derived.Test.YtdmobbbegdknkaaPAllx42
namespace Go.Proofs.Ytdmobbbegdknkaa.Pure
open Go.RowKit Go.Proofs.Ytdmobbbegdknkaa.PAll Go.Proofs.YtdmobbbegdknkaaW.PrintWords Go.Proofs.YtdmobbbegdknkaaW.PrintLast Go.Proofs.YtdmobbbegdknkaaW.PrintMore Go.Proofs.Ytdmobbbegdknkaa.Bas Go.Proofs.Ytdmobbbegdknkaa.Tg
set_option linter.unusedVariables false

/-- Children. -/
def kin (z x y : Int) : List S30 := if IsTile z x y ∧ z ≠ 7 then [⟨z + 1, 2 * x, 2 * y⟩, ⟨z + 1, 2 * x + 1, 2 * y⟩, ⟨z + 1, 2 * x, 2 * y + 1⟩, ⟨z + 1, 2 * x + 1, 2 * y + 1⟩] else []
theorem kin_length (z x y : Int) : ((kin z x y).length : Int) ≤ 20000 := by
  unfold kin
  split <;> simp
theorem good_small {z x y : Int} (h : IsTile z x y) : 0 ≤ z ∧ z ≤ 7 ∧ 0 ≤ x ∧ x ≤ 127 ∧ 0 ≤ y ∧ y ≤ 127 := by
  have p := pw_pos z
  unfold IsTile at h
  omega
theorem kids_l0 {z x y : Int} (h : IsTile z x y) : Ev (fun k => tilegrid_Children.l0 k [] 0 z x y) [⟨z + 1, 2 * x, 2 * y⟩, ⟨z + 1, 2 * x + 1, 2 * y⟩, ⟨z + 1, 2 * x, 2 * y + 1⟩, ⟨z + 1, 2 * x + 1, 2 * y + 1⟩] := by
  have s := good_small h
  have w0 : wrap64 (0 + 1) = 1 := by decide +kernel
  have w1 : wrap64 (1 + 1) = 2 := by decide +kernel
  have ex0 : wrap64 (wrap64 (2 * x) + 0) = 2 * x := by rw [wrap_in (x := 2 * x) ⟨by omega, by omega⟩, wrap_in ⟨by omega, by omega⟩]; omega
  have ex1 : wrap64 (wrap64 (2 * x) + 1) = 2 * x + 1 := by rw [wrap_in (x := 2 * x) ⟨by omega, by omega⟩, wrap_in ⟨by omega, by omega⟩]
  have ey0 : wrap64 (wrap64 (2 * y) + 0) = 2 * y := by rw [wrap_in (x := 2 * y) ⟨by omega, by omega⟩, wrap_in ⟨by omega, by omega⟩]; omega
  have ey1 : wrap64 (wrap64 (2 * y) + 1) = 2 * y + 1 := by rw [wrap_in (x := 2 * y) ⟨by omega, by omega⟩, wrap_in ⟨by omega, by omega⟩]
  have ez : wrap64 (z + 1) = z + 1 := wrap_in ⟨by omega, by omega⟩
  refine Ev_round (fun k => by rw [tilegrid_Children.l0]) (Ev_pos (by decide) ?_)
  refine Ev_round (fun k => by rw [tilegrid_Children.l1, w0, ex0, ey0, ez]) (Ev_pos (by decide) (Ev_pos (by decide) ?_))
  refine Ev_round (fun k => by rw [tilegrid_Children.l1, w1, ex1, ey0, ez]) (Ev_pos (by decide) (Ev_pos (by simp) ?_))
  refine Ev_round (fun k => by rw [tilegrid_Children.l1, w0]) (Ev_neg (by decide) ?_)
  refine Ev_round (fun k => by rw [tilegrid_Children.l0]) (Ev_pos (by decide) ?_)
  refine Ev_round (fun k => by rw [tilegrid_Children.l1, w0, ex0, ey1, ez]) (Ev_pos (by decide) (Ev_pos (by simp) ?_))
  refine Ev_round (fun k => by rw [tilegrid_Children.l1, w1, ex1, ey1, ez]) (Ev_pos (by decide) (Ev_pos (by simp) ?_))
  refine Ev_round (fun k => by rw [tilegrid_Children.l1, w1]) (Ev_neg (by decide) ?_)
  refine Ev_round (fun k => by rw [tilegrid_Children.l0]) (Ev_neg (by decide) ?_)
  exact Ev_const (by simp)
theorem kids_ev (z x y : Int) : Ev (fun k => tilegrid_Children.f k z x y) (kin z x y) := by
  refine Ev.congr (fun k => by rw [tilegrid_Children.f, check_eq, Option.bind_some]) ?_
  unfold kin
  by_cases g : IsTile z x y
  · refine Ev_pos (chk_zero.2 g) ?_
    by_cases c : z = 7
    · rw [if_neg (fun h => h.2 c), show (z == 7) = true from beq_iff_eq.2 c]
      refine Ev_round (fun k => by rw [tilegrid_Children.j0]) ?_
      exact Ev_pos rfl (Ev.now _)
    · rw [if_pos ⟨g, c⟩, show (z == 7) = false from beq_eq_false_iff_ne.2 c]
      refine Ev_round (fun k => by rw [tilegrid_Children.j0]) ?_
      exact Ev_neg (by decide) (kids_l0 g)
  · rw [if_neg (fun h => g h.1)]
    refine Ev_neg (fun h => g (chk_zero.1 h)) ?_
    refine Ev_round (fun k => by rw [tilegrid_Children.j0]) ?_
    exact Ev_pos rfl (Ev.now _)
theorem rkids_l0 {z x y : Int} (h : IsTile z x y) : Ev (fun k => mapmakerref28_Children.l0 k [] (wrap64 (2 * y)) z x y) [⟨z + 1, 2 * x, 2 * y⟩, ⟨z + 1, 2 * x + 1, 2 * y⟩, ⟨z + 1, 2 * x, 2 * y + 1⟩, ⟨z + 1, 2 * x + 1, 2 * y + 1⟩] := by
  have s := good_small h
  have wx : wrap64 (2 * x) = 2 * x := wrap_in ⟨by omega, by omega⟩
  have wy : wrap64 (2 * y) = 2 * y := wrap_in ⟨by omega, by omega⟩
  have ex1 : wrap64 (2 * x + 1) = 2 * x + 1 := wrap_in ⟨by omega, by omega⟩
  have ex2 : wrap64 (2 * x + 2) = 2 * x + 2 := wrap_in ⟨by omega, by omega⟩
  have ex3 : wrap64 (2 * x + 1 + 1) = 2 * x + 2 := by rw [wrap_in (x := 2 * x + 1 + 1) ⟨by omega, by omega⟩]; omega
  have ey1 : wrap64 (2 * y + 1) = 2 * y + 1 := wrap_in ⟨by omega, by omega⟩
  have ey2 : wrap64 (2 * y + 2) = 2 * y + 2 := wrap_in ⟨by omega, by omega⟩
  have ey3 : wrap64 (2 * y + 1 + 1) = 2 * y + 2 := by rw [wrap_in (x := 2 * y + 1 + 1) ⟨by omega, by omega⟩]; omega
  have ez : wrap64 (z + 1) = z + 1 := wrap_in ⟨by omega, by omega⟩
  rw [wy]
  refine Ev_round (fun k => by rw [mapmakerref28_Children.l0, wy, wx, ey2]) (Ev_pos (by omega) ?_)
  refine Ev_round (fun k => by rw [mapmakerref28_Children.l1, wx, ex2, ex1, ez]) (Ev_pos (by omega) (Ev_pos (by decide) ?_))
  refine Ev_round (fun k => by rw [mapmakerref28_Children.l1, wx, ex2, ex3, ez]) (Ev_pos (by omega) (Ev_pos (by simp) ?_))
  refine Ev_round (fun k => by rw [mapmakerref28_Children.l1, wx, ex2, ey1]) (Ev_neg (by omega) ?_)
  refine Ev_round (fun k => by rw [mapmakerref28_Children.l0, wy, wx, ey2]) (Ev_pos (by omega) ?_)
  refine Ev_round (fun k => by rw [mapmakerref28_Children.l1, wx, ex2, ex1, ez]) (Ev_pos (by omega) (Ev_pos (by simp) ?_))
  refine Ev_round (fun k => by rw [mapmakerref28_Children.l1, wx, ex2, ex3, ez]) (Ev_pos (by omega) (Ev_pos (by simp) ?_))
  refine Ev_round (fun k => by rw [mapmakerref28_Children.l1, wx, ex2, ey3]) (Ev_neg (by omega) ?_)
  refine Ev_round (fun k => by rw [mapmakerref28_Children.l0, wy, ey2]) (Ev_neg (by omega) ?_)
  exact Ev_const (by simp)
theorem rkids_ev (z x y : Int) : Ev (fun k => mapmakerref28_Children.f k z x y) (kin z x y) := by
  refine Ev.congr (fun k => by rw [mapmakerref28_Children.f]) (Ev.bind (rcheck_ev z x y) ?_)
  unfold kin
  by_cases g : IsTile z x y
  · refine Ev_pos (chk_zero.2 g) ?_
    by_cases c : z = 7
    · rw [if_neg (fun h => h.2 c), show (z == 7) = true from beq_iff_eq.2 c]
      refine Ev_round (fun k => by rw [mapmakerref28_Children.j0]) ?_
      exact Ev_pos rfl (Ev.now _)
    · rw [if_pos ⟨g, c⟩, show (z == 7) = false from beq_eq_false_iff_ne.2 c]
      refine Ev_round (fun k => by rw [mapmakerref28_Children.j0]) ?_
      exact Ev_neg (by decide) (rkids_l0 g)
  · rw [if_neg (fun h => g h.1)]
    refine Ev_neg (fun h => g (chk_zero.1 h)) ?_
    refine Ev_round (fun k => by rw [mapmakerref28_Children.j0]) ?_
    exact Ev_pos rfl (Ev.now _)
theorem fin_ev : Ev (fun k => (mapmakerlaw28_lives.f k).bind fun t => some t) true := Ev.bind lives_ev (Ev.now _)
theorem TilegridKin : mapmakerlaw28_TilegridKin.Pure := by
  intro z x y w u v i _ _ hi
  refine Ev.rounds ?_
  refine Ev.congr (fun k => by rw [mapmakerlaw28_TilegridKin.f, par_eq, Option.bind_some]) (Ev.bind (rpar_ev z x y) ?_)
  refine Ev.bind (tile_ev (isI hi)) (Ev.bind (rtile_ev (isI hi)) ?_)
  refine Ev_pos (by simp) (Ev_pos (by simp) (Ev_pos (by simp) (Ev_pos (by simp) ?_)))
  refine Ev.bind (kids_ev z x y) (Ev.bind (rkids_ev z x y) (Ev.bind (same_ev _ (kin_length _ _ _)) (Ev_pos rfl ?_)))
  refine Ev.congr (fun k => by rw [less_eq, Option.bind_some, rless_eq, Option.bind_some]) (Ev_pos (by simp) ?_)
  exact Ev.bind (id_ev z x y) (Ev.bind (rid_ev z x y) (Ev_pos rfl fin_ev))
end Go.Proofs.Ytdmobbbegdknkaa.Pure
