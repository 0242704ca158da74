/- Far and Nearer, and the reference's. -/
import Derived.Test.YtgjeiddccfmodaaSg
import Derived.Test.YtgjeiddccfmodaaNmQ
import Derived.Test.YtgjeiddccfmodaaPAllx18
import Derived.Test.YtgjeiddccfmodaaPAllx19
import Derived.Test.YtgjeiddccfmodaaPAllx27
import Derived.Test.YtgjeiddccfmodaaPAllx28
import Derived.Test.YtgjeiddccfmodaaPAllx23
import Derived.Test.YtgjeiddccfmodaaPAllx32
namespace Go.Proofs.Ytgjeiddccfmodaa.Sg
open Go.RowKit Go.Proofs.Ytgjeiddccfmodaa.PAll Go.Proofs.YtgjeiddccfmodaaW.PrintWords Go.Proofs.YtgjeiddccfmodaaW.PrintLast Go.Proofs.YtgjeiddccfmodaaW.PrintMore Go.Proofs.Ytgjeiddccfmodaa.Bas Go.Proofs.Ytgjeiddccfmodaa.Nm
set_option linter.unusedVariables false
set_option linter.unusedSimpArgs false

def d2 (au av bu bv : Int) : Int := (au - bu) * (au - bu) + (av - bv) * (av - bv)
def dot (pu pv au av bu bv : Int) : Int := (bu - au) * (pu - au) + (bv - av) * (pv - av)
theorem sq_nn (a : Int) : 0 ≤ a * a := by
  rcases Int.le_total 0 a with h | h
  · exact Int.mul_nonneg h h
  · rw [← Int.neg_mul_neg]
    exact Int.mul_nonneg (by omega) (by omega)
section
variable {au av bu bv cu cv pu pv : Int}
theorem d2_wrap (a : Vd au av) (b : Vd bu bv) : wrap64 ((wrap64 ((wrap64 (au - bu)) * (wrap64 (au - bu)))) + (wrap64 ((wrap64 (av - bv)) * (wrap64 (av - bv))))) = d2 au av bu bv ∧ 0 ≤ d2 au av bu bv ∧ d2 au av bu bv ≤ 2147483648 := by
  obtain ⟨a1, a2, a3, a4⟩ := a
  obtain ⟨b1, b2, b3, b4⟩ := b
  have p1 := pb (u := au - bu) (v := au - bu) (by omega) (by omega) (by omega) (by omega)
  have p2 := pb (u := av - bv) (v := av - bv) (by omega) (by omega) (by omega) (by omega)
  have n1 := sq_nn (au - bu)
  have n2 := sq_nn (av - bv)
  rw [wrap_in (x := au - bu) ⟨by omega, by omega⟩, wrap_in (x := av - bv) ⟨by omega, by omega⟩, wrap_in (x := (au - bu) * (au - bu)) ⟨by omega, by omega⟩, wrap_in (x := (av - bv) * (av - bv)) ⟨by omega, by omega⟩]
  unfold d2
  exact ⟨wrap_in ⟨by omega, by omega⟩, by omega, by omega⟩
theorem dot_wrap (p : Vd pu pv) (a : Vd au av) (b : Vd bu bv) : wrap64 ((wrap64 ((wrap64 (bu - au)) * (wrap64 (pu - au)))) + (wrap64 ((wrap64 (bv - av)) * (wrap64 (pv - av))))) = dot pu pv au av bu bv := by
  obtain ⟨a1, a2, a3, a4⟩ := a
  obtain ⟨b1, b2, b3, b4⟩ := b
  obtain ⟨c1, c2, c3, c4⟩ := p
  have p1 := pb (u := bu - au) (v := pu - au) (by omega) (by omega) (by omega) (by omega)
  have p2 := pb (u := bv - av) (v := pv - av) (by omega) (by omega) (by omega) (by omega)
  rw [wrap_in (x := bu - au) ⟨by omega, by omega⟩, wrap_in (x := bv - av) ⟨by omega, by omega⟩, wrap_in (x := pu - au) ⟨by omega, by omega⟩, wrap_in (x := pv - av) ⟨by omega, by omega⟩, wrap_in (x := (bu - au) * (pu - au)) ⟨by omega, by omega⟩, wrap_in (x := (bv - av) * (pv - av)) ⟨by omega, by omega⟩]
  unfold dot
  exact wrap_in ⟨by omega, by omega⟩
theorem dist2_eq (a : Vd au av) (b : Vd bu bv) : seg_dist2.f au av bu bv = some (d2 au av bu bv) := by
  unfold seg_dist2.f
  rw [(d2_wrap a b).1]
theorem square_eq (a : Vd au av) (b : Vd bu bv) : mapmakerref09_square.f au av bu bv = some (d2 au av bu bv) := by
  unfold mapmakerref09_square.f
  rw [(d2_wrap a b).1]
/-- The squared distance from a segment, as a fraction. -/
def far (pu pv au av bu bv : Int) : Int × Int :=
  if V3 pu pv au av bu bv then
    (if (au = bu ∧ av = bv) ∨ dot pu pv au av bu bv ≤ 0 ∨ dot pu pv au av bu bv ≥ d2 au av bu bv then (min (d2 pu pv au av) (d2 pu pv bu bv), 1)
     else (cr au av bu bv pu pv * cr au av bu bv pu pv, d2 au av bu bv))
  else (0, 0)
theorem sq_bd {t : Int} (h1 : -2147483648 ≤ t) (h2 : t ≤ 2147483648) : 0 ≤ t * t ∧ t * t ≤ 4611686018427387904 := by
  refine ⟨sq_nn t, ?_⟩
  rcases Int.le_total 0 t with h | h
  · exact Int.le_trans (Int.mul_le_mul h2 h2 h (by omega)) (by decide)
  · rw [← Int.neg_mul_neg]
    exact Int.le_trans (Int.mul_le_mul (show -t ≤ 2147483648 by omega) (show -t ≤ 2147483648 by omega) (by omega) (by omega)) (by decide)
theorem eqb (a b c d : Int) : ((a == b && (c == d)) = true) ↔ (a = b ∧ c = d) := by simp
theorem Far_j0 (h : V3 pu pv au av bu bv) (t : Bool) (ht : t = true ↔ ((au = bu ∧ av = bv) ∨ dot pu pv au av bu bv ≤ 0 ∨ dot pu pv au av bu bv ≥ d2 au av bu bv)) :
    Ev (fun k => seg_Far.j0 k (d2 au av bu bv) t pu pv au av bu bv) (far pu pv au av bu bv) ∧ Ev (fun k => mapmakerref09_Far.j0 k (d2 au av bu bv) t pu pv au av bu bv) (far pu pv au av bu bv) := by
  unfold far
  rw [if_pos h]
  by_cases c : (au = bu ∧ av = bv) ∨ dot pu pv au av bu bv ≤ 0 ∨ dot pu pv au av bu bv ≥ d2 au av bu bv
  · rw [if_pos c]
    refine ⟨Ev_round (fun k => by rw [seg_Far.j0]) (Ev_pos (ht.2 c) (Ev_const ?_)), Ev_round (fun k => by rw [mapmakerref09_Far.j0]) (Ev_pos (ht.2 c) (Ev_const ?_))⟩
    · rw [dist2_eq h.1 h.2.1, dist2_eq h.1 h.2.2]
      simp only [Option.bind_some, mn_eq]
    · rw [square_eq h.1 h.2.1, square_eq h.1 h.2.2]
      simp only [Option.bind_some, mn_eq]
  · rw [if_neg c]
    have cw := cr_wrap (V3_turn h)
    have sb := sq_bd cw.2.1 cw.2.2
    have et : trn au av bu bv pu pv = cr au av bu bv pu pv := if_pos (V3_turn h)
    refine ⟨Ev_round (fun k => by rw [seg_Far.j0]) (Ev_neg (fun e => c (ht.1 e)) (Ev.bind (Turn_ev _ _ _ _ _ _) (Ev_const ?_))), Ev_round (fun k => by rw [mapmakerref09_Far.j0]) (Ev_neg (fun e => c (ht.1 e)) (Ev_const ?_))⟩
    · rw [et, wrap_in ⟨by omega, by omega⟩]
    · rw [rTurn_eq, et]
      simp only [Option.bind_some]
      rw [wrap_in ⟨by omega, by omega⟩]
theorem Far_ev (pu pv au av bu bv : Int) : Ev (fun k => seg_Far.f k pu pv au av bu bv) (far pu pv au av bu bv) := by
  refine Ev.congr (fun k => by rw [seg_Far.f]) (Ev.bind (valid3_ev _ _ _ _ _ _) ?_)
  by_cases h : V3 pu pv au av bu bv
  · refine Ev_pos (by simpa using h) (Ev.bind (Ev_const (dist2_eq h.2.1 h.2.2)) ?_)
    rw [dot_wrap h.1 h.2.1 h.2.2]
    by_cases c1 : au = bu ∧ av = bv
    · exact Ev_pos (by simpa using c1) (Far_j0 h _ (by simp [c1])).1
    · refine Ev_neg (by simpa using c1) ?_
      by_cases c2 : dot pu pv au av bu bv ≤ 0
      · exact Ev_pos c2 (Far_j0 h _ (by simp [c2])).1
      · exact Ev_neg c2 (Far_j0 h _ (by simp [c1, c2])).1
  · refine Ev_neg (by simpa using h) (Ev_const ?_)
    unfold far
    rw [if_neg h]
theorem rFar_ev (pu pv au av bu bv : Int) : Ev (fun k => mapmakerref09_Far.f k pu pv au av bu bv) (far pu pv au av bu bv) := by
  refine Ev.congr (fun k => by rw [mapmakerref09_Far.f]) (Ev.bind (Ev_const (three_eq _ _ _ _ _ _)) ?_)
  by_cases h : V3 pu pv au av bu bv
  · refine Ev_pos (by simpa using h) (Ev.bind (Ev_const (square_eq h.2.1 h.2.2)) ?_)
    rw [dot_wrap h.1 h.2.1 h.2.2]
    by_cases c1 : au = bu ∧ av = bv
    · exact Ev_pos (by simpa using c1) (Far_j0 h _ (by simp [c1])).2
    · refine Ev_neg (by simpa using c1) ?_
      by_cases c2 : dot pu pv au av bu bv ≤ 0
      · exact Ev_pos c2 (Far_j0 h _ (by simp [c2])).2
      · exact Ev_neg c2 (Far_j0 h _ (by simp [c1, c2])).2
  · refine Ev_neg (by simpa using h) (Ev_const ?_)
    unfold far
    rw [if_neg h]
theorem far_isI (pu pv au av bu bv : Int) : IsI (far pu pv au av bu bv).1 ∧ IsI (far pu pv au av bu bv).2 := by
  unfold far
  by_cases h : V3 pu pv au av bu bv
  · rw [if_pos h]
    have w1 := (d2_wrap h.1 h.2.1).2
    have w2 := (d2_wrap h.1 h.2.2).2
    have w3 := (d2_wrap h.2.1 h.2.2).2
    have cw := (cr_wrap (V3_turn h)).2
    have sb := sq_bd cw.1 cw.2
    split
    · exact ⟨⟨by show _ ≤ min _ _; omega, by show min _ _ ≤ _; omega⟩, by show (-9223372036854775808 : Int) ≤ 1; decide, by show (1 : Int) ≤ _; decide⟩
    · exact ⟨⟨by show _ ≤ cr _ _ _ _ _ _ * _; omega, by show cr _ _ _ _ _ _ * _ ≤ _; omega⟩, by show _ ≤ d2 _ _ _ _; omega, by show d2 _ _ _ _ ≤ _; omega⟩
  · rw [if_neg h]
    exact ⟨⟨by decide, by decide⟩, by decide, by decide⟩
/-- The comparison of two fractions. -/
def near (n d m e : Int) : Int := if n < 0 ∨ m < 0 ∨ d ≤ 0 ∨ e ≤ 0 then 0 else cmp n e m d
theorem Nearer_ev {n d m e : Int} (hn : IsI n) (hd : IsI d) (hm : IsI m) (he : IsI e) : Ev (fun k => seg_Nearer.f k n d m e) (near n d m e) := by
  refine Ev.congr (fun k => by rw [seg_Nearer.f]) ?_
  unfold near
  by_cases c1 : d ≤ 0
  · exact Ev_pos c1 (Ev_const (by rw [if_pos (by omega)]))
  · refine Ev_neg c1 ?_
    by_cases c2 : e ≤ 0
    · exact Ev_pos c2 (Ev_const (by rw [if_pos (by omega)]))
    · refine Ev_neg c2 ?_
      by_cases c3 : n < 0
      · exact Ev_pos c3 (Ev_const (by rw [if_pos (by omega)]))
      · refine Ev_neg c3 ?_
        by_cases c4 : m < 0
        · exact Ev_pos c4 (Ev_const (by rw [if_pos (by omega)]))
        · refine Ev_neg c4 ?_
          rw [if_neg (by omega)]
          exact Ev.bind (CmpMul_ev hn he hm hd) (Ev.now _)
theorem rNearer_ev {n d m e : Int} (hn : IsI n) (hd : IsI d) (hm : IsI m) (he : IsI e) : Ev (fun k => mapmakerref09_Nearer.f k n d m e) (near n d m e) := by
  refine Ev.congr (fun k => by rw [mapmakerref09_Nearer.f]) ?_
  unfold near
  by_cases c3 : n < 0
  · exact Ev_pos c3 (Ev_const (by rw [if_pos (by omega)]))
  · refine Ev_neg c3 ?_
    by_cases c4 : m < 0
    · exact Ev_pos c4 (Ev_const (by rw [if_pos (by omega)]))
    · refine Ev_neg c4 ?_
      by_cases c1 : d ≤ 0
      · exact Ev_pos c1 (Ev_const (by rw [if_pos (by omega)]))
      · refine Ev_neg c1 ?_
        by_cases c2 : e ≤ 0
        · exact Ev_pos c2 (Ev_const (by rw [if_pos (by omega)]))
        · refine Ev_neg c2 ?_
          rw [if_neg (by omega)]
          exact Ev.bind (rCmpMul_ev hn he hm hd) (Ev.now _)
end
end Go.Proofs.Ytgjeiddccfmodaa.Sg
