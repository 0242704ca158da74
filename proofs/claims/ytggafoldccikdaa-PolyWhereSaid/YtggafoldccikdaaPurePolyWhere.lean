/- Where: the code's and the reference's, each against one plain function. -/
import Derived.Test.YtggafoldccikdaaPoB
import Derived.Test.YtggafoldccikdaaSgN
import Derived.Test.YtggafoldccikdaaPAllx41
import Derived.Test.YtggafoldccikdaaPAllx40
import Derived.Test.YtggafoldccikdaaPAllx1
import Derived.Test.YtggafoldccikdaaPAllx18
namespace Go.Proofs.Ytggafoldccikdaa.Pure
open Go.RowKit Go.Proofs.Ytggafoldccikdaa.PAll Go.Proofs.YtggafoldccikdaaW.PrintWords Go.Proofs.YtggafoldccikdaaW.PrintLast Go.Proofs.YtggafoldccikdaaW.PrintMore Go.Proofs.Ytggafoldccikdaa.Bas Go.Proofs.Ytggafoldccikdaa.Sg Go.Proofs.Ytggafoldccikdaa.Po
set_option linter.unusedVariables false
set_option linter.unusedSimpArgs false

def crs (a b p : S30) : Bool := if ((decide (a.f1 > p.f1)) == (decide (b.f1 > p.f1))) = true then false else if b.f1 > a.f1 then decide (crS a b p > 0) else decide (crS a b p < 0)
theorem crossUp_ev {a b p : S30} (ha : vd a) (hb : vd b) (hp : vd p) : Ev (fun k => crossUp k a b p) (decide (a.f1 ≤ p.f1 ∧ b.f1 > p.f1 ∧ crS a b p > 0)) := by
  refine Ev.congr (fun k => by rw [crossUp]) ?_
  by_cases h1 : a.f1 ≤ p.f1
  · refine Ev_pos h1 ?_
    by_cases h2 : b.f1 > p.f1
    · refine Ev_pos h2 (Ev.bind (Turn_ev _ _ _ _ _ _) (Ev_const ?_))
      rw [trn_cr ha hb hp]
      simp [h1, h2]
    · refine Ev_neg h2 (Ev_const ?_)
      simp [h2]
  · refine Ev_neg h1 (Ev_const ?_)
    simp [h1]
theorem crossOf_ev {a b p : S30} (ha : vd a) (hb : vd b) (hp : vd p) : Ev (fun k => crossOf k a b p) (crs a b p) := by
  refine Ev.congr (fun k => by rw [crossOf]) ?_
  by_cases h : a.f1 > b.f1
  · refine Ev_pos h (Ev_eq ?_ (crossUp_ev hb ha hp))
    unfold crs
    rw [cr_swap (a := a) (b := b)]
    by_cases h1 : a.f1 > p.f1 <;> by_cases h2 : b.f1 > p.f1
    · rw [if_pos (by simp [h1, h2])]
      simp; omega
    · rw [if_neg (by simp [h1, h2]), if_neg (by omega)]
      simp only [decide_eq_decide]; omega
    · omega
    · rw [if_pos (by simp [h1, h2])]
      simp; omega
  · refine Ev_neg h (Ev_eq ?_ (crossUp_ev ha hb hp))
    unfold crs
    by_cases h1 : a.f1 > p.f1 <;> by_cases h2 : b.f1 > p.f1
    · rw [if_pos (by simp [h1, h2])]
      simp; omega
    · omega
    · rw [if_neg (by simp [h1, h2]), if_pos (by omega)]
      simp only [decide_eq_decide]; omega
    · rw [if_pos (by simp [h1, h2])]
      simp; omega
theorem rCross_eq {a b p : S30} (ha : vd a) (hb : vd b) (hp : vd p) : mapmakerref11_Crosses.f a.f0 a.f1 b.f0 b.f1 p.f0 p.f1 = some (crs a b p) := by
  have w := cr_wrap (au := a.f0) (av := a.f1) (bu := b.f0) (bv := b.f1) (cu := p.f0) (cv := p.f1) ⟨ha, hb, hp⟩
  have e : wrap64 (wrap64 (wrap64 (p.f1 - a.f1) * wrap64 (b.f0 - a.f0)) - wrap64 (wrap64 (p.f0 - a.f0) * wrap64 (b.f1 - a.f1))) = crS a b p := by
    rw [Int.mul_comm (wrap64 (p.f1 - a.f1)), Int.mul_comm (wrap64 (p.f0 - a.f0))]
    exact w.1
  unfold mapmakerref11_Crosses.f crs
  rw [e]
  split
  · rfl
  · split <;> rfl
def whP (l : List S30) (p : S30) : Nat → Nat → Bool → Int
 | 0, _, ins => if ins = true then 2 else 0
 | d + 1, i, ins => if on p (at_ l i) (nx l i) then 1 else whP l p d (i + 1) (ins != crs (at_ l i) (nx l i) p)
theorem where_ev {l : List S30} {p : S30} (hv : AllV l) (hp : vd p) : ∀ (d i : Nat) (ins : Bool), i + d = l.length → Ev (fun k => whereFrom k l p d i ins) (whP l p d i ins) := by
  intro d
  induction d with
  | zero => intro i ins h; exact Ev_const rfl
  | succ d ih =>
    intro i ins h
    have ha : vd (at_ l i) := hv _ (rd_mem (by omega))
    have hb : vd (nx l i) := hv _ (rd_mem (next_lt (by omega)))
    refine Ev.congr (fun k => by rw [whereFrom]) ?_
    refine Ev.bind (On_ev _ _ _ _ _ _) (Ev.bind (crossOf_ev ha hb hp) ?_)
    unfold whP
    by_cases o : on p (at_ l i) (nx l i)
    · rw [if_pos o]
      exact Ev_pos (dl.2 o) (Ev.now _)
    · rw [if_neg o]
      exact Ev_neg (fun h => o (dl.1 h)) (ih (i + 1) _ (by omega))
theorem rwhere_ev {l : List S30} {p : S30} (hv : AllV l) (hp : vd p) (hl : l.length ≤ 1000000) : ∀ (d i : Nat) (ins : Bool), i + d = l.length → Ev (fun k => mapmakerref11_Where.l0 k l ins (i : Int) p.f0 p.f1) (whP l p d i ins) := by
  intro d
  induction d with
  | zero =>
    intro i ins h
    refine Ev_round (fun k => by rw [mapmakerref11_Where.l0]) (Ev_neg (by omega) ?_)
    unfold whP
    exact Ev_ite (fun _ => Ev.now _) (fun _ => Ev.now _)
  | succ d ih =>
    intro i ins h
    have ha : vd (at_ l i) := hv _ (rd_mem (by omega))
    have hb : vd (nx l i) := hv _ (rd_mem (next_lt (by omega)))
    have hn := next_lt (l := l) (i := i) (by omega)
    have wi : wrap64 ((i : Int) + 1) = ((i + 1 : Nat) : Int) := by rw [wrap_in ⟨by omega, by omega⟩]; rfl
    refine Ev_round (fun k => by rw [mapmakerref11_Where.l0]) (Ev_pos (by omega) (Ev_pos (by omega) (Ev_neg (by omega) ?_)))
    rw [next_eq (by omega) hl]
    refine Ev_pos (by omega) (Ev_pos (by omega) ?_)
    unfold whP
    have j2 : ∀ t : Bool, (t = true ↔ on p (at_ l i) (nx l i)) → Ev (fun k => mapmakerref11_Where.j2 k l ins (i : Int) t p.f0 p.f1 (at_ l i).f0 (at_ l i).f1 (nx l i).f0 (nx l i).f1) (if on p (at_ l i) (nx l i) then 1 else whP l p d (i + 1) (ins != crs (at_ l i) (nx l i) p)) := by
      intro t ht
      refine Ev_round (fun k => by rw [mapmakerref11_Where.j2]) ?_
      by_cases o : on p (at_ l i) (nx l i)
      · rw [if_pos o]
        exact Ev_pos (ht.2 o) (Ev.now _)
      · rw [if_neg o]
        refine Ev_neg (fun h => o (ht.1 h)) (Ev.bind (Ev_const (rCross_eq ha hb hp)) ?_)
        rw [wi]
        by_cases c : crs (at_ l i) (nx l i) p = true
        · refine Ev_pos c (Ev_eq ?_ (ih (i + 1) (!ins) (by omega)))
          rw [c]; cases ins <;> rfl
        · refine Ev_neg c (Ev_eq ?_ (ih (i + 1) ins (by omega)))
          rw [Bool.not_eq_true] at c
          rw [c]; cases ins <;> rfl
    by_cases e : at_ l i = p
    · refine Ev_pos (eqS.2 e) (j2 true ⟨fun _ => ?_, fun _ => rfl⟩)
      rw [← e]
      exact (on_self ha hb).1
    · refine Ev_neg (fun h => e (eqS.1 h)) (Ev.bind (Ev_const (rOn_eq _ _ _ _ _ _)) (j2 _ dl))
theorem PolyWhere : mapmakerlaw11_PolyWhere.Pure := by
  intro l p0 p1 hs hp
  refine Ev.rounds (Ev.congr (fun k => by rw [mapmakerlaw11_PolyWhere.f]) ?_)
  refine Ev.bind (Ev_const rfl) ?_
  by_cases hf : (l.length : Int) ≤ 40
  · refine Ev_pos (decide_eq_true hf) ?_
    have hl : l.length ≤ 1000000 := by omega
    suffices h : ∃ r : Int, Ev (fun k => poly_Where.f k l p0 p1) r ∧ Ev (fun k => mapmakerref11_Where.f k l p0 p1) r by
      obtain ⟨r, h1, h2⟩ := h
      exact Ev.bind h1 (Ev.bind h2 (Ev_pos rfl fin_ev))
    have z : ∀ {q0 q1 : Int}, Ev (fun k => mapmakerref11_Where.j0 k l true q0 q1) 0 := by
      intro q0 q1
      exact Ev_round (fun k => by rw [mapmakerref11_Where.j0]) (Ev_pos rfl (Ev.now _))
    by_cases h3 : (l.length : Int) < 3
    · refine ⟨0, ?_, ?_⟩
      · exact Ev.congr (fun k => by rw [poly_Where.f]) (Ev_pos h3 (Ev.now _))
      · exact Ev.congr (fun k => by rw [mapmakerref11_Where.f]) (Ev_pos h3 z)
    · by_cases hv : l.all pt_ok = true
      · by_cases hq : pt_ok ⟨p0, p1⟩ = true
        · have V := all_iff.1 hv
          have P := pt_iff.1 hq
          refine ⟨whP l ⟨p0, p1⟩ l.length 0 false, ?_, ?_⟩
          · exact Ev.congr (fun k => by rw [poly_Where.f]) (Ev_neg h3 (Ev.bind (Ev_const (valid_eq hl)) (Ev_pos hv (Ev_pos hq (where_ev V P l.length 0 false (by omega))))))
          · refine Ev.congr (fun k => by rw [mapmakerref11_Where.f]) (Ev_neg h3 (Ev.bind (rAll_ev l hl) (Ev_pos hv (Ev.bind (Ev_const (rValid_eq _ _)) ?_))))
            have P' : Vd p0 p1 := P
            refine Ev_round (fun k => by rw [mapmakerref11_Where.j0]) (Ev_neg (by simp [P']) ?_)
            exact rwhere_ev V P hl l.length 0 false (by omega)
        · refine ⟨0, ?_, ?_⟩
          · exact Ev.congr (fun k => by rw [poly_Where.f]) (Ev_neg h3 (Ev.bind (Ev_const (valid_eq hl)) (Ev_pos hv (Ev_neg hq (Ev.now _)))))
          · refine Ev.congr (fun k => by rw [mapmakerref11_Where.f]) (Ev_neg h3 (Ev.bind (rAll_ev l hl) (Ev_pos hv (Ev.bind (Ev_const (rValid_eq _ _)) ?_))))
            have P' : ¬ Vd p0 p1 := fun h => hq (pt_iff.2 h)
            rw [decide_eq_false P']
            exact z
      · refine ⟨0, ?_, ?_⟩
        · exact Ev.congr (fun k => by rw [poly_Where.f]) (Ev_neg h3 (Ev.bind (Ev_const (valid_eq hl)) (Ev_neg hv (Ev.now _))))
        · exact Ev.congr (fun k => by rw [mapmakerref11_Where.f]) (Ev_neg h3 (Ev.bind (rAll_ev l hl) (Ev_neg hv z)))
  · exact Ev_neg (by simpa using hf) fin_ev

end Go.Proofs.Ytggafoldccikdaa.Pure
