/- The code's Simple, Where and Area2 in closed form. -/
import Derived.Test.YtggafoldccikdaaPoB
import Derived.Test.YtggafoldccikdaaSgN
import Derived.Test.YtggafoldccikdaaPAllx1
import Derived.Test.YtggafoldccikdaaPAllx16
import Derived.Test.YtggafoldccikdaaPAllx18
namespace Go.Proofs.Ytggafoldccikdaa.Pq
open Go.RowKit Go.Proofs.Ytggafoldccikdaa.PAll Go.Proofs.YtggafoldccikdaaW.PrintWords Go.Proofs.YtggafoldccikdaaW.PrintLast Go.Proofs.YtggafoldccikdaaW.PrintMore Go.Proofs.Ytggafoldccikdaa.Bas Go.Proofs.Ytggafoldccikdaa.Sg Go.Proofs.Ytggafoldccikdaa.Po
set_option linter.unusedVariables false
set_option linter.unusedSimpArgs false

theorem wi {i n : Nat} (hi : i < n) (hl : n ≤ 1000000) : wrap64 ((i : Int) + 1) = ((i + 1 : Nat) : Int) := by
  rw [wrap_in ⟨by omega, by omega⟩]
  rfl
/-- What the pair of the sides i and j must be. -/
def want (n i j : Nat) : Int := if j + 1 = i ∨ i + 1 = n ∧ j = 0 then 1 else 0
noncomputable def rl (l : List S30) (i j : Nat) : Int := rel (at_ l i) (nx l i) (at_ l j) (nx l j)
def P1 (l : List S30) (i j : Nat) : Prop := at_ l i ≠ at_ l j ∧ at_ l i ≠ nx l i ∧ at_ l j ≠ nx l j ∧ rl l i j = want l.length i j
section
variable {l : List S30} {r : Bool}
theorem simple_l1 (h3 : 3 ≤ l.length) (hl : l.length ≤ 1000000) {i : Nat} (hi : i < l.length)
    (next : (r = true ↔ ∀ i', i < i' → i' < l.length → ∀ j, j < i' → P1 l i' j) → Ev (fun k => poly_Simple.l0 k l (l.length : Int) (l.length : Int) ((i + 1 : Nat) : Int)) r) :
    ∀ (d j : Nat), j + d = i → (r = true ↔ (∀ j', j ≤ j' → j' < i → P1 l i j') ∧ ∀ i', i < i' → i' < l.length → ∀ j, j < i' → P1 l i' j) →
    Ev (fun k => poly_Simple.l1 k l (l.length : Int) (i : Int) (l.length : Int) (i : Int) (i : Int) (j : Int) (at_ l i).f0 (at_ l i).f1 (nx l i).f0 (nx l i).f1) r := by
  intro d
  induction d with
  | zero =>
    intro j h hr
    refine Ev_round (fun k => by rw [poly_Simple.l1]) (Ev_neg (by omega) ?_)
    rw [wi hi hl]
    refine next (hr.trans ⟨fun h => h.2, fun h => ⟨fun j' a b => by omega, h⟩⟩)
  | succ d ih =>
    intro j h hr
    have hn := next_lt (l := l) (i := j) (by omega)
    have no : ¬ P1 l i j → r = false := by
      intro hp
      rw [← Bool.not_eq_true]
      exact fun e => hp ((hr.1 e).1 j (Nat.le_refl _) (by omega))
    refine Ev_round (fun k => by rw [poly_Simple.l1]) (Ev_pos (by omega) (Ev_pos (by omega) (Ev_pos (by omega) (Ev_neg (by omega) ?_))))
    rw [next_eq (l := l) (i := j) (by omega) hl, wi (n := l.length) (i := j) (by omega) hl, wi (n := l.length) (i := i) (by omega) hl]
    refine Ev_pos (by omega) (Ev_pos (by omega) ?_)
    by_cases e1 : at_ l i = at_ l j
    · exact Ev_pos (eqS.2 e1) (Ev_const (by rw [no (fun h => h.1 e1)]))
    · refine Ev_neg (fun h => e1 (eqS.1 h)) ?_
      have go : P1 l i j → Ev (fun k => poly_Simple.l1 k l (l.length : Int) (i : Int) (l.length : Int) (i : Int) (i : Int) (wrap64 ((j : Int) + 1)) (at_ l i).f0 (at_ l i).f1 (nx l i).f0 (nx l i).f1) r := by
        intro hp
        rw [wi (n := l.length) (i := j) (by omega) hl]
        refine ih (j + 1) (by omega) (hr.trans ⟨fun h => ⟨fun j' a b => h.1 j' (by omega) b, h.2⟩, fun h => ⟨fun j' a b => ?_, h.2⟩⟩)
        by_cases e : j' = j
        · rw [e]; exact hp
        · exact h.1 j' (by omega) b
      have j3 : ∀ t : Bool, (t = true ↔ j + 1 = i ∨ i + 1 = l.length ∧ j = 0) → Ev (fun k => poly_Simple.j3 k l (l.length : Int) (i : Int) 0 (l.length : Int) (i : Int) (i : Int) (j : Int) t (at_ l i).f0 (at_ l i).f1 (nx l i).f0 (nx l i).f1 (at_ l j).f0 (at_ l j).f1 (nx l j).f0 (nx l j).f1) r := by
        intro t ht
        refine Ev_round (fun k => by rw [poly_Simple.j3]) ?_
        by_cases t1 : t = true
        · have w1 : want l.length i j = 1 := if_pos (ht.1 t1)
          refine Ev_pos t1 ?_
          by_cases e2 : at_ l i = nx l i
          · exact Ev_pos (eqS.2 e2) (Ev_const (by rw [no (fun h => h.2.1 e2)]))
          · refine Ev_neg (fun h => e2 (eqS.1 h)) ?_
            by_cases e3 : at_ l j = nx l j
            · exact Ev_pos (eqS.2 e3) (Ev_const (by rw [no (fun h => h.2.2.1 e3)]))
            · refine Ev_neg (fun h => e3 (eqS.1 h)) (Ev.bind (Relate_ev _ _ _ _) ?_)
              by_cases e4 : rl l i j = 1
              · exact Ev_pos e4 (go ⟨e1, e2, e3, by rw [w1]; exact e4⟩)
              · exact Ev_neg e4 (Ev_const (by rw [no (fun h => e4 (by rw [← w1]; exact h.2.2.2))]))
        · have w1 : want l.length i j = 0 := if_neg (fun h => t1 (ht.2 h))
          refine Ev_neg t1 ?_
          by_cases e2 : at_ l i = nx l i
          · exact Ev_pos (eqS.2 e2) (Ev_const (by rw [no (fun h => h.2.1 e2)]))
          · refine Ev_neg (fun h => e2 (eqS.1 h)) ?_
            by_cases e3 : at_ l j = nx l j
            · exact Ev_pos (eqS.2 e3) (Ev_const (by rw [no (fun h => h.2.2.1 e3)]))
            · refine Ev_neg (fun h => e3 (eqS.1 h)) (Ev.bind (Relate_ev _ _ _ _) ?_)
              by_cases e4 : rl l i j = 0
              · exact Ev_pos e4 (go ⟨e1, e2, e3, by rw [w1]; exact e4⟩)
              · exact Ev_neg e4 (Ev_const (by rw [no (fun h => e4 (by rw [← w1]; exact h.2.2.2))]))
      by_cases c1 : j + 1 = i
      · exact Ev_pos (by omega) (j3 true ⟨fun _ => .inl c1, fun _ => rfl⟩)
      · refine Ev_neg (by omega) ?_
        by_cases c2 : i + 1 = l.length
        · refine Ev_pos (by omega) (j3 _ ?_)
          rw [beq_iff_eq]
          omega
        · exact Ev_neg (by omega) (j3 false ⟨fun h => by simp at h, fun h => by omega⟩)
theorem simple_l0 (h3 : 3 ≤ l.length) (hl : l.length ≤ 1000000) : ∀ (d i : Nat), i + d = l.length → (r = true ↔ ∀ i', i ≤ i' → i' < l.length → ∀ j, j < i' → P1 l i' j) →
    Ev (fun k => poly_Simple.l0 k l (l.length : Int) (l.length : Int) (i : Int)) r := by
  intro d
  induction d with
  | zero =>
    intro i h hr
    refine Ev_round (fun k => by rw [poly_Simple.l0]) (Ev_neg (by omega) (Ev_const ?_))
    rw [hr.2 (fun i' a b => by omega)]
  | succ d ih =>
    intro i h hr
    have hn := next_lt (l := l) (i := i) (by omega)
    refine Ev_round (fun k => by rw [poly_Simple.l0]) (Ev_pos (by omega) (Ev_pos (by omega) (Ev_pos (by omega) (Ev_neg (by omega) ?_))))
    rw [next_eq (l := l) (i := i) (by omega) hl]
    refine Ev_pos (by omega) (Ev_pos (by omega) ?_)
    refine simple_l1 h3 hl (by omega) (fun hr' => ih (i + 1) (by omega) (hr'.trans ⟨fun h i' a b => h i' (by omega) b, fun h i' a b => h i' (by omega) b⟩)) i 0 (by omega) (hr.trans ⟨fun h => ⟨fun j' a b => h i (Nat.le_refl _) (by omega) j' b, fun i' a b => h i' (by omega) b⟩, fun h i' a b j hj => ?_⟩)
    by_cases e : i' = i
    · subst e
      exact h.1 j (by omega) hj
    · exact h.2 i' (by omega) b j hj
def Dst (l : List S30) : Prop := ∀ i, i < l.length → ∀ j, j < i → at_ l i ≠ at_ l j
def Rls (l : List S30) : Prop := ∀ i, i < l.length → ∀ j, j < i → rl l i j = want l.length i j
theorem Dst.next (h3 : 3 ≤ l.length) (h : Dst l) {i : Nat} (hi : i < l.length) : at_ l i ≠ nx l i := by
  have hn := next_lt hi
  show at_ l i ≠ at_ l ((i + 1) % l.length)
  by_cases e : i + 1 = l.length
  · have : (i + 1) % l.length = 0 := by rw [e]; exact Nat.mod_self _
    rw [this]
    exact h i hi 0 (by omega)
  · have : (i + 1) % l.length = i + 1 := Nat.mod_eq_of_lt (by omega)
    rw [this]
    exact fun e => h (i + 1) (by omega) i (by omega) e.symm
theorem simple_iff (h3 : 3 ≤ l.length) : (∀ i, 0 ≤ i → i < l.length → ∀ j, j < i → P1 l i j) ↔ Dst l ∧ Rls l := by
  constructor
  · intro h
    exact ⟨fun i hi j hj => (h i (by omega) hi j hj).1, fun i hi j hj => (h i (by omega) hi j hj).2.2.2⟩
  · rintro ⟨h1, h2⟩ i _ hi j hj
    exact ⟨h1 i hi j hj, h1.next h3 hi, h1.next h3 (by omega), h2 i hi j hj⟩
noncomputable def simpleP (l : List S30) : Bool := @decide (3 ≤ l.length ∧ AllV l ∧ Dst l ∧ Rls l) (Classical.propDecidable _)
theorem simpleP_iff (h3 : 3 ≤ l.length) (hv : AllV l) : simpleP l = true ↔ Dst l ∧ Rls l := by
  unfold simpleP
  rw [@decide_eq_true_iff _ (Classical.propDecidable _)]
  exact ⟨fun h => h.2.2, fun h => ⟨h3, hv, h⟩⟩
theorem simple_ev (l : List S30) (hl : l.length ≤ 1000000) : Ev (fun k => poly_Simple.f k l) (simpleP l) := by
  have n1 : Ev (fun k => poly_Simple.j0 k l (l.length : Int) true) false := Ev_round (fun k => by rw [poly_Simple.j0]) (Ev_pos rfl (Ev.now _))
  by_cases h3 : (l.length : Int) < 3
  · have e : simpleP l = false := @decide_eq_false _ (Classical.propDecidable _) (fun h => by omega)
    rw [e]
    exact Ev.congr (fun k => by rw [poly_Simple.f]) (Ev_pos h3 n1)
  · by_cases hv : l.all pt_ok = true
    · have hr := simpleP_iff (l := l) (by omega) (all_iff.1 hv)
      refine Ev.congr (fun k => by rw [poly_Simple.f]) (Ev_neg h3 (Ev.bind (Ev_const (valid_eq hl)) ?_))
      rw [hv]
      refine Ev_round (fun k => by rw [poly_Simple.j0]) ?_
      exact Ev_neg (by decide) ((simple_l0 (by omega) hl l.length 0 (by omega) (hr.trans (simple_iff (by omega)).symm)))
    · have e : simpleP l = false := @decide_eq_false _ (Classical.propDecidable _) (fun h => hv (all_iff.2 h.2.1))
      have hv' : l.all pt_ok = false := by simpa using hv
      rw [e]
      refine Ev.congr (fun k => by rw [poly_Simple.f]) (Ev_neg h3 (Ev.bind (Ev_const (valid_eq hl)) ?_))
      rw [hv']; exact n1
end
theorem area_eq (l : List S30) (hl : l.length ≤ 1000000) : poly_Area2.f l = some (if l.all pt_ok = true then areaUpto l l.length else 0) := by
  unfold poly_Area2.f
  rw [valid_eq hl, Option.bind_some]
  split <;> rfl
def crs (a b p : S30) : Bool := if ((decide (a.f1 > p.f1)) == (decide (b.f1 > p.f1))) = true then false else if b.f1 > a.f1 then decide (crS a b p > 0) else decide (crS a b p < 0)
theorem crossUp_ev {a b p : S30} (ha : vd a) (hb : vd b) (hp : vd p) : Ev (fun k => crossUp k a b p) (decide (a.f1 ≤ p.f1 ∧ b.f1 > p.f1 ∧ crS a b p > 0)) := by
  refine Ev.congr (fun k => by rw [crossUp]) ?_
  by_cases h1 : a.f1 ≤ p.f1
  · refine Ev_pos h1 ?_
    by_cases h2 : b.f1 > p.f1
    · refine Ev_pos h2 (Ev.bind (Turn_ev _ _ _ _ _ _) (Ev_const ?_))
      rw [trn_cr ha hb hp]
      simp [h1, h2]
    · refine Ev_neg h2 (Ev_const ?_)
      simp [h2]
  · refine Ev_neg h1 (Ev_const ?_)
    simp [h1]
theorem crossOf_ev {a b p : S30} (ha : vd a) (hb : vd b) (hp : vd p) : Ev (fun k => crossOf k a b p) (crs a b p) := by
  refine Ev.congr (fun k => by rw [crossOf]) ?_
  by_cases h : a.f1 > b.f1
  · refine Ev_pos h (Ev_eq ?_ (crossUp_ev hb ha hp))
    unfold crs
    rw [cr_swap (a := a) (b := b)]
    by_cases h1 : a.f1 > p.f1 <;> by_cases h2 : b.f1 > p.f1
    · rw [if_pos (by simp [h1, h2])]
      simp; omega
    · rw [if_neg (by simp [h1, h2]), if_neg (by omega)]
      simp only [decide_eq_decide]; omega
    · omega
    · rw [if_pos (by simp [h1, h2])]
      simp; omega
  · refine Ev_neg h (Ev_eq ?_ (crossUp_ev ha hb hp))
    unfold crs
    by_cases h1 : a.f1 > p.f1 <;> by_cases h2 : b.f1 > p.f1
    · rw [if_pos (by simp [h1, h2])]
      simp; omega
    · omega
    · rw [if_neg (by simp [h1, h2]), if_pos (by omega)]
      simp only [decide_eq_decide]; omega
    · rw [if_pos (by simp [h1, h2])]
      simp; omega
def whP (l : List S30) (p : S30) : Nat → Nat → Bool → Int
 | 0, _, ins => if ins = true then 2 else 0
 | d + 1, i, ins => if on p (at_ l i) (nx l i) then 1 else whP l p d (i + 1) (ins != crs (at_ l i) (nx l i) p)
theorem where_ev {l : List S30} {p : S30} (hv : AllV l) (hp : vd p) : ∀ (d i : Nat) (ins : Bool), i + d = l.length → Ev (fun k => whereFrom k l p d i ins) (whP l p d i ins) := by
  intro d
  induction d with
  | zero => intro i ins h; exact Ev_const rfl
  | succ d ih =>
    intro i ins h
    have ha : vd (at_ l i) := hv _ (rd_mem (by omega))
    have hb : vd (nx l i) := hv _ (rd_mem (next_lt (by omega)))
    refine Ev.congr (fun k => by rw [whereFrom]) ?_
    refine Ev.bind (On_ev _ _ _ _ _ _) (Ev.bind (crossOf_ev ha hb hp) ?_)
    unfold whP
    by_cases o : on p (at_ l i) (nx l i)
    · rw [if_pos o]
      exact Ev_pos (dl.2 o) (Ev.now _)
    · rw [if_neg o]
      exact Ev_neg (fun h => o (dl.1 h)) (ih (i + 1) _ (by omega))
def wh (l : List S30) (p : S30) : Int := if l.length < 3 then 0 else if l.all pt_ok = true then (if pt_ok p = true then whP l p l.length 0 false else 0) else 0
theorem Where_ev (l : List S30) (p0 p1 : Int) (hl : l.length ≤ 1000000) : Ev (fun k => poly_Where.f k l p0 p1) (wh l ⟨p0, p1⟩) := by
  refine Ev.congr (fun k => by rw [poly_Where.f]) ?_
  unfold wh
  by_cases h3 : (l.length : Int) < 3
  · rw [if_pos (by omega)]
    exact Ev_pos h3 (Ev.now _)
  rw [if_neg (by omega)]
  refine Ev_neg h3 (Ev.bind (Ev_const (valid_eq hl)) ?_)
  by_cases hv : l.all pt_ok = true
  · rw [if_pos hv]
    refine Ev_pos hv ?_
    by_cases hq : pt_ok ⟨p0, p1⟩ = true
    · rw [if_pos hq]
      exact Ev_pos hq (where_ev (all_iff.1 hv) (pt_iff.1 hq) l.length 0 false (by omega))
    · rw [if_neg hq]
      exact Ev_neg hq (Ev.now _)
  · rw [if_neg hv]
    exact Ev_neg hv (Ev.now _)
end Go.Proofs.Ytggafoldccikdaa.Pq
