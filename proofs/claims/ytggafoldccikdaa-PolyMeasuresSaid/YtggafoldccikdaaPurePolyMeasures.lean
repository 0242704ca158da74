/- Area2, Simple, Segs: the code's and the reference's. -/
import Derived.Test.YtggafoldccikdaaPoB
import Derived.Test.YtggafoldccikdaaSgO
import Derived.Test.YtggafoldccikdaaPAllx38
import Derived.Test.YtggafoldccikdaaPAllx27
import Derived.Test.YtggafoldccikdaaPAllx36
import Derived.Test.YtggafoldccikdaaPAllx30
import Derived.Test.YtggafoldccikdaaPAllx1
import Derived.Test.YtggafoldccikdaaPAllx16
import Derived.Test.YtggafoldccikdaaPAllx17
namespace Go.Proofs.Ytggafoldccikdaa.Pure
open Go.RowKit Go.Proofs.Ytggafoldccikdaa.PAll Go.Proofs.YtggafoldccikdaaW.PrintWords Go.Proofs.YtggafoldccikdaaW.PrintLast Go.Proofs.YtggafoldccikdaaW.PrintMore Go.Proofs.Ytggafoldccikdaa.Bas Go.Proofs.Ytggafoldccikdaa.Sg Go.Proofs.Ytggafoldccikdaa.Po
set_option linter.unusedVariables false
set_option linter.unusedSimpArgs false

theorem wrap_sub (s a b : Int) : wrap64 (s + wrap64 (a - b)) = wrap64 (wrap64 (s + a) - b) := by
  unfold wrap64
  omega
theorem wi {i n : Nat} (hi : i < n) (hl : n ≤ 1000000) : wrap64 ((i : Int) + 1) = ((i + 1 : Nat) : Int) := by
  rw [wrap_in ⟨by omega, by omega⟩]
  rfl
theorem rarea_ev {l : List S30} (hv : l.all pt_ok = true) (hl : l.length ≤ 1000000) : ∀ (d i : Nat), i + d = l.length → Ev (fun k => mapmakerref11_Area2.l0 k l (areaUpto l i) (i : Int)) (areaUpto l l.length) := by
  intro d
  induction d with
  | zero =>
    intro i h
    obtain rfl : i = l.length := by omega
    exact Ev_round (fun k => by rw [mapmakerref11_Area2.l0]) (Ev_neg (by omega) (Ev.now _))
  | succ d ih =>
    intro i h
    have hn := next_lt (l := l) (i := i) (by omega)
    refine Ev_round (fun k => by rw [mapmakerref11_Area2.l0]) (Ev_pos (by omega) (Ev.bind (rAll_ev l hl) (Ev_pos hv ?_)))
    refine Ev_pos (by omega) (Ev_neg (by omega) ?_)
    rw [next_eq (i := i) (by omega) hl, wi (n := l.length) (i := i) (by omega) hl]
    refine Ev_pos (by omega) (Ev_pos (by omega) ?_)
    rw [← wrap_sub]
    exact ih (i + 1) (by omega)
/-- A segment of two points, the lesser first. -/
def sg (a b : S30) : S45 := ⟨⟨(of a.f0 a.f1 b.f0 b.f1).1, (of a.f0 a.f1 b.f0 b.f1).2.1⟩, ⟨(of a.f0 a.f1 b.f0 b.f1).2.2.1, (of a.f0 a.f1 b.f0 b.f1).2.2.2⟩⟩
def segsP (l : List S30) : Nat → List S45
 | 0 => []
 | i + 1 => if at_ l i = nx l i then segsP l i else segsP l i ++ [sg (at_ l i) (nx l i)]
theorem segOne_eq (a b : S30) : segOne a b = some (sg a b) := by
  unfold segOne
  rw [Of_eq]
  rfl
theorem segs_eq (l : List S30) : ∀ i, segsUpto l i = some (segsP l i) := by
  intro i
  induction i with
  | zero => rfl
  | succ i ih =>
    unfold segsUpto segsP
    rw [ih, Option.bind_some]
    by_cases e : at_ l i = nx l i
    · rw [if_pos e, if_pos (eqS.2 e)]
    · rw [if_neg e, if_neg (fun h => e (eqS.1 h)), segOne_eq]
      rfl
theorem rLess_eq (au av bu bv : Int) : mapmakerref08_Less.f au av bu bv = some (decide (lt2 au av bu bv)) := by
  unfold mapmakerref08_Less.f lt2
  repeat' split
  all_goals (refine sd ?_; simp only [decide_eq_true_eq, Bool.false_eq_true, true_iff, false_iff]; omega)
theorem rOf_eq (au av bu bv : Int) : mapmakerref09_Of.f au av bu bv = some (of au av bu bv) := by
  unfold mapmakerref09_Of.f of
  rw [rLess_eq]
  by_cases h : lt2 bu bv au av <;> simp [h]
theorem segsP_len (l : List S30) : ∀ i, (segsP l i).length ≤ i := by
  intro i
  induction i with
  | zero => exact Nat.le_refl _
  | succ i ih =>
    unfold segsP
    split
    · omega
    · rw [List.length_append]; simp; omega
theorem neS {a b : S30} (h : a ≠ b) : (!(a.f0 == b.f0) || !(a.f1 == b.f1)) = true := by
  have : ¬ ((a.f0 == b.f0 && (a.f1 == b.f1)) = true) := fun e => h (eqS.1 e)
  revert this
  cases (a.f0 == b.f0) <;> cases (a.f1 == b.f1) <;> simp
theorem eqS' {a b : S30} (h : a = b) : ¬ (!(a.f0 == b.f0) || !(a.f1 == b.f1)) = true := by
  rw [h]
  simp
theorem rsegs_l0 {l : List S30} (hv : l.all pt_ok = true) (hl : l.length ≤ 1000000) : ∀ (d i : Nat), i + d = l.length → Ev (fun k => mapmakerref11_Segs.l0 k l (segsP l i) (i : Int)) (segsP l l.length) := by
  intro d
  induction d with
  | zero =>
    intro i h
    obtain rfl : i = l.length := by omega
    exact Ev_round (fun k => by rw [mapmakerref11_Segs.l0]) (Ev_neg (by omega) (Ev_round (fun k => by rw [mapmakerref11_Segs.j1]) (Ev_neg (by decide) (Ev.now _))))
  | succ d ih =>
    intro i h
    have hn := next_lt (l := l) (i := i) (by omega)
    have := segsP_len l i
    refine Ev_round (fun k => by rw [mapmakerref11_Segs.l0]) (Ev_pos (by omega) (Ev.bind (rAll_ev l hl) ?_))
    refine Ev_round (fun k => by rw [mapmakerref11_Segs.j1]) (Ev_pos hv (Ev_pos (by omega) (Ev_pos (by omega) (Ev_neg (by omega) ?_))))
    rw [next_eq (i := i) (by omega) hl, wi (n := l.length) (i := i) (by omega) hl]
    refine Ev_pos (by omega) (Ev_pos (by omega) ?_)
    have ih' := ih (i + 1) (by omega)
    have es : segsP l (i + 1) = if at_ l i = nx l i then segsP l i else segsP l i ++ [sg (at_ l i) (nx l i)] := rfl
    rw [es] at ih'
    by_cases e : at_ l i = nx l i
    · rw [if_pos e] at ih'
      exact Ev_neg (eqS' e) ih'
    · rw [if_neg e] at ih'
      refine Ev_pos (neS e) (Ev.bind (Ev_const (rOf_eq _ _ _ _)) (Ev_pos (by omega) ?_))
      exact ih'
theorem rsegs_ev {l : List S30} (hl : l.length ≤ 1000000) : Ev (fun k => mapmakerref11_Segs.f k l) (if l.all pt_ok = true then segsP l l.length else []) := by
  refine Ev.congr (fun k => by rw [mapmakerref11_Segs.f]) ?_
  by_cases hv : l.all pt_ok = true
  · rw [if_pos hv]
    exact rsegs_l0 hv hl l.length 0 (by omega)
  · rw [if_neg hv]
    have h0 : 0 < l.length := by
      cases l with
      | nil => exact absurd rfl hv
      | cons a l => simp
    refine Ev_round (fun k => by rw [mapmakerref11_Segs.l0]) (Ev_pos (by omega) (Ev.bind (rAll_ev l hl) ?_))
    exact Ev_round (fun k => by rw [mapmakerref11_Segs.j1]) (Ev_neg hv (Ev.now _))
theorem same20 (x : List S45) (hx : x.length ≤ 1000000) : ∀ (d i : Nat), i + d = x.length → Ev (fun k => mapmakerref20_Same.l0 k x x (i : Int)) true := by
  intro d
  induction d with
  | zero =>
    intro i h
    exact Ev_round (fun k => by rw [mapmakerref20_Same.l0]) (Ev_neg (by omega) (Ev.now _))
  | succ d ih =>
    intro i h
    refine Ev_round (fun k => by rw [mapmakerref20_Same.l0]) (Ev_pos (by omega) (Ev_pos (by omega) (Ev_pos (by omega) (Ev_neg (by simp) ?_))))
    rw [wi (n := x.length) (by omega) hx]
    exact ih (i + 1) (by omega)
theorem same20_ev (x : List S45) (hx : x.length ≤ 1000000) : Ev (fun k => mapmakerref20_Same.f k x x) true :=
  Ev.congr (f := fun k => if (x.length : Int) = (x.length : Int) then mapmakerref20_Same.l0 k x x ((0 : Nat) : Int) else some false) (fun k => by rw [mapmakerref20_Same.f]; rfl) (Ev_pos rfl (same20 x hx x.length 0 (by omega)))

/-- What the pair of the sides i and j must be. -/
def want (n i j : Nat) : Int := if j + 1 = i ∨ i + 1 = n ∧ j = 0 then 1 else 0
noncomputable def rl (l : List S30) (i j : Nat) : Int := rel (at_ l i) (nx l i) (at_ l j) (nx l j)
def P1 (l : List S30) (i j : Nat) : Prop := at_ l i ≠ at_ l j ∧ at_ l i ≠ nx l i ∧ at_ l j ≠ nx l j ∧ rl l i j = want l.length i j
section
variable {l : List S30} {r : Bool}
theorem simple_l1 (h3 : 3 ≤ l.length) (hl : l.length ≤ 1000000) {i : Nat} (hi : i < l.length)
    (next : (r = true ↔ ∀ i', i < i' → i' < l.length → ∀ j, j < i' → P1 l i' j) → Ev (fun k => poly_Simple.l0 k l (l.length : Int) (l.length : Int) ((i + 1 : Nat) : Int)) r) :
    ∀ (d j : Nat), j + d = i → (r = true ↔ (∀ j', j ≤ j' → j' < i → P1 l i j') ∧ ∀ i', i < i' → i' < l.length → ∀ j, j < i' → P1 l i' j) →
    Ev (fun k => poly_Simple.l1 k l (l.length : Int) (i : Int) (l.length : Int) (i : Int) (i : Int) (j : Int) (at_ l i).f0 (at_ l i).f1 (nx l i).f0 (nx l i).f1) r := by
  intro d
  induction d with
  | zero =>
    intro j h hr
    refine Ev_round (fun k => by rw [poly_Simple.l1]) (Ev_neg (by omega) ?_)
    rw [wi hi hl]
    refine next (hr.trans ⟨fun h => h.2, fun h => ⟨fun j' a b => by omega, h⟩⟩)
  | succ d ih =>
    intro j h hr
    have hn := next_lt (l := l) (i := j) (by omega)
    have no : ¬ P1 l i j → r = false := by
      intro hp
      rw [← Bool.not_eq_true]
      exact fun e => hp ((hr.1 e).1 j (Nat.le_refl _) (by omega))
    refine Ev_round (fun k => by rw [poly_Simple.l1]) (Ev_pos (by omega) (Ev_pos (by omega) (Ev_pos (by omega) (Ev_neg (by omega) ?_))))
    rw [next_eq (l := l) (i := j) (by omega) hl, wi (n := l.length) (i := j) (by omega) hl, wi (n := l.length) (i := i) (by omega) hl]
    refine Ev_pos (by omega) (Ev_pos (by omega) ?_)
    by_cases e1 : at_ l i = at_ l j
    · exact Ev_pos (eqS.2 e1) (Ev_const (by rw [no (fun h => h.1 e1)]))
    · refine Ev_neg (fun h => e1 (eqS.1 h)) ?_
      have go : P1 l i j → Ev (fun k => poly_Simple.l1 k l (l.length : Int) (i : Int) (l.length : Int) (i : Int) (i : Int) (wrap64 ((j : Int) + 1)) (at_ l i).f0 (at_ l i).f1 (nx l i).f0 (nx l i).f1) r := by
        intro hp
        rw [wi (n := l.length) (i := j) (by omega) hl]
        refine ih (j + 1) (by omega) (hr.trans ⟨fun h => ⟨fun j' a b => h.1 j' (by omega) b, h.2⟩, fun h => ⟨fun j' a b => ?_, h.2⟩⟩)
        by_cases e : j' = j
        · rw [e]; exact hp
        · exact h.1 j' (by omega) b
      have j3 : ∀ t : Bool, (t = true ↔ j + 1 = i ∨ i + 1 = l.length ∧ j = 0) → Ev (fun k => poly_Simple.j3 k l (l.length : Int) (i : Int) 0 (l.length : Int) (i : Int) (i : Int) (j : Int) t (at_ l i).f0 (at_ l i).f1 (nx l i).f0 (nx l i).f1 (at_ l j).f0 (at_ l j).f1 (nx l j).f0 (nx l j).f1) r := by
        intro t ht
        refine Ev_round (fun k => by rw [poly_Simple.j3]) ?_
        by_cases t1 : t = true
        · have w1 : want l.length i j = 1 := if_pos (ht.1 t1)
          refine Ev_pos t1 ?_
          by_cases e2 : at_ l i = nx l i
          · exact Ev_pos (eqS.2 e2) (Ev_const (by rw [no (fun h => h.2.1 e2)]))
          · refine Ev_neg (fun h => e2 (eqS.1 h)) ?_
            by_cases e3 : at_ l j = nx l j
            · exact Ev_pos (eqS.2 e3) (Ev_const (by rw [no (fun h => h.2.2.1 e3)]))
            · refine Ev_neg (fun h => e3 (eqS.1 h)) (Ev.bind (Relate_ev _ _ _ _) ?_)
              by_cases e4 : rl l i j = 1
              · exact Ev_pos e4 (go ⟨e1, e2, e3, by rw [w1]; exact e4⟩)
              · exact Ev_neg e4 (Ev_const (by rw [no (fun h => e4 (by rw [← w1]; exact h.2.2.2))]))
        · have w1 : want l.length i j = 0 := if_neg (fun h => t1 (ht.2 h))
          refine Ev_neg t1 ?_
          by_cases e2 : at_ l i = nx l i
          · exact Ev_pos (eqS.2 e2) (Ev_const (by rw [no (fun h => h.2.1 e2)]))
          · refine Ev_neg (fun h => e2 (eqS.1 h)) ?_
            by_cases e3 : at_ l j = nx l j
            · exact Ev_pos (eqS.2 e3) (Ev_const (by rw [no (fun h => h.2.2.1 e3)]))
            · refine Ev_neg (fun h => e3 (eqS.1 h)) (Ev.bind (Relate_ev _ _ _ _) ?_)
              by_cases e4 : rl l i j = 0
              · exact Ev_pos e4 (go ⟨e1, e2, e3, by rw [w1]; exact e4⟩)
              · exact Ev_neg e4 (Ev_const (by rw [no (fun h => e4 (by rw [← w1]; exact h.2.2.2))]))
      by_cases c1 : j + 1 = i
      · exact Ev_pos (by omega) (j3 true ⟨fun _ => .inl c1, fun _ => rfl⟩)
      · refine Ev_neg (by omega) ?_
        by_cases c2 : i + 1 = l.length
        · refine Ev_pos (by omega) (j3 _ ?_)
          rw [beq_iff_eq]
          omega
        · exact Ev_neg (by omega) (j3 false ⟨fun h => by simp at h, fun h => by omega⟩)
theorem simple_l0 (h3 : 3 ≤ l.length) (hl : l.length ≤ 1000000) : ∀ (d i : Nat), i + d = l.length → (r = true ↔ ∀ i', i ≤ i' → i' < l.length → ∀ j, j < i' → P1 l i' j) →
    Ev (fun k => poly_Simple.l0 k l (l.length : Int) (l.length : Int) (i : Int)) r := by
  intro d
  induction d with
  | zero =>
    intro i h hr
    refine Ev_round (fun k => by rw [poly_Simple.l0]) (Ev_neg (by omega) (Ev_const ?_))
    rw [hr.2 (fun i' a b => by omega)]
  | succ d ih =>
    intro i h hr
    have hn := next_lt (l := l) (i := i) (by omega)
    refine Ev_round (fun k => by rw [poly_Simple.l0]) (Ev_pos (by omega) (Ev_pos (by omega) (Ev_pos (by omega) (Ev_neg (by omega) ?_))))
    rw [next_eq (l := l) (i := i) (by omega) hl]
    refine Ev_pos (by omega) (Ev_pos (by omega) ?_)
    refine simple_l1 h3 hl (by omega) (fun hr' => ih (i + 1) (by omega) (hr'.trans ⟨fun h i' a b => h i' (by omega) b, fun h i' a b => h i' (by omega) b⟩)) i 0 (by omega) (hr.trans ⟨fun h => ⟨fun j' a b => h i (Nat.le_refl _) (by omega) j' b, fun i' a b => h i' (by omega) b⟩, fun h i' a b j hj => ?_⟩)
    by_cases e : i' = i
    · subst e
      exact h.1 j (by omega) hj
    · exact h.2 i' (by omega) b j hj
def Dst (l : List S30) : Prop := ∀ i, i < l.length → ∀ j, j < i → at_ l i ≠ at_ l j
def Rls (l : List S30) : Prop := ∀ i, i < l.length → ∀ j, j < i → rl l i j = want l.length i j
theorem Dst.next (h3 : 3 ≤ l.length) (h : Dst l) {i : Nat} (hi : i < l.length) : at_ l i ≠ nx l i := by
  have hn := next_lt hi
  show at_ l i ≠ at_ l ((i + 1) % l.length)
  by_cases e : i + 1 = l.length
  · have : (i + 1) % l.length = 0 := by rw [e]; exact Nat.mod_self _
    rw [this]
    exact h i hi 0 (by omega)
  · have : (i + 1) % l.length = i + 1 := Nat.mod_eq_of_lt (by omega)
    rw [this]
    exact fun e => h (i + 1) (by omega) i (by omega) e.symm
theorem simple_iff (h3 : 3 ≤ l.length) : (∀ i, 0 ≤ i → i < l.length → ∀ j, j < i → P1 l i j) ↔ Dst l ∧ Rls l := by
  constructor
  · intro h
    exact ⟨fun i hi j hj => (h i (by omega) hi j hj).1, fun i hi j hj => (h i (by omega) hi j hj).2.2.2⟩
  · rintro ⟨h1, h2⟩ i _ hi j hj
    exact ⟨h1 i hi j hj, h1.next h3 hi, h1.next h3 (by omega), h2 i hi j hj⟩
theorem segsP_get (h3 : 3 ≤ l.length) (h : Dst l) : ∀ m, m ≤ l.length → (segsP l m).length = m ∧ ∀ i, i < m → (segsP l m).getD i z45 = sg (at_ l i) (nx l i) := by
  intro m
  induction m with
  | zero => intro _; exact ⟨rfl, fun i hi => by omega⟩
  | succ m ih =>
    intro hm
    obtain ⟨i1, i2⟩ := ih (by omega)
    unfold segsP
    rw [if_neg (h.next h3 (by omega))]
    refine ⟨by rw [List.length_append, i1]; rfl, fun i hi => ?_⟩
    by_cases e : i = m
    · subst e
      rw [List.getD_eq_getElem?_getD, List.getElem?_append_right (by omega), i1]
      simp
    · rw [← i2 i (by omega), List.getD_eq_getElem?_getD, List.getD_eq_getElem?_getD, List.getElem?_append_left (by omega)]
theorem rel_sg (a b c d : S30) : rel (sg a b).f0 (sg a b).f1 (sg c d).f0 (sg c d).f1 = rel a b c d := by
  unfold sg of
  by_cases h1 : lt2 b.f0 b.f1 a.f0 a.f1 <;> by_cases h2 : lt2 d.f0 d.f1 c.f0 c.f1 <;> simp only [h1, h2, if_true, if_false]
  · exact rel_swap.trans rel_swap2
  · exact rel_swap
  · exact rel_swap2
theorem rsimple_l3 (h3 : 3 ≤ l.length) (hl : l.length ≤ 1000000) (hd : Dst l) {i : Nat} (hi : i < l.length)
    (next : (r = true ↔ ∀ i', i < i' → i' < l.length → ∀ j, j < i' → rl l i' j = want l.length i' j) → Ev (fun k => mapmakerref11_Simple.l2 k (l.length : Int) (segsP l l.length) ((i + 1 : Nat) : Int)) r) :
    ∀ (d j : Nat), j + d = i → (r = true ↔ (∀ j', j ≤ j' → j' < i → rl l i j' = want l.length i j') ∧ ∀ i', i < i' → i' < l.length → ∀ j, j < i' → rl l i' j = want l.length i' j) →
    Ev (fun k => mapmakerref11_Simple.l3 k (l.length : Int) (segsP l l.length) (i : Int) (j : Int)) r := by
  obtain ⟨g1, g2⟩ := segsP_get h3 hd l.length (Nat.le_refl _)
  intro d
  induction d with
  | zero =>
    intro j h hr
    refine Ev_round (fun k => by rw [mapmakerref11_Simple.l3]) (Ev_neg (by omega) ?_)
    rw [wi hi hl]
    refine next (hr.trans ⟨fun h => h.2, fun h => ⟨fun j' a b => by omega, h⟩⟩)
  | succ d ih =>
    intro j h hr
    have no : ¬ rl l i j = want l.length i j → r = false := by
      intro hp
      rw [← Bool.not_eq_true]
      exact fun e => hp ((hr.1 e).1 j (Nat.le_refl _) (by omega))
    have go : rl l i j = want l.length i j → Ev (fun k => mapmakerref11_Simple.l3 k (l.length : Int) (segsP l l.length) (i : Int) (wrap64 ((j : Int) + 1))) r := by
      intro hp
      rw [wi (n := l.length) (i := j) (by omega) hl]
      refine ih (j + 1) (by omega) (hr.trans ⟨fun h => ⟨fun j' a b => h.1 j' (by omega) b, h.2⟩, fun h => ⟨fun j' a b => ?_, h.2⟩⟩)
      by_cases e : j' = j
      · rw [e]; exact hp
      · exact h.1 j' (by omega) b
    have er : rel (rd_T45 (segsP l l.length) (i : Int)).f0 (rd_T45 (segsP l l.length) (i : Int)).f1 (rd_T45 (segsP l l.length) (j : Int)).f0 (rd_T45 (segsP l l.length) (j : Int)).f1 = rl l i j := by
      have e1 : rd_T45 (segsP l l.length) (i : Int) = sg (at_ l i) (nx l i) := g2 i hi
      have e2 : rd_T45 (segsP l l.length) (j : Int) = sg (at_ l j) (nx l j) := g2 j (by omega)
      rw [e1, e2, rel_sg]
      rfl
    have w0 : wrap64 ((i : Int) - (j : Int)) = (i : Int) - (j : Int) := wrap_in ⟨by omega, by omega⟩
    have w1 : wrap64 ((l.length : Int) - 1) = (l.length : Int) - 1 := wrap_in ⟨by omega, by omega⟩
    refine Ev_round (fun k => by rw [mapmakerref11_Simple.l3]) (Ev_pos (by omega) ?_)
    rw [w0, w1]
    by_cases c1 : (i : Int) - (j : Int) = 1
    · have hw : want l.length i j = 1 := if_pos (by omega)
      refine Ev_pos c1 (Ev_pos (by omega) (Ev_pos (by omega) (Ev_pos (by omega) (Ev_pos (by omega) (Ev.bind (rRelate_ev _ _ _ _) ?_)))))
      rw [er]
      by_cases e : rl l i j = 1
      · exact Ev_pos e (go (by rw [hw]; exact e))
      · exact Ev_neg e (Ev_const (by rw [no (fun h => e (by rw [← hw]; exact h))]))
    · refine Ev_neg c1 (Ev_pos (by omega) (Ev_pos (by omega) (Ev_pos (by omega) (Ev_pos (by omega) (Ev.bind (rRelate_ev _ _ _ _) ?_)))))
      rw [er]
      by_cases c2 : (i : Int) - (j : Int) = (l.length : Int) - 1
      · have hw : want l.length i j = 1 := if_pos (by omega)
        refine Ev_pos c2 ?_
        by_cases e : rl l i j = 1
        · exact Ev_pos e (Ev_pos c2 (go (by rw [hw]; exact e)))
        · exact Ev_neg e (Ev_const (by rw [no (fun h => e (by rw [← hw]; exact h))]))
      · have hw : want l.length i j = 0 := if_neg (by omega)
        refine Ev_neg c2 (Ev_neg c2 ?_)
        by_cases e : rl l i j = 0
        · exact Ev_pos e (go (by rw [hw]; exact e))
        · exact Ev_neg e (Ev_const (by rw [no (fun h => e (by rw [← hw]; exact h))]))
theorem rsimple_l2 (h3 : 3 ≤ l.length) (hl : l.length ≤ 1000000) (hd : Dst l) : ∀ (d i : Nat), i + d = l.length → (r = true ↔ ∀ i', i ≤ i' → i' < l.length → ∀ j, j < i' → rl l i' j = want l.length i' j) →
    Ev (fun k => mapmakerref11_Simple.l2 k (l.length : Int) (segsP l l.length) (i : Int)) r := by
  intro d
  induction d with
  | zero =>
    intro i h hr
    refine Ev_round (fun k => by rw [mapmakerref11_Simple.l2]) (Ev_neg (by omega) (Ev_const ?_))
    rw [hr.2 (fun i' a b => by omega)]
  | succ d ih =>
    intro i h hr
    refine Ev_round (fun k => by rw [mapmakerref11_Simple.l2]) (Ev_pos (by omega) ?_)
    refine rsimple_l3 h3 hl hd (by omega) (fun hr' => ih (i + 1) (by omega) (hr'.trans ⟨fun h i' a b => h i' (by omega) b, fun h i' a b => h i' (by omega) b⟩)) i 0 (by omega) (hr.trans ⟨fun h => ⟨fun j' a b => h i (Nat.le_refl _) (by omega) j' b, fun i' a b => h i' (by omega) b⟩, fun h i' a b j hj => ?_⟩)
    by_cases e : i' = i
    · subst e
      exact h.1 j (by omega) hj
    · exact h.2 i' (by omega) b j hj
def Till (l : List S30) (i j : Nat) : Prop := (∀ i', i' < i → ∀ j', j' < i' → at_ l i' ≠ at_ l j') ∧ ∀ j', j' < j → at_ l i ≠ at_ l j'
theorem rsimple_l1 (h3 : 3 ≤ l.length) (hl : l.length ≤ 1000000) {i : Nat} (hi : i < l.length) (hr : r = true ↔ Dst l ∧ Rls l)
    (next : Till l (i + 1) 0 → Ev (fun k => mapmakerref11_Simple.l0 k l (l.length : Int) ((i + 1 : Nat) : Int)) r) :
    ∀ (d j : Nat), j + d = i → Till l i j → Ev (fun k => mapmakerref11_Simple.l1 k l (l.length : Int) (i : Int) (j : Int)) r := by
  intro d
  induction d with
  | zero =>
    intro j h ht
    refine Ev_round (fun k => by rw [mapmakerref11_Simple.l1]) (Ev_neg (by omega) ?_)
    rw [wi hi hl]
    refine next ⟨fun i' a j' b => ?_, fun j' a => by omega⟩
    by_cases e : i' = i
    · subst e
      exact ht.2 j' (by omega)
    · exact ht.1 i' (by omega) j' b
  | succ d ih =>
    intro j h ht
    refine Ev_round (fun k => by rw [mapmakerref11_Simple.l1]) (Ev_pos (by omega) (Ev_pos (by omega) (Ev_pos (by omega) (Ev_pos (by omega) (Ev_pos (by omega) ?_)))))
    by_cases e : at_ l i = at_ l j
    · refine Ev_pos (eqS.2 e) (Ev_const ?_)
      have : r = false := by
        rw [← Bool.not_eq_true]
        exact fun h => (hr.1 h).1 i hi j (by omega) e
      rw [this]
    · refine Ev_neg (fun h => e (eqS.1 h)) ?_
      rw [wi (n := l.length) (i := j) (by omega) hl]
      refine ih (j + 1) (by omega) ⟨ht.1, fun j' a => ?_⟩
      by_cases e' : j' = j
      · subst e'; exact e
      · exact ht.2 j' (by omega)
theorem rsimple_l0 (h3 : 3 ≤ l.length) (hl : l.length ≤ 1000000) (hv : l.all pt_ok = true) (hr : r = true ↔ Dst l ∧ Rls l) : ∀ (d i : Nat), i + d = l.length → Till l i 0 →
    Ev (fun k => mapmakerref11_Simple.l0 k l (l.length : Int) (i : Int)) r := by
  intro d
  induction d with
  | zero =>
    intro i h ht
    have hd : Dst l := fun i' a j b => ht.1 i' (by omega) j b
    refine Ev_round (fun k => by rw [mapmakerref11_Simple.l0]) (Ev_neg (by omega) (Ev.bind (rsegs_ev hl) ?_))
    rw [if_pos hv]
    refine rsimple_l2 h3 hl hd l.length 0 (by omega) (hr.trans ⟨fun h i' _ a j b => h.2 i' a j b, fun h => ⟨hd, fun i' a j b => h i' (by omega) a j b⟩⟩)
  | succ d ih =>
    intro i h ht
    refine Ev_round (fun k => by rw [mapmakerref11_Simple.l0]) (Ev_pos (by omega) ?_)
    exact rsimple_l1 h3 hl (by omega) hr (fun ht' => ih (i + 1) (by omega) ht') i 0 (by omega) ht
noncomputable def simpleP (l : List S30) : Bool := @decide (3 ≤ l.length ∧ AllV l ∧ Dst l ∧ Rls l) (Classical.propDecidable _)
theorem simpleP_iff (h3 : 3 ≤ l.length) (hv : AllV l) : simpleP l = true ↔ Dst l ∧ Rls l := by
  unfold simpleP
  rw [@decide_eq_true_iff _ (Classical.propDecidable _)]
  exact ⟨fun h => h.2.2, fun h => ⟨h3, hv, h⟩⟩
theorem simple_ev (l : List S30) (hl : l.length ≤ 1000000) : Ev (fun k => poly_Simple.f k l) (simpleP l) ∧ Ev (fun k => mapmakerref11_Simple.f k l) (simpleP l) := by
  have n1 : Ev (fun k => poly_Simple.j0 k l (l.length : Int) true) false := Ev_round (fun k => by rw [poly_Simple.j0]) (Ev_pos rfl (Ev.now _))
  have n2 : Ev (fun k => mapmakerref11_Simple.j0 k l (l.length : Int) true) false := Ev_round (fun k => by rw [mapmakerref11_Simple.j0]) (Ev_pos rfl (Ev.now _))
  by_cases h3 : (l.length : Int) < 3
  · have e : simpleP l = false := @decide_eq_false _ (Classical.propDecidable _) (fun h => by omega)
    rw [e]
    exact ⟨Ev.congr (fun k => by rw [poly_Simple.f]) (Ev_pos h3 n1), Ev.congr (fun k => by rw [mapmakerref11_Simple.f]) (Ev_pos h3 n2)⟩
  · by_cases hv : l.all pt_ok = true
    · have hr := simpleP_iff (l := l) (by omega) (all_iff.1 hv)
      refine ⟨Ev.congr (fun k => by rw [poly_Simple.f]) (Ev_neg h3 (Ev.bind (Ev_const (valid_eq hl)) ?_)), Ev.congr (fun k => by rw [mapmakerref11_Simple.f]) (Ev_neg h3 (Ev.bind (rAll_ev l hl) ?_))⟩
      · rw [hv]
        refine Ev_round (fun k => by rw [poly_Simple.j0]) ?_
        exact Ev_neg (by decide) ((simple_l0 (by omega) hl l.length 0 (by omega) (hr.trans (simple_iff (by omega)).symm)))
      · rw [hv]
        refine Ev_round (fun k => by rw [mapmakerref11_Simple.j0]) ?_
        exact Ev_neg (by decide) ((rsimple_l0 (by omega) hl hv hr l.length 0 (by omega) ⟨fun i' a => by omega, fun j a => by omega⟩))
    · have e : simpleP l = false := @decide_eq_false _ (Classical.propDecidable _) (fun h => hv (all_iff.2 h.2.1))
      have hv' : l.all pt_ok = false := by simpa using hv
      rw [e]
      refine ⟨Ev.congr (fun k => by rw [poly_Simple.f]) (Ev_neg h3 (Ev.bind (Ev_const (valid_eq hl)) ?_)), Ev.congr (fun k => by rw [mapmakerref11_Simple.f]) (Ev_neg h3 (Ev.bind (rAll_ev l hl) ?_))⟩
      · rw [hv']; exact n1
      · rw [hv']; exact n2
end
theorem rarea (l : List S30) (hl : l.length ≤ 1000000) : Ev (fun k => mapmakerref11_Area2.f k l) (if l.all pt_ok = true then areaUpto l l.length else 0) := by
  refine Ev.congr (fun k => by rw [mapmakerref11_Area2.f]) ?_
  by_cases hv : l.all pt_ok = true
  · rw [if_pos hv]
    exact rarea_ev hv hl l.length 0 (by omega)
  · rw [if_neg hv]
    have h0 : 0 < l.length := by
      cases l with
      | nil => exact absurd rfl hv
      | cons a l => simp
    exact Ev_round (fun k => by rw [mapmakerref11_Area2.l0]) (Ev_pos (by omega) (Ev.bind (rAll_ev l hl) (Ev_neg hv (Ev.now _))))
theorem area_eq (l : List S30) (hl : l.length ≤ 1000000) : poly_Area2.f l = some (if l.all pt_ok = true then areaUpto l l.length else 0) := by
  unfold poly_Area2.f
  rw [valid_eq hl, Option.bind_some]
  split <;> rfl
theorem psegs_eq (l : List S30) (hl : l.length ≤ 1000000) : poly_Segs.f l = some (if l.all pt_ok = true then segsP l l.length else []) := by
  unfold poly_Segs.f
  rw [valid_eq hl, Option.bind_some]
  split
  · exact segs_eq l _
  · rfl
theorem PolyMeasures : mapmakerlaw11_PolyMeasures.Pure := by
  intro l hs
  refine Ev.rounds (Ev.congr (fun k => by rw [mapmakerlaw11_PolyMeasures.f]) ?_)
  refine Ev.bind (Ev_const rfl) ?_
  by_cases hf : (l.length : Int) ≤ 40
  · refine Ev_pos (decide_eq_true hf) ?_
    have hl : l.length ≤ 1000000 := by omega
    refine Ev.bind (Ev_const (area_eq l hl)) (Ev.bind (rarea l hl) (Ev_pos rfl ?_))
    refine Ev.bind (simple_ev l hl).1 (Ev.bind (simple_ev l hl).2 (Ev_pos (by simp) ?_))
    refine Ev.bind (Ev_const (psegs_eq l hl)) (Ev.bind (rsegs_ev hl) (Ev.bind (same20_ev _ ?_) (Ev_pos rfl fin_ev)))
    have := segsP_len l l.length
    split
    · omega
    · simp
  · exact Ev_neg (by simpa using hf) fin_ev

end Go.Proofs.Ytggafoldccikdaa.Pure
