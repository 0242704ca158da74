/- Canon, Reverse, Less: the code's and the reference's. -/
import Derived.Test.YtggafoldccikdaaPoB
import Derived.Test.YtggafoldccikdaaPAllx49
import Derived.Test.YtggafoldccikdaaPAllx44
import Derived.Test.YtggafoldccikdaaPAllx1
import Derived.Test.YtggafoldccikdaaPAllx48
import Derived.Test.YtggafoldccikdaaPAllx21
import Derived.Test.YtggafoldccikdaaPAllx22
namespace Go.Proofs.Ytggafoldccikdaa.Pure
open Go.RowKit Go.Proofs.Ytggafoldccikdaa.PAll Go.Proofs.YtggafoldccikdaaW.PrintWords Go.Proofs.YtggafoldccikdaaW.PrintLast Go.Proofs.YtggafoldccikdaaW.PrintMore Go.Proofs.Ytggafoldccikdaa.Bas Go.Proofs.Ytggafoldccikdaa.Sg Go.Proofs.Ytggafoldccikdaa.Po
set_option linter.unusedVariables false
set_option linter.unusedSimpArgs false

theorem wi {i n : Nat} (hi : i < n) (hl : n ≤ 1000000) : wrap64 ((i : Int) + 1) = ((i + 1 : Nat) : Int) := by
  rw [wrap_in ⟨by omega, by omega⟩]
  rfl
theorem rLess_eq (au av bu bv : Int) : mapmakerref08_Less.f au av bu bv = some (decide (lt2 au av bu bv)) := by
  unfold mapmakerref08_Less.f lt2
  repeat' split
  all_goals (refine sd ?_; simp only [decide_eq_true_eq, Bool.false_eq_true, true_iff, false_iff]; omega)
theorem eqS {a b : S30} : (a.f0 == b.f0 && (a.f1 == b.f1)) = true ↔ a = b := by
  cases a
  cases b
  simp
theorem neS {a b : S30} (h : a ≠ b) : (!(a.f0 == b.f0) || !(a.f1 == b.f1)) = true := by
  have : ¬ ((a.f0 == b.f0 && (a.f1 == b.f1)) = true) := fun e => h (eqS.1 e)
  revert this
  cases (a.f0 == b.f0) <;> cases (a.f1 == b.f1) <;> simp
theorem eqS' {a b : S30} (h : a = b) : ¬ (!(a.f0 == b.f0) || !(a.f1 == b.f1)) = true := by
  rw [h]
  simp
theorem same08 (x : List S30) (hx : x.length ≤ 1000000) : ∀ (d i : Nat), i + d = x.length → Ev (fun k => mapmakerref08_Same.l0 k x x (i : Int)) true := by
  intro d
  induction d with
  | zero =>
    intro i h
    exact Ev_round (fun k => by rw [mapmakerref08_Same.l0]) (Ev_neg (by omega) (Ev.now _))
  | succ d ih =>
    intro i h
    refine Ev_round (fun k => by rw [mapmakerref08_Same.l0]) (Ev_pos (by omega) (Ev_pos (by omega) (Ev_pos (by omega) (Ev_neg (by simp) ?_))))
    rw [wi (n := x.length) (by omega) hx]
    exact ih (i + 1) (by omega)
theorem same08_ev (x : List S30) (hx : x.length ≤ 1000000) : Ev (fun k => mapmakerref08_Same.f k x x) true :=
  Ev.congr (f := fun k => if (x.length : Int) = (x.length : Int) then mapmakerref08_Same.l0 k x x ((0 : Nat) : Int) else some false) (fun k => by rw [mapmakerref08_Same.f]; rfl) (Ev_pos rfl (same08 x hx x.length 0 (by omega)))

def amn (l : List S30) : Nat → Nat → Nat → Nat
 | 0, _, a => a
 | d + 1, i, a => amn l d (i + 1) (if lt2 (at_ l i).f0 (at_ l i).f1 (at_ l a).f0 (at_ l a).f1 then i else a)
theorem amn_lt {l : List S30} : ∀ (d i a : Nat), i + d = l.length → a < l.length → amn l d i a < l.length := by
  intro d
  induction d with
  | zero => intro i a h ha; exact ha
  | succ d ih =>
    intro i a h ha
    unfold amn
    refine ih _ _ (by omega) ?_
    split <;> omega
theorem canon_l0 {l : List S30} (hl : l.length ≤ 1000000) : ∀ (d i a : Nat), i + d = l.length → a < l.length →
    Ev (fun k => poly_Canon.l0 k l (a : Int) l (l.length : Int) (i : Int)) (l.drop (amn l d i a) ++ l.take (amn l d i a)) := by
  intro d
  induction d with
  | zero =>
    intro i a h ha
    refine Ev_round (fun k => by rw [poly_Canon.l0]) (Ev_neg (by omega) (Ev_pos (by omega) (Ev_pos (by omega) ?_)))
    have c1 : api_Point_45.f (l.drop (a : Int).toNat) = some (l.drop a) := by
      unfold api_Point_45.f
      rw [if_pos (by rw [List.length_drop]; omega)]
      rfl
    refine Ev.bind (Ev_const c1) (Ev.bind (Ev_const (r := l.take a) rfl) ?_)
    · refine Ev_pos ?_ (Ev.now _)
      rw [List.length_drop, List.length_take]
      omega
  | succ d ih =>
    intro i a h ha
    refine Ev_round (fun k => by rw [poly_Canon.l0]) (Ev_pos (by omega) (Ev_pos (by omega) (Ev_pos (by omega) (Ev_pos (by omega) (Ev_pos (by omega) ?_)))))
    refine Ev.bind (Ev_const (Less_eq _ _ _ _)) ?_
    rw [wi (n := l.length) (i := i) (by omega) hl]
    unfold amn
    by_cases c : lt2 (at_ l i).f0 (at_ l i).f1 (at_ l a).f0 (at_ l a).f1
    · rw [if_pos c]
      exact Ev_pos (decide_eq_true c) (ih (i + 1) i (by omega) (by omega))
    · rw [if_neg c]
      exact Ev_neg (by rw [decide_eq_false c]; decide) (ih (i + 1) a (by omega) ha)
theorem rot_get {l : List S30} {a i : Nat} (ha : a < l.length) (hi : i < l.length) : (l.drop a ++ l.take a)[i]? = some (at_ l ((a + i) % l.length)) := by
  have e : ∀ j, j < l.length → l[j]? = some (at_ l j) := by
    intro j hj
    unfold at_ rd_T30
    rw [List.getD_eq_getElem?_getD, Int.toNat_natCast, List.getElem?_eq_getElem hj]
    rfl
  by_cases c : a + i < l.length
  · rw [List.getElem?_append_left (by rw [List.length_drop]; omega), List.getElem?_drop, Nat.mod_eq_of_lt c]
    exact e _ c
  · have m : (a + i) % l.length = a + i - l.length := by
      rw [Nat.mod_eq_sub_mod (by omega), Nat.mod_eq_of_lt (by omega)]
    rw [List.getElem?_append_right (by rw [List.length_drop]; omega), List.length_drop, m, List.getElem?_take_of_lt (by omega)]
    have : i - (l.length - a) = a + i - l.length := by omega
    rw [this]
    exact e _ (by omega)
theorem rcanon_l1 {l : List S30} (hl : l.length ≤ 1000000) {a : Nat} (ha : a < l.length) : ∀ (d i : Nat), i + d = l.length →
    Ev (fun k => mapmakerref11_Canon.l1 k l (a : Int) ((l.drop a ++ l.take a).take i) (i : Int)) (l.drop a ++ l.take a) := by
  have hlen : (l.drop a ++ l.take a).length = l.length := by
    rw [List.length_append, List.length_drop, List.length_take]
    omega
  intro d
  induction d with
  | zero =>
    intro i h
    refine Ev_round (fun k => by rw [mapmakerref11_Canon.l1]) (Ev_neg (by omega) (Ev_const ?_))
    rw [List.take_of_length_le (by omega)]
  | succ d ih =>
    intro i h
    have hm : (a + i) % l.length < l.length := Nat.mod_lt _ (by omega)
    have e : Int.tmod (wrap64 ((a : Int) + (i : Int))) (l.length : Int) = (((a + i) % l.length : Nat) : Int) := by
      rw [wrap_in ⟨by omega, by omega⟩, tmod_nn (by omega)]
      exact (Int.natCast_emod (a + i) l.length).symm
    refine Ev_round (fun k => by rw [mapmakerref11_Canon.l1]) (Ev_pos (by omega) (Ev_neg (by omega) ?_))
    rw [e, wi (n := l.length) (i := i) (by omega) hl]
    refine Ev_pos (by omega) (Ev_pos (by omega) (Ev_pos (by rw [List.length_take]; omega) ?_))
    have ih' := ih (i + 1) (by omega)
    rw [List.take_add_one, rot_get ha (by omega)] at ih'
    exact ih'
theorem rcanon_l0 {l : List S30} (hl : l.length ≤ 1000000) : ∀ (d i a : Nat), i + d = l.length → a < l.length →
    Ev (fun k => mapmakerref11_Canon.l0 k l (a : Int) (i : Int)) (l.drop (amn l d i a) ++ l.take (amn l d i a)) := by
  intro d
  induction d with
  | zero =>
    intro i a h ha
    refine Ev_round (fun k => by rw [mapmakerref11_Canon.l0]) (Ev_neg (by omega) ?_)
    exact rcanon_l1 hl ha l.length 0 (by omega)
  | succ d ih =>
    intro i a h ha
    refine Ev_round (fun k => by rw [mapmakerref11_Canon.l0]) (Ev_pos (by omega) (Ev_pos (by omega) (Ev_pos (by omega) (Ev_pos (by omega) ?_))))
    refine Ev.bind (Ev_const (rLess_eq _ _ _ _)) ?_
    rw [wi (n := l.length) (i := i) (by omega) hl]
    unfold amn
    by_cases c : lt2 (at_ l i).f0 (at_ l i).f1 (at_ l a).f0 (at_ l a).f1
    · rw [if_pos c]
      exact Ev_pos (decide_eq_true c) (ih (i + 1) i (by omega) (by omega))
    · rw [if_neg c]
      exact Ev_neg (by rw [decide_eq_false c]; decide) (ih (i + 1) a (by omega) ha)
theorem canon_both (l : List S30) (hl : l.length ≤ 1000000) : ∃ r : List S30, r.length ≤ 1000000 ∧ Ev (fun k => poly_Canon.f k l) r ∧ Ev (fun k => mapmakerref11_Canon.f k l) r := by
  cases l with
  | nil =>
    refine ⟨[], by decide, Ev.congr (fun k => by rw [poly_Canon.f]) ?_, Ev.congr (fun k => by rw [mapmakerref11_Canon.f]) ?_⟩
    · refine Ev_round (fun k => by rw [poly_Canon.l0]) (Ev_neg (by decide) (Ev_pos (by decide) (Ev_pos (by decide) (Ev_const ?_))))
      rfl
    · refine Ev_round (fun k => by rw [mapmakerref11_Canon.l0]) (Ev_neg (by decide) (Ev_round (fun k => by rw [mapmakerref11_Canon.l1]) (Ev_neg (by decide) (Ev.now _))))
  | cons p t =>
    have hp : 0 < (p :: t).length := by simp
    generalize (p :: t) = l at *
    refine ⟨l.drop (amn l l.length 0 0) ++ l.take (amn l l.length 0 0), ?_, Ev.congr (f := fun k => poly_Canon.l0 k l ((0 : Nat) : Int) l (l.length : Int) ((0 : Nat) : Int)) (fun k => by rw [poly_Canon.f]; rfl) (canon_l0 hl l.length 0 0 (by omega) hp), Ev.congr (fun k => by rw [mapmakerref11_Canon.f]) ?_⟩
    · rw [List.length_append, List.length_drop, List.length_take]
      omega
    · have h1 := rcanon_l0 hl (l.length - 1) 1 0 (by omega) hp
      have e : amn l l.length 0 0 = amn l (l.length - 1) 1 0 := by
        have u : ∀ d, amn l (d + 1) 0 0 = amn l d 1 0 := by
          intro d
          show amn l d 1 (if lt2 (at_ l 0).f0 (at_ l 0).f1 (at_ l 0).f0 (at_ l 0).f1 then 0 else 0) = _
          rw [ite_self]
        rw [← u, show l.length - 1 + 1 = l.length by omega]
      rw [e]
      exact h1

/-- Turned at both ends, i points in. -/
def Rv (l y : List S30) (i : Nat) : Prop := y.length = l.length ∧ ∀ p, p < l.length → y[p]? = if p < i ∨ l.length ≤ p + i then l[l.length - 1 - p]? else l[p]?
theorem rv_end {l y : List S30} {i : Nat} (h : Rv l y i) (hi : l.length ≤ 2 * i + 1) : y = l.reverse := by
  refine List.ext_getElem? fun p => ?_
  by_cases hp : p < l.length
  · rw [h.2 p hp, List.getElem?_reverse hp]
    split
    · rfl
    · rw [show l.length - 1 - p = p by omega]
  · rw [List.getElem?_eq_none (by rw [h.1]; omega), List.getElem?_eq_none (by rw [List.length_reverse]; omega)]
theorem rv_step {l y : List S30} {i : Nat} (h : Rv l y i) (hi : 2 * i + 1 < l.length) : Rv l ((y.set i (at_ y (l.length - 1 - i))).set (l.length - 1 - i) (at_ y i)) (i + 1) := by
  obtain ⟨h1, h2⟩ := h
  have e : ∀ j, j < l.length → some (at_ y j) = y[j]? := by
    intro j hj
    unfold at_ rd_T30
    rw [List.getD_eq_getElem?_getD, Int.toNat_natCast, List.getElem?_eq_getElem (by omega)]
    rfl
  refine ⟨by rw [List.length_set, List.length_set, h1], fun p hp => ?_⟩
  by_cases c1 : p = l.length - 1 - i
  · subst c1
    rw [List.getElem?_set_self (by rw [List.length_set]; omega), e i (by omega), h2 i (by omega), if_neg (by omega), if_pos (by omega)]
    rw [show l.length - 1 - (l.length - 1 - i) = i by omega]
  · rw [List.getElem?_set_ne (by omega)]
    by_cases c2 : p = i
    · subst c2
      rw [List.getElem?_set_self (by omega), e _ (by omega), h2 _ (by omega), if_neg (by omega), if_pos (by omega)]
    · rw [List.getElem?_set_ne (by omega), h2 p hp]
      by_cases c3 : p < i ∨ l.length ≤ p + i
      · rw [if_pos c3, if_pos (by omega)]
      · rw [if_neg c3, if_neg (by omega)]
theorem rev_l0 {l : List S30} (hl : l.length ≤ 1000000) : ∀ (d i : Nat) (y : List S30), 2 * i + d = l.length + 1 → Rv l y i → Ev (fun k => api_Point_47.l0 k y (i : Int) ((l.length : Int) - 1 - i)) l.reverse := by
  intro d
  induction d using Nat.strongRecOn with
  | _ d ih =>
    intro i y h hr
    by_cases c : 2 * i + 1 < l.length
    · refine Ev_round (fun k => by rw [api_Point_47.l0]) (Ev_pos (by omega) (Ev_pos (by omega) (Ev_pos (by rw [hr.1]; omega) (Ev_pos (by omega) (Ev_pos (by rw [hr.1]; omega) ?_)))))
      have s := rv_step hr c
      have e1 : wrap64 ((i : Int) + 1) = ((i + 1 : Nat) : Int) := by rw [wrap_in ⟨by omega, by omega⟩]; rfl
      have e2 : wrap64 ((l.length : Int) - 1 - i - 1) = (l.length : Int) - 1 - ((i + 1 : Nat) : Int) := by rw [wrap_in ⟨by omega, by omega⟩]; omega
      have e3 : ((l.length : Int) - 1 - i) = ((l.length - 1 - i : Nat) : Int) := by omega
      have z := ih (d - 2) (by omega) (i + 1) _ (by omega) s
      rw [e1, e2, e3]
      exact z
    · refine Ev_round (fun k => by rw [api_Point_47.l0]) (Ev_neg (by omega) (Ev_const ?_))
      rw [rv_end hr (by omega)]
theorem rrev_l0 {l : List S30} (hl : l.length ≤ 1000000) : ∀ (i : Nat), i ≤ l.length → Ev (fun k => mapmakerref11_Reverse.l0 k l (l.drop i).reverse ((i : Int) - 1)) l.reverse := by
  intro i
  induction i with
  | zero =>
    intro h
    refine Ev_round (fun k => by rw [mapmakerref11_Reverse.l0]) (Ev_neg (by omega) (Ev_const ?_))
    rfl
  | succ i ih =>
    intro h
    have e1 : ((i + 1 : Nat) : Int) - 1 = (i : Int) := by omega
    have e2 : wrap64 ((i : Int) - 1) = (i : Int) - 1 := wrap_in ⟨by omega, by omega⟩
    rw [e1]
    refine Ev_round (fun k => by rw [mapmakerref11_Reverse.l0]) (Ev_pos (by omega) (Ev_pos (by omega) (Ev_pos (by omega) (Ev_pos (by rw [List.length_reverse, List.length_drop]; omega) ?_))))
    rw [e2]
    have z := ih (by omega)
    have d := drop_at z30 (l := l) (i := (i : Int)) (by omega) (by omega)
    have t1 : ((i : Int)).toNat = i := by omega
    have t2 : ((i : Int) + 1).toNat = i + 1 := by omega
    rw [t1, t2] at d
    rw [d, List.reverse_cons] at z
    exact z
theorem rev_both (l : List S30) (hl : l.length ≤ 1000000) : Ev (fun k => poly_Reverse.f k l) l.reverse ∧ Ev (fun k => mapmakerref11_Reverse.f k l) l.reverse := by
  have e : wrap64 ((l.length : Int) - 1) = (l.length : Int) - 1 := wrap_in ⟨by omega, by omega⟩
  have c0 : api_Point_45.f l = some l := if_pos hl
  refine ⟨Ev.congr (fun k => by rw [poly_Reverse.f]) (Ev.bind (Ev_const c0) (Ev.bind (a := l.reverse) ?_ (Ev.now _))), Ev.congr (fun k => by rw [mapmakerref11_Reverse.f]) ?_⟩
  · refine Ev.congr (fun k => by rw [api_Point_47.f]) ?_
    rw [e]
    have z := rev_l0 hl (l.length + 1) 0 l (by omega) ⟨rfl, fun p hp => by rw [if_neg (by omega)]⟩
    have e2 : (l.length : Int) - 1 - ((0 : Nat) : Int) = (l.length : Int) - 1 := by omega
    rw [e2] at z
    exact z
  · rw [e]
    have z := rrev_l0 hl l.length (Nat.le_refl _)
    rw [List.drop_length] at z
    exact z

def lsP (l m : List S30) : Nat → Nat → Bool
 | 0, _ => decide ((l.length : Int) < (m.length : Int))
 | d + 1, i => if at_ l i = at_ m i then lsP l m d (i + 1) else decide (lt2 (at_ l i).f0 (at_ l i).f1 (at_ m i).f0 (at_ m i).f1)
theorem less_l0 {l m : List S30} {n : Nat} (h1 : n ≤ l.length) (h2 : n ≤ m.length) (hl : n ≤ 1000000) : ∀ (d i : Nat), i + d = n → Ev (fun k => poly_Less.l0 k l m (n : Int) (i : Int)) (lsP l m d i) := by
  intro d
  induction d with
  | zero =>
    intro i h
    refine Ev_round (fun k => by rw [poly_Less.l0]) (Ev_neg (by omega) (Ev_const ?_))
    rfl
  | succ d ih =>
    intro i h
    refine Ev_round (fun k => by rw [poly_Less.l0]) (Ev_pos (by omega) (Ev_pos (by omega) (Ev_pos (by omega) (Ev_pos (by omega) ?_))))
    unfold lsP
    by_cases e : at_ l i = at_ m i
    · rw [if_pos e]
      refine Ev_neg (eqS' e) ?_
      rw [wi (n := n) (i := i) (by omega) hl]
      exact ih (i + 1) (by omega)
    · rw [if_neg e]
      exact Ev_pos (neS e) (Ev.bind (Ev_const (Less_eq _ _ _ _)) (Ev.now _))
theorem rless_l0 {l m : List S30} {n : Nat} (h1 : n ≤ l.length) (h2 : n ≤ m.length) (h3 : n = l.length ∨ n = m.length) (hl : n ≤ 1000000) : ∀ (d i : Nat), i + d = n → Ev (fun k => mapmakerref11_Less.l0 k l m (i : Int)) (lsP l m d i) := by
  intro d
  induction d with
  | zero =>
    intro i h
    have j : Ev (fun k => mapmakerref11_Less.j1 k l m (i : Int) false) (lsP l m 0 i) := by
      refine Ev_round (fun k => by rw [mapmakerref11_Less.j1]) (Ev_neg (by decide) (Ev_const ?_))
      rfl
    refine Ev_round (fun k => by rw [mapmakerref11_Less.l0]) ?_
    by_cases c : (i : Int) < (l.length : Int)
    · refine Ev_pos c ?_
      rw [decide_eq_false (by omega)]
      exact j
    · exact Ev_neg c j
  | succ d ih =>
    intro i h
    refine Ev_round (fun k => by rw [mapmakerref11_Less.l0]) (Ev_pos (by omega) (Ev_round (fun k => by rw [mapmakerref11_Less.j1]) (Ev_pos (decide_eq_true (by omega)) (Ev_pos (by omega) (Ev_pos (by omega) (Ev_pos (by omega) ?_))))))
    unfold lsP
    by_cases e : at_ l i = at_ m i
    · rw [if_pos e]
      refine Ev_neg (eqS' e) ?_
      rw [wi (n := n) (i := i) (by omega) hl]
      exact ih (i + 1) (by omega)
    · rw [if_neg e]
      exact Ev_pos (neS e) (Ev.bind (Ev_const (rLess_eq _ _ _ _)) (Ev.now _))
theorem less_both (l m : List S30) (hl : l.length ≤ 1000000) : ∃ r : Bool, Ev (fun k => poly_Less.f k l m) r ∧ Ev (fun k => mapmakerref11_Less.f k l m) r := by
  refine ⟨lsP l m (min l.length m.length) 0, Ev.congr (fun k => by rw [poly_Less.f]) ?_, Ev.congr (fun k => by rw [mapmakerref11_Less.f]) ?_⟩
  · have e : mn (l.length : Int) (m.length : Int) = ((min l.length m.length : Nat) : Int) := by
      rw [mn_eq]
      omega
    rw [e]
    exact less_l0 (by omega) (by omega) (by omega) _ 0 (by omega)
  · exact rless_l0 (n := min l.length m.length) (by omega) (by omega) (by omega) (by omega) _ 0 (by omega)
theorem PolyTurns : mapmakerlaw11_PolyTurns.Pure := by
  intro l m hs hm
  refine Ev.rounds (Ev.congr (fun k => by rw [mapmakerlaw11_PolyTurns.f]) ?_)
  refine Ev.bind (Ev_const rfl) ?_
  by_cases hf : (l.length : Int) ≤ 40
  · refine Ev_pos (decide_eq_true hf) (Ev.bind (Ev_const rfl) ?_)
    refine Ev_round (fun k => by rw [mapmakerlaw11_PolyTurns.j0]) ?_
    by_cases hg : (m.length : Int) ≤ 40
    · refine Ev_neg (by simp [hg]) ?_
      have hl : l.length ≤ 1000000 := by omega
      obtain ⟨r, r0, r1, r2⟩ := canon_both l hl
      obtain ⟨v1, v2⟩ := rev_both l hl
      obtain ⟨s, s1, s2⟩ := less_both l m hl
      refine Ev.bind r1 (Ev.bind r2 (Ev.bind (same08_ev r r0) (Ev_pos rfl ?_)))
      refine Ev.bind v1 (Ev.bind v2 (Ev.bind (same08_ev _ (by rw [List.length_reverse]; exact hl)) (Ev_pos rfl ?_)))
      exact Ev.bind s1 (Ev.bind s2 (Ev_pos (by simp) fin_ev))
    · exact Ev_pos (by simpa using hg) fin_ev
  · exact Ev_neg (by simpa using hf) (Ev_round (fun k => by rw [mapmakerlaw11_PolyTurns.j0]) (Ev_pos rfl fin_ev))

end Go.Proofs.Ytggafoldccikdaa.Pure
