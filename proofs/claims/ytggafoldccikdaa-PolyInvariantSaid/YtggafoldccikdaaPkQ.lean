/- The code's Canon, Reverse, and Same of a list with itself, in closed form. -/
import Derived.Test.YtggafoldccikdaaPkM
import Derived.Test.YtggafoldccikdaaPAllx21
import Derived.Test.YtggafoldccikdaaPAllx1
namespace Go.Proofs.Ytggafoldccikdaa.Pq
open Go.RowKit Go.Proofs.Ytggafoldccikdaa.PAll Go.Proofs.YtggafoldccikdaaW.PrintWords Go.Proofs.YtggafoldccikdaaW.PrintLast Go.Proofs.YtggafoldccikdaaW.PrintMore Go.Proofs.Ytggafoldccikdaa.Bas Go.Proofs.Ytggafoldccikdaa.Sg Go.Proofs.Ytggafoldccikdaa.Po
set_option linter.unusedVariables false
set_option linter.unusedSimpArgs false

theorem same08 (x : List S30) (hx : x.length ≤ 1000000) : ∀ (d i : Nat), i + d = x.length → Ev (fun k => mapmakerref08_Same.l0 k x x (i : Int)) true := by
  intro d
  induction d with
  | zero =>
    intro i h
    exact Ev_round (fun k => by rw [mapmakerref08_Same.l0]) (Ev_neg (by omega) (Ev.now _))
  | succ d ih =>
    intro i h
    refine Ev_round (fun k => by rw [mapmakerref08_Same.l0]) (Ev_pos (by omega) (Ev_pos (by omega) (Ev_pos (by omega) (Ev_neg (by simp) ?_))))
    rw [wi (n := x.length) (by omega) hx]
    exact ih (i + 1) (by omega)
theorem same08_ev (x : List S30) (hx : x.length ≤ 1000000) : Ev (fun k => mapmakerref08_Same.f k x x) true :=
  Ev.congr (f := fun k => if (x.length : Int) = (x.length : Int) then mapmakerref08_Same.l0 k x x ((0 : Nat) : Int) else some false) (fun k => by rw [mapmakerref08_Same.f]; rfl) (Ev_pos rfl (same08 x hx x.length 0 (by omega)))

def amn (l : List S30) : Nat → Nat → Nat → Nat
 | 0, _, a => a
 | d + 1, i, a => amn l d (i + 1) (if lt2 (at_ l i).f0 (at_ l i).f1 (at_ l a).f0 (at_ l a).f1 then i else a)
theorem amn_lt {l : List S30} : ∀ (d i a : Nat), i + d = l.length → a < l.length → amn l d i a < l.length := by
  intro d
  induction d with
  | zero => intro i a h ha; exact ha
  | succ d ih =>
    intro i a h ha
    unfold amn
    refine ih _ _ (by omega) ?_
    split <;> omega
theorem canon_l0 {l : List S30} (hl : l.length ≤ 1000000) : ∀ (d i a : Nat), i + d = l.length → a < l.length →
    Ev (fun k => poly_Canon.l0 k l (a : Int) l (l.length : Int) (i : Int)) (l.drop (amn l d i a) ++ l.take (amn l d i a)) := by
  intro d
  induction d with
  | zero =>
    intro i a h ha
    refine Ev_round (fun k => by rw [poly_Canon.l0]) (Ev_neg (by omega) (Ev_pos (by omega) (Ev_pos (by omega) ?_)))
    have c1 : api_Point_45.f (l.drop (a : Int).toNat) = some (l.drop a) := by
      unfold api_Point_45.f
      rw [if_pos (by rw [List.length_drop]; omega)]
      rfl
    refine Ev.bind (Ev_const c1) (Ev.bind (Ev_const (r := l.take a) rfl) ?_)
    · refine Ev_pos ?_ (Ev.now _)
      rw [List.length_drop, List.length_take]
      omega
  | succ d ih =>
    intro i a h ha
    refine Ev_round (fun k => by rw [poly_Canon.l0]) (Ev_pos (by omega) (Ev_pos (by omega) (Ev_pos (by omega) (Ev_pos (by omega) (Ev_pos (by omega) ?_)))))
    refine Ev.bind (Ev_const (Less_eq _ _ _ _)) ?_
    rw [wi (n := l.length) (i := i) (by omega) hl]
    unfold amn
    by_cases c : lt2 (at_ l i).f0 (at_ l i).f1 (at_ l a).f0 (at_ l a).f1
    · rw [if_pos c]
      exact Ev_pos (decide_eq_true c) (ih (i + 1) i (by omega) (by omega))
    · rw [if_neg c]
      exact Ev_neg (by rw [decide_eq_false c]; decide) (ih (i + 1) a (by omega) ha)
/-- Turned at both ends, i points in. -/
def Rv (l y : List S30) (i : Nat) : Prop := y.length = l.length ∧ ∀ p, p < l.length → y[p]? = if p < i ∨ l.length ≤ p + i then l[l.length - 1 - p]? else l[p]?
theorem rv_end {l y : List S30} {i : Nat} (h : Rv l y i) (hi : l.length ≤ 2 * i + 1) : y = l.reverse := by
  refine List.ext_getElem? fun p => ?_
  by_cases hp : p < l.length
  · rw [h.2 p hp, List.getElem?_reverse hp]
    split
    · rfl
    · rw [show l.length - 1 - p = p by omega]
  · rw [List.getElem?_eq_none (by rw [h.1]; omega), List.getElem?_eq_none (by rw [List.length_reverse]; omega)]
theorem rv_step {l y : List S30} {i : Nat} (h : Rv l y i) (hi : 2 * i + 1 < l.length) : Rv l ((y.set i (at_ y (l.length - 1 - i))).set (l.length - 1 - i) (at_ y i)) (i + 1) := by
  obtain ⟨h1, h2⟩ := h
  have e : ∀ j, j < l.length → some (at_ y j) = y[j]? := by
    intro j hj
    unfold at_ rd_T30
    rw [List.getD_eq_getElem?_getD, Int.toNat_natCast, List.getElem?_eq_getElem (by omega)]
    rfl
  refine ⟨by rw [List.length_set, List.length_set, h1], fun p hp => ?_⟩
  by_cases c1 : p = l.length - 1 - i
  · subst c1
    rw [List.getElem?_set_self (by rw [List.length_set]; omega), e i (by omega), h2 i (by omega), if_neg (by omega), if_pos (by omega)]
    rw [show l.length - 1 - (l.length - 1 - i) = i by omega]
  · rw [List.getElem?_set_ne (by omega)]
    by_cases c2 : p = i
    · subst c2
      rw [List.getElem?_set_self (by omega), e _ (by omega), h2 _ (by omega), if_neg (by omega), if_pos (by omega)]
    · rw [List.getElem?_set_ne (by omega), h2 p hp]
      by_cases c3 : p < i ∨ l.length ≤ p + i
      · rw [if_pos c3, if_pos (by omega)]
      · rw [if_neg c3, if_neg (by omega)]
theorem rev_l0 {l : List S30} (hl : l.length ≤ 1000000) : ∀ (d i : Nat) (y : List S30), 2 * i + d = l.length + 1 → Rv l y i → Ev (fun k => api_Point_47.l0 k y (i : Int) ((l.length : Int) - 1 - i)) l.reverse := by
  intro d
  induction d using Nat.strongRecOn with
  | _ d ih =>
    intro i y h hr
    by_cases c : 2 * i + 1 < l.length
    · refine Ev_round (fun k => by rw [api_Point_47.l0]) (Ev_pos (by omega) (Ev_pos (by omega) (Ev_pos (by rw [hr.1]; omega) (Ev_pos (by omega) (Ev_pos (by rw [hr.1]; omega) ?_)))))
      have s := rv_step hr c
      have e1 : wrap64 ((i : Int) + 1) = ((i + 1 : Nat) : Int) := by rw [wrap_in ⟨by omega, by omega⟩]; rfl
      have e2 : wrap64 ((l.length : Int) - 1 - i - 1) = (l.length : Int) - 1 - ((i + 1 : Nat) : Int) := by rw [wrap_in ⟨by omega, by omega⟩]; omega
      have e3 : ((l.length : Int) - 1 - i) = ((l.length - 1 - i : Nat) : Int) := by omega
      have z := ih (d - 2) (by omega) (i + 1) _ (by omega) s
      rw [e1, e2, e3]
      exact z
    · refine Ev_round (fun k => by rw [api_Point_47.l0]) (Ev_neg (by omega) (Ev_const ?_))
      rw [rv_end hr (by omega)]
theorem rev_ev (l : List S30) (hl : l.length ≤ 1000000) : Ev (fun k => poly_Reverse.f k l) l.reverse := by
  have e : wrap64 ((l.length : Int) - 1) = (l.length : Int) - 1 := wrap_in ⟨by omega, by omega⟩
  have c0 : api_Point_45.f l = some l := if_pos hl
  refine Ev.congr (fun k => by rw [poly_Reverse.f]) (Ev.bind (Ev_const c0) (Ev.bind (a := l.reverse) ?_ (Ev.now _)))
  refine Ev.congr (fun k => by rw [api_Point_47.f]) ?_
  rw [e]
  have z := rev_l0 hl (l.length + 1) 0 l (by omega) ⟨rfl, fun p hp => by rw [if_neg (by omega)]⟩
  have e2 : (l.length : Int) - 1 - ((0 : Nat) : Int) = (l.length : Int) - 1 := by omega
  rw [e2] at z
  exact z
theorem canon_ev {l : List S30} (hp : 0 < l.length) (hl : l.length ≤ 1000000) : Ev (fun k => poly_Canon.f k l) (l.drop (amn l l.length 0 0) ++ l.take (amn l l.length 0 0)) :=
  Ev.congr (f := fun k => poly_Canon.l0 k l ((0 : Nat) : Int) l (l.length : Int) ((0 : Nat) : Int)) (fun k => by rw [poly_Canon.f]; rfl) (canon_l0 hl l.length 0 0 (by omega) hp)
end Go.Proofs.Ytggafoldccikdaa.Pq
