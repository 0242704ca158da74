/- The schedule: Check, minute, Open, Next and Free, and the reference's, come to one plain function each. -/
import Derived.Test.YtijjgdgbeigljaaBas
import Derived.Test.YtijjgdgbeigljaaPAllx1
import Derived.Test.YtijjgdgbeigljaaPAllx2
import Derived.Test.YtijjgdgbeigljaaPAllx3
import Derived.Test.YtijjgdgbeigljaaPAllx4
import Derived.Test.YtijjgdgbeigljaaPAllx5
import Derived.Test.YtijjgdgbeigljaaPAllx7
import Derived.Test.YtijjgdgbeigljaaPAllx9
import Derived.Test.YtijjgdgbeigljaaPAllx6
namespace Go.Proofs.Ytijjgdgbeigljaa.Sc
open Go.RowKit Go.Proofs.Ytijjgdgbeigljaa.PAll Go.Proofs.YtijjgdgbeigljaaW.PrintWords Go.Proofs.YtijjgdgbeigljaaW.PrintLast Go.Proofs.YtijjgdgbeigljaaW.PrintMore Go.Proofs.Ytijjgdgbeigljaa.Bas
set_option linter.unusedVariables false

/-- The last test of Check. -/
def tail (f e : Int) : Int := if e < 0 ∨ (e = 0 ∧ f ≠ 0) ∨ (e > 0 ∧ (f < 0 ∨ f ≥ 1440)) then 19 else 0
/-- Check, span by span. -/
def chk : Int → List S35 → Int → Int → Int
  | _, [], f, e => tail f e
  | last, x :: xs, f, e => if x.f0 < 0 ∨ x.f1 ≤ x.f0 ∨ x.f1 > 1440 then 2 else if x.f0 < last then 6 else chk x.f1 xs f e
def Check (l : List S35) (f e : Int) : Int := if (l.length : Int) > 8 then 5 else chk 0 l f e
/-- Every number is an int. -/
def Fit (l : List S35) : Prop := (l.length : Int) ≤ 9223372036854775807 ∧ ∀ x ∈ l, IsI x.f0 ∧ IsI x.f1

theorem check_l0 (l : List S35) (f e : Int) (hl : (l.length : Int) ≤ 9223372036854775807) (n : Nat) : ∀ (i last : Int), 0 ≤ i → i ≤ (l.length : Int) → (l.length : Int) - i = n →
    Ev (fun k => schedule_Check.l0 k last l (l.length : Int) i l f e) (chk last (l.drop i.toNat) f e) := by
  induction n with
  | zero =>
    intro i last h0 h1 hn
    refine Ev_round (fun k => by rw [schedule_Check.l0]) ?_
    refine Ev_neg (by omega) ?_
    rw [drop_end (by omega)]
    show Ev _ (tail f e)
    unfold tail
    refine Ev_const ?_
    repeat' split
    all_goals first | rfl | omega
  | succ n ih =>
    intro i last h0 h1 hn
    have hi : i < (l.length : Int) := by omega
    refine Ev_round (fun k => by rw [schedule_Check.l0]) ?_
    refine Ev_pos hi (Ev_pos h0 (Ev_pos hi ?_))
    have hw : wrap64 (i + 1) = i + 1 := wrap_in ⟨by omega, by omega⟩
    have hd : l.drop i.toNat = rd_T35 l i :: l.drop (i + 1).toNat := drop_at z35 h0 hi
    rw [hd]
    have key : ∀ (b : Bool), (b = true ↔ ((rd_T35 l i).f0 < 0 ∨ (rd_T35 l i).f1 ≤ (rd_T35 l i).f0 ∨ (rd_T35 l i).f1 > 1440)) →
        Ev (fun k => schedule_Check.j1 k last l (l.length : Int) i b l f e (rd_T35 l i).f0 (rd_T35 l i).f1) (chk last (rd_T35 l i :: l.drop (i + 1).toNat) f e) := by
      intro b hb
      refine Ev_round (fun k => by rw [schedule_Check.j1]) ?_
      unfold chk
      by_cases hc : b = true
      · rw [if_pos (hb.1 hc)]
        exact Ev_pos hc (Ev.now _)
      · rw [if_neg (fun h => hc (hb.2 h))]
        refine Ev_neg hc (Ev_ite (fun _ => Ev.now _) (fun _ => ?_))
        rw [hw]
        exact ih (i + 1) _ (by omega) (by omega) (by omega)
    by_cases c1 : (rd_T35 l i).f0 < 0
    · exact Ev_pos c1 (key true (by simp [c1]))
    · refine Ev_neg c1 ?_
      by_cases c2 : (rd_T35 l i).f1 ≤ (rd_T35 l i).f0
      · exact Ev_pos c2 (key true (by simp [c2]))
      · refine Ev_neg c2 (key _ ?_)
        simp [c1, c2]

theorem check_ev (l : List S35) (f e : Int) (hl : (l.length : Int) ≤ 9223372036854775807) : Ev (fun k => schedule_Check.f k l f e) (Check l f e) := by
  unfold Check
  refine Ev.congr (fun k => by rw [schedule_Check.f]) ?_
  refine Ev_ite (fun _ => Ev.now _) (fun _ => ?_)
  have := check_l0 l f e hl l.length 0 0 (by omega) (by omega) (by omega)
  simpa using this

theorem ref_l0 (l : List S35) (f e : Int) (hl : (l.length : Int) ≤ 9223372036854775807) (n : Nat) : ∀ (i last : Int), 0 ≤ i → i ≤ (l.length : Int) → (l.length : Int) - i = n →
    (i = 0 → last = 0) → (0 < i → last = (rd_T35 l (i - 1)).f1) →
    Ev (fun k => mapmakerref07_Check.l0 k i l f e) (chk last (l.drop i.toNat) f e) := by
  induction n with
  | zero =>
    intro i last h0 h1 hn _ _
    refine Ev_round (fun k => by rw [mapmakerref07_Check.l0]) ?_
    refine Ev_neg (by omega) ?_
    rw [drop_end (by omega)]
    show Ev _ (tail f e)
    unfold tail
    refine Ev_const ?_
    repeat' split
    all_goals first | rfl | omega
  | succ n ih =>
    intro i last h0 h1 hn hz hp
    have hi : i < (l.length : Int) := by omega
    refine Ev_round (fun k => by rw [mapmakerref07_Check.l0]) ?_
    refine Ev_pos hi (Ev_pos h0 ?_)
    have hw : wrap64 (i + 1) = i + 1 := wrap_in ⟨by omega, by omega⟩
    have hw1 : wrap64 (i - 1) = i - 1 := wrap_in ⟨by omega, by omega⟩
    have hd : l.drop i.toNat = rd_T35 l i :: l.drop (i + 1).toNat := drop_at z35 h0 hi
    rw [hd]
    have next := ih (i + 1) (rd_T35 l i).f1 (by omega) (by omega) (by omega) (by omega) (fun _ => by rw [show i + 1 - 1 = i by omega])
    have key : ∀ (b : Bool), (b = true ↔ ((rd_T35 l i).f0 < 0 ∨ (rd_T35 l i).f1 ≤ (rd_T35 l i).f0 ∨ (rd_T35 l i).f1 > 1440)) →
        Ev (fun k => mapmakerref07_Check.j1 k i b l f e (rd_T35 l i).f0 (rd_T35 l i).f1) (chk last (rd_T35 l i :: l.drop (i + 1).toNat) f e) := by
      intro b hb
      refine Ev_round (fun k => by rw [mapmakerref07_Check.j1]) ?_
      unfold chk
      by_cases hc : b = true
      · rw [if_pos (hb.1 hc)]
        exact Ev_pos hc (Ev.now _)
      · have hn2 : ¬ ((rd_T35 l i).f0 < 0 ∨ (rd_T35 l i).f1 ≤ (rd_T35 l i).f0 ∨ (rd_T35 l i).f1 > 1440) := fun h => hc (hb.2 h)
        rw [if_neg hn2]
        refine Ev_neg hc ?_
        by_cases hi0 : i > 0
        · refine Ev_pos hi0 ?_
          rw [hw1, hw, hp hi0]
          refine Ev_pos (by omega) (Ev_pos (by omega) (Ev_ite (fun _ => Ev.now _) (fun _ => next)))
        · refine Ev_neg hi0 ?_
          rw [hw, hz (by omega), if_neg (by omega)]
          exact next
    by_cases c1 : (rd_T35 l i).f0 < 0
    · exact Ev_pos c1 (key true (by simp [c1]))
    · refine Ev_neg c1 ?_
      by_cases c2 : (rd_T35 l i).f1 ≤ (rd_T35 l i).f0
      · exact Ev_pos c2 (key true (by simp [c2]))
      · refine Ev_neg c2 (key _ ?_)
        simp [c1, c2]

theorem rcheck_ev (l : List S35) (f e : Int) (hl : (l.length : Int) ≤ 9223372036854775807) : Ev (fun k => mapmakerref07_Check.f k l f e) (Check l f e) := by
  unfold Check
  refine Ev.congr (fun k => by rw [mapmakerref07_Check.f]) ?_
  refine Ev_ite (fun _ => Ev.now _) (fun _ => ?_)
  have := ref_l0 l f e hl l.length 0 0 (by omega) (by omega) (by omega) (by omega) (by omega)
  simpa using this

/-- What Check lets by: in order from 'last' on. -/
def Good : Int → List S35 → Prop
  | _, [] => True
  | last, x :: xs => 0 ≤ x.f0 ∧ x.f0 < x.f1 ∧ x.f1 ≤ 1440 ∧ last ≤ x.f0 ∧ Good x.f1 xs
theorem good_of (f e : Int) : ∀ (l : List S35) (last : Int), chk last l f e = 0 → Good last l ∧ tail f e = 0
  | [], _, h => ⟨trivial, h⟩
  | x :: xs, last, h => by
    unfold chk at h
    split at h
    · omega
    · split at h
      · omega
      · have := good_of f e xs x.f1 h
        exact ⟨⟨by omega, by omega, by omega, by omega, this.1⟩, this.2⟩
/-- A schedule that Check lets by. -/
def Valid (l : List S35) (f e : Int) : Prop := (l.length : Int) ≤ 8 ∧ Good 0 l ∧ (e = 0 ∧ f = 0 ∨ e > 0 ∧ 0 ≤ f ∧ f < 1440)
theorem valid_of {l : List S35} {f e : Int} (h : Check l f e = 0) : Valid l f e := by
  unfold Check at h
  split at h
  · omega
  · obtain ⟨h1, h2⟩ := good_of f e l 0 h
    refine ⟨by omega, h1, ?_⟩
    unfold tail at h2
    split at h2 <;> omega

/-- No span holds the minute. -/
def free (l : List S35) (m : Int) : Bool := l.all fun x => !(decide (x.f0 ≤ m) && decide (m < x.f1))
/-- The period's minute. -/
def tick (f e m : Int) : Bool := decide (e = 0) || (decide (f ≤ m) && decide ((m - f) % e = 0))
def minute (l : List S35) (f e m : Int) : Bool := tick f e m && free l m

theorem late {m : Int} : ∀ {l : List S35} {last : Int}, Good last l → m < last → free l m = true
  | [], _, _, _ => rfl
  | x :: xs, last, h, hm => by
    obtain ⟨_, h2, _, h4, h5⟩ := h
    have := late h5 (show m < x.f1 by omega)
    unfold free at this ⊢
    rw [List.all_cons, this]
    have e : decide (x.f0 ≤ m) = false := decide_eq_false (by omega)
    simp [e]
theorem good_drop : ∀ (l : List S35) (last : Int) (n : Nat), Good last l → ∃ last', Good last' (l.drop n)
  | l, last, 0, h => ⟨last, h⟩
  | [], last, n + 1, _ => ⟨last, trivial⟩
  | x :: xs, last, n + 1, h => good_drop xs x.f1 n h.2.2.2.2

theorem minute_l0 (l : List S35) (m : Int) (hl : (l.length : Int) ≤ 9223372036854775807) (hg : ∃ a, Good a l) (n : Nat) : ∀ (i : Int), 0 ≤ i → i ≤ (l.length : Int) → (l.length : Int) - i = n →
    Ev (fun k => schedule_minute.l0 k m l (l.length : Int) i) (free (l.drop i.toNat) m) := by
  induction n with
  | zero =>
    intro i h0 h1 hn
    refine Ev_round (fun k => by rw [schedule_minute.l0]) ?_
    rw [drop_end (by omega)]
    exact Ev_neg (by omega) (Ev.now _)
  | succ n ih =>
    intro i h0 h1 hn
    have hi : i < (l.length : Int) := by omega
    refine Ev_round (fun k => by rw [schedule_minute.l0]) ?_
    refine Ev_pos hi (Ev_pos h0 (Ev_pos hi ?_))
    have hw : wrap64 (i + 1) = i + 1 := wrap_in ⟨by omega, by omega⟩
    have hd : l.drop i.toNat = rd_T35 l i :: l.drop (i + 1).toNat := drop_at z35 h0 hi
    obtain ⟨a, ha⟩ := hg
    obtain ⟨b, hb⟩ := good_drop l a i.toNat ha
    rw [hd] at hb ⊢
    obtain ⟨g1, g2, g3, g4, g5⟩ := hb
    by_cases c1 : m ≥ (rd_T35 l i).f1
    · refine Ev_pos c1 ?_
      rw [hw]
      refine Ev_eq ?_ (ih (i + 1) (by omega) (by omega) (by omega))
      have e : decide (m < (rd_T35 l i).f1) = false := decide_eq_false (by omega)
      simp [free, e]
    · refine Ev_neg c1 ?_
      by_cases c2 : m ≥ (rd_T35 l i).f0
      · refine Ev_pos c2 (Ev_eq ?_ (Ev.now _))
        have e : decide (m < (rd_T35 l i).f1) = true := decide_eq_true (by omega)
        have e2 : decide ((rd_T35 l i).f0 ≤ m) = true := decide_eq_true (by omega)
        simp [free, e, e2]
      · refine Ev_neg c2 (Ev_eq ?_ (Ev.now _))
        have := late g5 (show m < _ by omega)
        have e2 : decide ((rd_T35 l i).f0 ≤ m) = false := decide_eq_false (by omega)
        unfold free at this ⊢
        rw [List.all_cons, this, e2]
        rfl

theorem minute_ev {l : List S35} {f e : Int} (hv : Valid l f e) {m : Int} (h0 : 0 ≤ m) (h1 : m < 1440) : Ev (fun k => schedule_minute.f k l f e m) (minute l f e m) := by
  obtain ⟨hl, hg, he⟩ := hv
  have loop := minute_l0 l m (by omega) ⟨0, hg⟩ l.length 0 (by omega) (by omega) (by omega)
  have j : ∀ b : Bool, Ev (fun k => schedule_minute.j0 k m b l f e) (!b && free l m) := by
    intro b
    refine Ev_round (fun k => by rw [schedule_minute.j0]) ?_
    cases b with
    | true => exact Ev_pos rfl (Ev.now _)
    | false => exact Ev_neg (by decide) (Ev_eq (by simp) loop)
  refine Ev.congr (fun k => by rw [schedule_minute.f]) ?_
  unfold minute tick
  by_cases c : e > 0
  · refine Ev_pos c ?_
    have e0 : decide (e = 0) = false := decide_eq_false (by omega)
    by_cases c2 : m < f
    · have e1 : decide (f ≤ m) = false := decide_eq_false (by omega)
      exact Ev_pos c2 (Ev_eq (by simp [e0, e1]) (j true))
    · have e1 : decide (f ≤ m) = true := decide_eq_true (by omega)
      refine Ev_neg c2 (Ev_neg (by omega) (Ev_eq ?_ (j _)))
      rw [wrap_in ⟨by omega, by omega⟩, tmod_nn (by omega), e0, e1]
      simp only [Bool.false_or, Bool.true_and]
      congr 1
      by_cases hz : (m - f) % e = 0
      · simp [hz]
      · simp [hz]
  · have e0 : decide (e = 0) = true := decide_eq_true (by omega)
    exact Ev_neg c (Ev_eq (by simp [e0]) (j false))

theorem rminute_l0 (l : List S35) (f e m : Int) (hl : (l.length : Int) ≤ 9223372036854775807) (h0m : 0 ≤ m) (h1m : m < 1440) (he : e = 0 ∧ f = 0 ∨ e > 0 ∧ 0 ≤ f ∧ f < 1440) (n : Nat) : ∀ (i : Int), 0 ≤ i → i ≤ (l.length : Int) → (l.length : Int) - i = n →
    Ev (fun k => mapmakerref07_minute.l0 k m i l f e) (tick f e m && free (l.drop i.toNat) m) := by
  induction n with
  | zero =>
    intro i h0 h1 hn
    refine Ev_round (fun k => by rw [mapmakerref07_minute.l0]) ?_
    rw [drop_end (by omega)]
    refine Ev_neg (by omega) ?_
    unfold tick
    by_cases c : e = 0
    · exact Ev_pos c (Ev_eq (by simp [c, free]) (Ev.now _))
    · refine Ev_neg c ?_
      by_cases c2 : m ≥ f
      · refine Ev_pos c2 (Ev_eq ?_ (Ev.now _))
        have e1 : decide (f ≤ m) = true := decide_eq_true (by omega)
        rw [wrap_in ⟨by omega, by omega⟩, tmod_nn (by omega), e1]
        by_cases hz : (m - f) % e = 0
        · simp [hz, c, free]
        · simp [hz, c]
      · refine Ev_neg c2 (Ev_eq ?_ (Ev.now _))
        have e1 : decide (f ≤ m) = false := decide_eq_false (by omega)
        simp [e1, c]
  | succ n ih =>
    intro i h0 h1 hn
    have hi : i < (l.length : Int) := by omega
    refine Ev_round (fun k => by rw [mapmakerref07_minute.l0]) ?_
    refine Ev_pos hi (Ev_pos h0 ?_)
    have hw : wrap64 (i + 1) = i + 1 := wrap_in ⟨by omega, by omega⟩
    have hd : l.drop i.toNat = rd_T35 l i :: l.drop (i + 1).toNat := drop_at z35 h0 hi
    rw [hd, hw]
    have next := ih (i + 1) (by omega) (by omega) (by omega)
    by_cases c2 : m ≥ (rd_T35 l i).f0
    · refine Ev_pos c2 ?_
      have e2 : decide ((rd_T35 l i).f0 ≤ m) = true := decide_eq_true (by omega)
      by_cases c1 : m < (rd_T35 l i).f1
      · refine Ev_pos c1 (Ev_eq ?_ (Ev.now _))
        simp [free, c1, e2]
      · refine Ev_neg c1 (Ev_eq ?_ next)
        simp [free, c1]
    · refine Ev_neg c2 (Ev_eq ?_ next)
      have e2 : decide ((rd_T35 l i).f0 ≤ m) = false := decide_eq_false (by omega)
      simp [free, e2]
theorem rminute_ev {l : List S35} {f e : Int} (hv : Valid l f e) {m : Int} (h0 : 0 ≤ m) (h1 : m < 1440) : Ev (fun k => mapmakerref07_minute.f k l f e m) (minute l f e m) := by
  obtain ⟨hl, hg, he⟩ := hv
  refine Ev.congr (fun k => by rw [mapmakerref07_minute.f]) ?_
  have := rminute_l0 l f e m (by omega) h0 h1 he l.length 0 (by omega) (by omega) (by omega)
  simpa [minute] using this
end Go.Proofs.Ytijjgdgbeigljaa.Sc
