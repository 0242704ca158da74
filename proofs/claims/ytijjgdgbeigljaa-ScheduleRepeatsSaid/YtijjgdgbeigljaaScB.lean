/- The schedule: Open, Next and Free, the program's and the reference's; the chapter's examples. -/
import Derived.Test.YtijjgdgbeigljaaSc
import Derived.Test.YtijjgdgbeigljaaPAllx3
import Derived.Test.YtijjgdgbeigljaaPAllx4
import Derived.Test.YtijjgdgbeigljaaPAllx5
import Derived.Test.YtijjgdgbeigljaaPAllx10
import Derived.Test.YtijjgdgbeigljaaPAllx12
import Derived.Test.YtijjgdgbeigljaaPAllx14
import Derived.Test.YtijjgdgbeigljaaPAllx6
namespace Go.Proofs.Ytijjgdgbeigljaa.Sc
open Go.RowKit Go.Proofs.Ytijjgdgbeigljaa.PAll Go.Proofs.YtijjgdgbeigljaaW.PrintWords Go.Proofs.YtijjgdgbeigljaaW.PrintLast Go.Proofs.YtijjgdgbeigljaaW.PrintMore Go.Proofs.Ytijjgdgbeigljaa.Bas
set_option linter.unusedVariables false

/-- Open, plainly. -/
def opn (l : List S35) (f e t : Int) : Bool := decide (Check l f e = 0) && (decide (0 ≤ t) && minute l f e (t % 1440))
theorem open_ev (l : List S35) (f e : Int) (hl : (l.length : Int) ≤ 9223372036854775807) (t : Int) : Ev (fun k => schedule_Open.f k l f e t) (opn l f e t) := by
  refine Ev.congr (fun k => by rw [schedule_Open.f]) ?_
  refine Ev.bind (check_ev l f e hl) ?_
  unfold opn
  by_cases c : Check l f e = 0
  · refine Ev_pos c ?_
    by_cases c2 : t ≥ 0
    · refine Ev_pos c2 ?_
      rw [tmod_nn (by omega)]
      refine Ev.bind (minute_ev (valid_of c) (by omega) (by omega)) ?_
      have : decide (0 ≤ t) = true := decide_eq_true (by omega)
      exact Ev_eq (by simp [c, this]) (Ev.now _)
    · have : decide (0 ≤ t) = false := decide_eq_false (by omega)
      exact Ev_neg c2 (Ev_eq (by simp [this]) (Ev.now _))
  · exact Ev_neg c (Ev_eq (by simp [c]) (Ev.now _))
theorem ropen_ev (l : List S35) (f e : Int) (hl : (l.length : Int) ≤ 9223372036854775807) (t : Int) : Ev (fun k => mapmakerref07_Open.f k l f e t) (opn l f e t) := by
  refine Ev.congr (fun k => by rw [mapmakerref07_Open.f]) ?_
  refine Ev.bind (rcheck_ev l f e hl) ?_
  unfold opn
  by_cases c : Check l f e = 0
  · refine Ev_pos c ?_
    by_cases c2 : t ≥ 0
    · refine Ev_pos c2 ?_
      rw [tmod_nn (by omega)]
      refine Ev.bind (rminute_ev (valid_of c) (by omega) (by omega)) ?_
      have : decide (0 ≤ t) = true := decide_eq_true (by omega)
      exact Ev_eq (by simp [c, this]) (Ev.now _)
    · have : decide (0 ≤ t) = false := decide_eq_false (by omega)
      exact Ev_neg c2 (Ev_eq (by simp [this]) (Ev.now _))
  · exact Ev_neg c (Ev_eq (by simp [c]) (Ev.now _))

/-- The search for n more minutes, from minute i behind t on. -/
def srch (p : Int → Bool) (t : Int) : Nat → Int → Int × Bool
  | 0, _ => (0, false)
  | n + 1, i => if p ((t + i) % 1440) = true then (t + i, true) else srch p t n (i + 1)
def next (l : List S35) (f e t : Int) : Int × Bool := if Check l f e = 0 ∧ t ≤ 1152921504606846976 then srch (minute l f e) (max t 0) 1440 0 else (0, false)

theorem next_l0 {l : List S35} {f e : Int} (hv : Valid l f e) (t : Int) (h0 : 0 ≤ t) (h1 : t ≤ 1152921504606846976) (n : Nat) : ∀ i : Int, 0 ≤ i → i + n = 1440 →
    Ev (fun k => schedule_Next.l0 k t i l f e) (srch (minute l f e) t n i) := by
  induction n with
  | zero =>
    intro i hi hn
    refine Ev_round (fun k => by rw [schedule_Next.l0]) ?_
    exact Ev_neg (by omega) (Ev.now _)
  | succ n ih =>
    intro i hi hn
    refine Ev_round (fun k => by rw [schedule_Next.l0]) ?_
    refine Ev_pos (by omega) ?_
    rw [wrap_in (x := t + i) ⟨by omega, by omega⟩, wrap_in (x := i + 1) ⟨by omega, by omega⟩, tmod_nn (by omega)]
    exact Ev.bind (minute_ev hv (by omega) (by omega)) (Ev_ite (fun _ => Ev.now _) (fun _ => ih (i + 1) (by omega) (by omega)))
theorem next_ev (l : List S35) (f e : Int) (hl : (l.length : Int) ≤ 9223372036854775807) (t : Int) : Ev (fun k => schedule_Next.f k l f e t) (next l f e t) := by
  refine Ev.congr (fun k => by rw [schedule_Next.f]) ?_
  refine Ev.bind (check_ev l f e hl) ?_
  unfold next
  have dead : ∀ b : Bool, b = true → Ev (fun k => schedule_Next.j0 k t b l f e) (0, false) := fun b hb => Ev_round (fun k => by rw [schedule_Next.j0]) (Ev_pos hb (Ev.now _))
  by_cases c : Check l f e = 0
  · refine Ev_pos c ?_
    by_cases c2 : t > 1152921504606846976
    · rw [if_neg (by omega)]
      exact dead _ (by simpa using c2)
    · rw [if_pos ⟨c, by omega⟩]
      refine Ev_round (fun k => by rw [schedule_Next.j0]) (Ev_neg (by simpa using c2) ?_)
      rw [mx_eq]
      exact next_l0 (valid_of c) _ (by omega) (by omega) 1440 0 (by omega) (by omega)
  · rw [if_neg (fun h => c h.1)]
    exact Ev_neg c (dead _ rfl)

theorem rnext_l0 {l : List S35} {f e : Int} (hv : Valid l f e) (t : Int) (h0 : 0 ≤ t) (h1 : t ≤ 1152921504606846976) (n : Nat) : ∀ i : Int, 0 ≤ i → i + n = 1440 →
    Ev (fun k => mapmakerref07_Next.l0 k t i l f e) (srch (minute l f e) t n i) := by
  induction n with
  | zero =>
    intro i hi hn
    refine Ev_round (fun k => by rw [mapmakerref07_Next.l0]) ?_
    exact Ev_neg (by omega) (Ev.now _)
  | succ n ih =>
    intro i hi hn
    refine Ev_round (fun k => by rw [mapmakerref07_Next.l0]) ?_
    refine Ev_pos (by omega) ?_
    rw [wrap_in (x := t + i) ⟨by omega, by omega⟩, wrap_in (x := i + 1) ⟨by omega, by omega⟩, tmod_nn (by omega)]
    exact Ev.bind (rminute_ev hv (by omega) (by omega)) (Ev_ite (fun _ => Ev.now _) (fun _ => ih (i + 1) (by omega) (by omega)))
theorem rnext_ev (l : List S35) (f e : Int) (hl : (l.length : Int) ≤ 9223372036854775807) (t : Int) : Ev (fun k => mapmakerref07_Next.f k l f e t) (next l f e t) := by
  refine Ev.congr (fun k => by rw [mapmakerref07_Next.f]) ?_
  refine Ev.bind (rcheck_ev l f e hl) ?_
  unfold next
  have dead : ∀ b : Bool, b = true → Ev (fun k => mapmakerref07_Next.j0 k t b l f e) (0, false) := fun b hb => Ev_round (fun k => by rw [mapmakerref07_Next.j0]) (Ev_pos hb (Ev.now _))
  by_cases c : Check l f e = 0
  · refine Ev_pos c ?_
    by_cases c2 : t > 1152921504606846976
    · rw [if_neg (by omega)]
      exact dead _ (by simpa using c2)
    · rw [if_pos ⟨c, by omega⟩]
      refine Ev_round (fun k => by rw [mapmakerref07_Next.j0]) (Ev_neg (by simpa using c2) ?_)
      by_cases c3 : t < 0
      · refine Ev_pos c3 (Ev_round (fun k => by rw [mapmakerref07_Next.j1]) ?_)
        rw [show max t 0 = 0 by omega]
        exact rnext_l0 (valid_of c) _ (by omega) (by omega) 1440 0 (by omega) (by omega)
      · refine Ev_neg c3 (Ev_round (fun k => by rw [mapmakerref07_Next.j1]) ?_)
        rw [show max t 0 = t by omega]
        exact rnext_l0 (valid_of c) _ (by omega) (by omega) 1440 0 (by omega) (by omega)
  · rw [if_neg (fun h => c h.1)]
    exact Ev_neg c (dead _ rfl)

/-- Every minute of the day from m on, n of them. -/
def fre (p : Int → Bool) : Nat → Int → Bool
  | 0, _ => true
  | n + 1, m => p m && fre p n (m + 1)
def Free (l : List S35) (f e : Int) : Bool := fre (opn l f e) 1440 0
theorem free_l0 (l : List S35) (f e : Int) (hl : (l.length : Int) ≤ 9223372036854775807) (n : Nat) : ∀ i : Int, 0 ≤ i → i + n = 1440 →
    Ev (fun k => schedule_Free.l0 k i l f e) (fre (opn l f e) n i) := by
  induction n with
  | zero =>
    intro i hi hn
    refine Ev_round (fun k => by rw [schedule_Free.l0]) ?_
    exact Ev_neg (by omega) (Ev.now _)
  | succ n ih =>
    intro i hi hn
    refine Ev_round (fun k => by rw [schedule_Free.l0]) ?_
    refine Ev_pos (by omega) ?_
    rw [wrap_in (x := i + 1) ⟨by omega, by omega⟩]
    refine Ev.bind (open_ev l f e hl i) ?_
    unfold fre
    by_cases c : opn l f e i = true
    · refine Ev_pos c (Ev_eq (by simp [c]) (ih (i + 1) (by omega) (by omega)))
    · refine Ev_neg c (Ev_eq (by simp [c]) (Ev.now _))
theorem free_ev (l : List S35) (f e : Int) (hl : (l.length : Int) ≤ 9223372036854775807) : Ev (fun k => schedule_Free.f k l f e) (Free l f e) := by
  refine Ev.congr (fun k => by rw [schedule_Free.f]) ?_
  exact free_l0 l f e hl 1440 0 (by omega) (by omega)
theorem rfree_l0 {l : List S35} {f e : Int} (hc : Check l f e = 0) (n : Nat) : ∀ i : Int, 0 ≤ i → i + n = 1440 →
    Ev (fun k => mapmakerref07_Free.l0 k i l f e) (fre (opn l f e) n i) := by
  induction n with
  | zero =>
    intro i hi hn
    refine Ev_round (fun k => by rw [mapmakerref07_Free.l0]) ?_
    exact Ev_neg (by omega) (Ev.now _)
  | succ n ih =>
    intro i hi hn
    refine Ev_round (fun k => by rw [mapmakerref07_Free.l0]) ?_
    refine Ev_pos (by omega) ?_
    rw [wrap_in (x := i + 1) ⟨by omega, by omega⟩]
    refine Ev.bind (rminute_ev (valid_of hc) hi (by omega)) ?_
    have e1 : minute l f e i = opn l f e i := by
      unfold opn
      rw [show i % 1440 = i by omega]
      simp [hc, hi]
    rw [e1]
    unfold fre
    by_cases c : opn l f e i = true
    · refine Ev_pos c (Ev_eq (by simp [c]) (ih (i + 1) (by omega) (by omega)))
    · refine Ev_neg c (Ev_eq (by simp [c]) (Ev.now _))
theorem rfree_ev (l : List S35) (f e : Int) (hl : (l.length : Int) ≤ 9223372036854775807) : Ev (fun k => mapmakerref07_Free.f k l f e) (Free l f e) := by
  refine Ev.congr (fun k => by rw [mapmakerref07_Free.f]) ?_
  refine Ev.bind (rcheck_ev l f e hl) ?_
  by_cases c : Check l f e = 0
  · exact Ev_pos c (rfree_l0 c 1440 0 (by omega) (by omega))
  · refine Ev_neg c (Ev_eq ?_ (Ev.now _))
    unfold Free
    show false = (opn l f e 0 && _)
    unfold opn
    simp [c]

theorem lives_ev : Ev (fun k => mapmakerlaw07_lives.f k) true := Ev.of mapmakerlaw07_lives.mono (k := 3000) (by decide +kernel)
end Go.Proofs.Ytijjgdgbeigljaa.Sc
