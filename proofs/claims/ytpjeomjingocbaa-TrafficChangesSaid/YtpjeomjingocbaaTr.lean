/- Reports and networks: the program's Checks come to one plain function each. -/
import Derived.Test.YtpjeomjingocbaaBas
import Derived.Test.YtpjeomjingocbaaPAllx1
import Derived.Test.YtpjeomjingocbaaPAllx2
import Derived.Test.YtpjeomjingocbaaPAllx3
import Derived.Test.YtpjeomjingocbaaPAllx18
import Derived.Test.YtpjeomjingocbaaPAllx24
import Derived.Test.YtpjeomjingocbaaPAllx15
namespace Go.Proofs.Ytpjeomjingocbaa.Tr
open Go.RowKit Go.Proofs.Ytpjeomjingocbaa.PAll Go.Proofs.YtpjeomjingocbaaW.PrintWords Go.Proofs.YtpjeomjingocbaaW.PrintLast Go.Proofs.YtpjeomjingocbaaW.PrintMore Go.Proofs.Ytpjeomjingocbaa.Bas
set_option linter.unusedVariables false

/-- The last test of Check. -/
def tail (f e : Int) : Int := if e < 0 ∨ (e = 0 ∧ f ≠ 0) ∨ (e > 0 ∧ (f < 0 ∨ f ≥ 1440)) then 19 else 0
/-- Check, span by span. -/
def chk : Int → List S75 → Int → Int → Int
  | _, [], f, e => tail f e
  | last, x :: xs, f, e => if x.f0 < 0 ∨ x.f1 ≤ x.f0 ∨ x.f1 > 1440 then 2 else if x.f0 < last then 6 else chk x.f1 xs f e
def Check (l : List S75) (f e : Int) : Int := if (l.length : Int) > 8 then 5 else chk 0 l f e
/-- Every number is an int. -/
def Fit (l : List S75) : Prop := (l.length : Int) ≤ 9223372036854775807 ∧ ∀ x ∈ l, IsI x.f0 ∧ IsI x.f1

theorem check_l0 (l : List S75) (f e : Int) (hl : (l.length : Int) ≤ 9223372036854775807) (n : Nat) : ∀ (i last : Int), 0 ≤ i → i ≤ (l.length : Int) → (l.length : Int) - i = n →
    Ev (fun k => schedule_Check.l0 k last l (l.length : Int) i l f e) (chk last (l.drop i.toNat) f e) := by
  induction n with
  | zero =>
    intro i last h0 h1 hn
    refine Ev_round (fun k => by rw [schedule_Check.l0]) ?_
    refine Ev_neg (by omega) ?_
    rw [drop_end (by omega)]
    show Ev _ (tail f e)
    unfold tail
    refine Ev_const ?_
    repeat' split
    all_goals first | rfl | omega
  | succ n ih =>
    intro i last h0 h1 hn
    have hi : i < (l.length : Int) := by omega
    refine Ev_round (fun k => by rw [schedule_Check.l0]) ?_
    refine Ev_pos hi (Ev_pos h0 (Ev_pos hi ?_))
    have hw : wrap64 (i + 1) = i + 1 := wrap_in ⟨by omega, by omega⟩
    have hd : l.drop i.toNat = rd_T75 l i :: l.drop (i + 1).toNat := drop_at z75 h0 hi
    rw [hd]
    have key : ∀ (b : Bool), (b = true ↔ ((rd_T75 l i).f0 < 0 ∨ (rd_T75 l i).f1 ≤ (rd_T75 l i).f0 ∨ (rd_T75 l i).f1 > 1440)) →
        Ev (fun k => schedule_Check.j1 k last l (l.length : Int) i b l f e (rd_T75 l i).f0 (rd_T75 l i).f1) (chk last (rd_T75 l i :: l.drop (i + 1).toNat) f e) := by
      intro b hb
      refine Ev_round (fun k => by rw [schedule_Check.j1]) ?_
      unfold chk
      by_cases hc : b = true
      · rw [if_pos (hb.1 hc)]
        exact Ev_pos hc (Ev.now _)
      · rw [if_neg (fun h => hc (hb.2 h))]
        refine Ev_neg hc (Ev_ite (fun _ => Ev.now _) (fun _ => ?_))
        rw [hw]
        exact ih (i + 1) _ (by omega) (by omega) (by omega)
    by_cases c1 : (rd_T75 l i).f0 < 0
    · exact Ev_pos c1 (key true (by simp [c1]))
    · refine Ev_neg c1 ?_
      by_cases c2 : (rd_T75 l i).f1 ≤ (rd_T75 l i).f0
      · exact Ev_pos c2 (key true (by simp [c2]))
      · refine Ev_neg c2 (key _ ?_)
        simp [c1, c2]

theorem check_ev (l : List S75) (f e : Int) (hl : (l.length : Int) ≤ 9223372036854775807) : Ev (fun k => schedule_Check.f k l f e) (Check l f e) := by
  unfold Check
  refine Ev.congr (fun k => by rw [schedule_Check.f]) ?_
  refine Ev_ite (fun _ => Ev.now _) (fun _ => ?_)
  have := check_l0 l f e hl l.length 0 0 (by omega) (by omega) (by omega)
  simpa using this

/-- One report. -/
def rep1 (x : S43) : Int := if x.f0 < 1 ∨ 2147483647 < x.f0 ∨ x.f1 < 0 ∨ 1000 < x.f1 then 2 else if x.f2 < 0 ∨ 1073741824 < x.f2 ∨ x.f3 ≤ x.f2 ∨ 1073741824 < x.f3 then 19 else 0
def repl : List S43 → Int
  | [] => 0
  | x :: xs => if rep1 x = 0 then repl xs else rep1 x
def rck (l : List S43) : Int := if (l.length : Int) > 10000 then 5 else repl l
theorem repl_bad {x : S43} {xs : List S43} {e : Int} (h : rep1 x = e) (he : e ≠ 0) : repl (x :: xs) = e := by
  rw [repl, h, if_neg he]
theorem repl_good {x : S43} {xs : List S43} (h : rep1 x = 0) : repl (x :: xs) = repl xs := by
  rw [repl, if_pos h]
theorem tck_l0 (l : List S43) (hl : (l.length : Int) ≤ 9223372036854775807) (n : Nat) : ∀ (i : Int), 0 ≤ i → i ≤ (l.length : Int) → (l.length : Int) - i = n →
    Ev (fun k => traffic_Check.l0 k l (l.length : Int) i) (repl (l.drop i.toNat)) := by
  induction n with
  | zero =>
    intro i h0 h1 hn
    refine Ev_round (fun k => by rw [traffic_Check.l0]) (Ev_neg (by omega) ?_)
    rw [drop_end (by omega)]
    exact Ev.now _
  | succ n ih =>
    intro i h0 h1 hn
    have hi : i < (l.length : Int) := by omega
    refine Ev_round (fun k => by rw [traffic_Check.l0]) (Ev_pos hi (Ev_pos h0 (Ev_pos hi ?_)))
    have hw : wrap64 (i + 1) = i + 1 := wrap_in ⟨by omega, by omega⟩
    rw [show l.drop i.toNat = rd_T43 l i :: l.drop (i + 1).toNat from drop_at z43 h0 hi]
    generalize rd_T43 l i = x
    have key : ∀ (b : Bool), (b = true ↔ (x.f0 < 1 ∨ 2147483647 < x.f0 ∨ x.f1 < 0 ∨ 1000 < x.f1)) →
        Ev (fun k => traffic_Check.j1 k l (l.length : Int) i b x.f0 x.f1 x.f2 x.f3) (repl (x :: l.drop (i + 1).toNat)) := by
      intro b hb
      refine Ev_round (fun k => by rw [traffic_Check.j1]) ?_
      by_cases hc : b = true
      · refine Ev_pos hc ?_
        rw [repl_bad (show rep1 x = 2 from if_pos (hb.1 hc)) (by decide)]
        exact Ev.now _
      · have h2 := fun h => hc (hb.2 h)
        refine Ev_neg hc ?_
        by_cases t : x.f2 < 0 ∨ 1073741824 < x.f2 ∨ x.f3 ≤ x.f2 ∨ 1073741824 < x.f3
        · rw [repl_bad (show rep1 x = 19 by rw [rep1, if_neg h2, if_pos t]) (by decide)]
          by_cases d1 : x.f2 < 0
          · exact Ev_pos d1 (Ev.now _)
          refine Ev_neg d1 ?_
          by_cases d2 : x.f2 > 1073741824
          · exact Ev_pos d2 (Ev.now _)
          refine Ev_neg d2 ?_
          by_cases d3 : x.f3 ≤ x.f2
          · exact Ev_pos d3 (Ev.now _)
          exact Ev_neg d3 (Ev_pos (by omega) (Ev.now _))
        · rw [repl_good (show rep1 x = 0 by rw [rep1, if_neg h2, if_neg t]), hw]
          exact Ev_neg (by omega) (Ev_neg (by omega) (Ev_neg (by omega) (Ev_neg (by omega) (ih (i + 1) (by omega) (by omega) (by omega)))))
    by_cases c1 : x.f0 < 1
    · exact Ev_pos c1 (key true ⟨fun _ => by omega, fun _ => rfl⟩)
    refine Ev_neg c1 ?_
    by_cases c2 : x.f0 > 2147483647
    · exact Ev_pos c2 (key true ⟨fun _ => by omega, fun _ => rfl⟩)
    refine Ev_neg c2 ?_
    by_cases c3 : x.f1 < 0
    · exact Ev_pos c3 (key true ⟨fun _ => by omega, fun _ => rfl⟩)
    refine Ev_neg c3 (key _ ?_)
    rw [decide_eq_true_eq]
    omega
theorem tck_ev (l : List S43) (hl : (l.length : Int) ≤ 9223372036854775807) : Ev (fun k => traffic_Check.f k l) (rck l) := by
  refine Ev.congr (fun k => by rw [traffic_Check.f]) ?_
  unfold rck
  refine Ev_ite (fun _ => Ev.now _) (fun _ => ?_)
  have := tck_l0 l hl l.length 0 (by omega) (by omega) (by omega)
  simpa using this
/-- The nodes are in order, from one on. -/
def ordf (l : List Int) (i : Int) : Nat → Bool
  | 0 => true
  | n + 1 => if rd l (i - 1) ≥ rd l i then false else ordf l (i + 1) n
/-- One piece. -/
def pc1 (n : Int) (x : S48) : Int := if x.f0 < 0 ∨ n ≤ x.f0 ∨ x.f1 < 0 ∨ n ≤ x.f1 ∨ x.f2 < 1 ∨ 2147483647 < x.f2 ∨ x.f4 < 1 ∨ 6 < x.f4 ∨ x.f3 < 0 ∨ 67108864 < x.f3 then 2 else Check x.f5.f0 x.f5.f1 x.f5.f2
def pcl (n : Int) : List S48 → Int
  | [] => 0
  | x :: xs => if pc1 n x = 0 then pcl n xs else pc1 n x
def rdk (N : List Int) (P : List S64) (R : List S48) : Int := if (N.length : Int) = (P.length : Int) then (if ordf N 1 (N.length - 1) = true then pcl (N.length : Int) R else 6) else 12
/-- What the laws' lists are like. -/
def Fits (R : List S48) : Prop := (R.length : Int) ≤ 9223372036854775807 ∧ ∀ x ∈ R, (x.f5.f0.length : Int) ≤ 9223372036854775807
theorem road_l1 (n : Int) (R : List S48) (hR : Fits R) (m : Nat) : ∀ (i : Int), 0 ≤ i → i ≤ (R.length : Int) → (R.length : Int) - i = m →
    Ev (fun k => roads_Check.l1 k n R (R.length : Int) i) (pcl n (R.drop i.toNat)) := by
  have hl := hR.1
  induction m with
  | zero =>
    intro i h0 h1 hn
    refine Ev_round (fun k => by rw [roads_Check.l1]) (Ev_neg (by omega) ?_)
    rw [drop_end (by omega)]
    exact Ev.now _
  | succ m ih =>
    intro i h0 h1 hn
    have hi : i < (R.length : Int) := by omega
    refine Ev_round (fun k => by rw [roads_Check.l1]) (Ev_pos hi (Ev_pos h0 (Ev_pos hi ?_)))
    have hw : wrap64 (i + 1) = i + 1 := wrap_in ⟨by omega, by omega⟩
    have hx : ((rd_T48 R i).f5.f0.length : Int) ≤ 9223372036854775807 := hR.2 _ (getD_mem z48 h0 hi)
    rw [show R.drop i.toNat = rd_T48 R i :: R.drop (i + 1).toNat from drop_at z48 h0 hi]
    generalize rd_T48 R i = x at hx ⊢
    have key : ∀ (b : Bool), (b = true ↔ (x.f0 < 0 ∨ n ≤ x.f0 ∨ x.f1 < 0 ∨ n ≤ x.f1 ∨ x.f2 < 1 ∨ 2147483647 < x.f2 ∨ x.f4 < 1 ∨ 6 < x.f4 ∨ x.f3 < 0 ∨ 67108864 < x.f3)) →
        Ev (fun k => roads_Check.j2 k n R (R.length : Int) i b x.f0 x.f1 x.f2 x.f3 x.f4 x.f5.f0 x.f5.f1 x.f5.f2) (pcl n (x :: R.drop (i + 1).toNat)) := by
      intro b hb
      refine Ev_round (fun k => by rw [roads_Check.j2]) ?_
      by_cases hc : b = true
      · refine Ev_pos hc ?_
        rw [pcl, show pc1 n x = 2 from if_pos (hb.1 hc), if_neg (by decide)]
        exact Ev.now _
      · have e : pc1 n x = Check x.f5.f0 x.f5.f1 x.f5.f2 := if_neg (fun h => hc (hb.2 h))
        refine Ev_neg hc (Ev.bind (check_ev _ _ _ hx) ?_)
        rw [pcl, e]
        by_cases c0 : Check x.f5.f0 x.f5.f1 x.f5.f2 = 0
        · rw [if_pos c0, hw]
          exact Ev_pos c0 (ih (i + 1) (by omega) (by omega) (by omega))
        · rw [if_neg c0]
          exact Ev_neg c0 (Ev.now _)
    by_cases c1 : x.f0 < 0
    · exact Ev_pos c1 (key true ⟨fun _ => by omega, fun _ => rfl⟩)
    refine Ev_neg c1 ?_
    by_cases c2 : x.f0 ≥ n
    · exact Ev_pos c2 (key true ⟨fun _ => by omega, fun _ => rfl⟩)
    refine Ev_neg c2 ?_
    by_cases c3 : x.f1 < 0
    · exact Ev_pos c3 (key true ⟨fun _ => by omega, fun _ => rfl⟩)
    refine Ev_neg c3 ?_
    by_cases c4 : x.f1 ≥ n
    · exact Ev_pos c4 (key true ⟨fun _ => by omega, fun _ => rfl⟩)
    refine Ev_neg c4 ?_
    by_cases c5 : x.f2 < 1
    · exact Ev_pos c5 (key true ⟨fun _ => by omega, fun _ => rfl⟩)
    refine Ev_neg c5 ?_
    by_cases c6 : x.f2 > 2147483647
    · exact Ev_pos c6 (key true ⟨fun _ => by omega, fun _ => rfl⟩)
    refine Ev_neg c6 ?_
    by_cases c7 : x.f4 < 1
    · exact Ev_pos c7 (key true ⟨fun _ => by omega, fun _ => rfl⟩)
    refine Ev_neg c7 ?_
    by_cases c8 : x.f4 > 6
    · exact Ev_pos c8 (key true ⟨fun _ => by omega, fun _ => rfl⟩)
    refine Ev_neg c8 ?_
    by_cases c9 : x.f3 < 0
    · exact Ev_pos c9 (key true ⟨fun _ => by omega, fun _ => rfl⟩)
    refine Ev_neg c9 (key _ ?_)
    rw [decide_eq_true_eq]
    omega
theorem road_l0 (N : List Int) (P : List S64) (R : List S48) (hN : (N.length : Int) ≤ 9223372036854775807) (hR : Fits R) (m : Nat) : ∀ (i : Int), 1 ≤ i → ((N.length : Int) - i).toNat = m →
    i ≤ (N.length : Int) ∨ i = 1 → Ev (fun k => roads_Check.l0 k i N P R) (if ordf N i m = true then pcl (N.length : Int) R else 6) := by
  induction m with
  | zero =>
    intro i h0 hn h1
    refine Ev_round (fun k => by rw [roads_Check.l0]) (Ev_neg (by omega) ?_)
    rw [ordf, if_pos rfl]
    have := road_l1 (N.length : Int) R hR R.length 0 (by omega) (by omega) (by omega)
    simpa using this
  | succ m ih =>
    intro i h0 hn h1
    refine Ev_round (fun k => by rw [roads_Check.l0, wrap_in (x := i - 1) ⟨by omega, by omega⟩, wrap_in (x := i + 1) ⟨by omega, by omega⟩]) ?_
    refine Ev_pos (by omega) (Ev_pos (by omega) (Ev_pos (by omega) (Ev_pos (by omega) ?_)))
    rw [ordf]
    by_cases c : rd N (i - 1) ≥ rd N i
    · rw [if_pos c, if_neg (by decide)]
      exact Ev_pos c (Ev.now _)
    · rw [if_neg c]
      exact Ev_neg c (ih (i + 1) (by omega) (by omega) (by omega))
theorem road_ev (N : List Int) (P : List S64) (R : List S48) (hN : (N.length : Int) ≤ 9223372036854775807) (hR : Fits R) : Ev (fun k => roads_Check.f k N P R) (rdk N P R) := by
  refine Ev.congr (fun k => by rw [roads_Check.f]) ?_
  unfold rdk
  refine Ev_ite (fun _ => ?_) (fun _ => Ev.now _)
  exact road_l0 N P R hN hR (N.length - 1) 1 (by omega) (by omega) (by omega)
theorem lives_ev : Ev (fun k => mapmakerlaw48_lives.f k) true := Ev.of mapmakerlaw48_lives.mono (k := 200) (by decide +kernel)
theorem fin_ev : Ev (fun k => (mapmakerlaw48_lives.f k).bind fun t => some t) true := Ev.bind lives_ev (Ev.now _)
end Go.Proofs.Ytpjeomjingocbaa.Tr
