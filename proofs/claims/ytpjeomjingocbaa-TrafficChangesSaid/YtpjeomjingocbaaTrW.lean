/- Weights: one list, piece by piece. -/
import Derived.Test.YtpjeomjingocbaaTr
import Derived.Test.YtpjeomjingocbaaNmM
import Derived.Test.YtpjeomjingocbaaPAllx4
import Derived.Test.YtpjeomjingocbaaPAllx5
import Derived.Test.YtpjeomjingocbaaPAllx6
import Derived.Test.YtpjeomjingocbaaPAllx13
import Derived.Test.YtpjeomjingocbaaPAllx24
import Derived.Test.YtpjeomjingocbaaPAllx18
namespace Go.Proofs.Ytpjeomjingocbaa.Tr
open Go.RowKit Go.Proofs.Ytpjeomjingocbaa.PAll Go.Proofs.YtpjeomjingocbaaW.PrintWords Go.Proofs.YtpjeomjingocbaaW.PrintLast Go.Proofs.YtpjeomjingocbaaW.PrintMore Go.Proofs.Ytpjeomjingocbaa.Bas Go.Proofs.Ytpjeomjingocbaa.Nm
set_option linter.unusedVariables false

/-- The time per length of a class. -/
def spd (c : Int) : Int := if c < 1 then 0 else if c ≥ 7 then 0 else if c = 1 then 1 else if c = 2 then 2 else if c = 3 then 3 else if c = 4 then 5 else if c = 5 then 8 else 10
theorem spd_bd (c : Int) : 0 ≤ spd c ∧ spd c ≤ 10 := by
  unfold spd
  repeat' split
  all_goals omega
theorem speed_eq (c : Int) : classify_Speed.f c = some (spd c) := by
  unfold classify_Speed.f spd
  repeat' split
  all_goals rfl
/-- The weight without traffic. -/
def bas (x : S48) : Int := wrap64 (x.f3 * spd x.f4)
theorem base_l0 (R : List S48) (hR : (R.length : Int) ≤ 40) (m : Nat) : ∀ (i : Int) (out : List Int), 0 ≤ i → i ≤ (R.length : Int) → (R.length : Int) - i = m → (out.length : Int) = i →
    Ev (fun k => roads_Base.l0 k out R (R.length : Int) i) (out ++ (R.drop i.toNat).map bas) := by
  induction m with
  | zero =>
    intro i out h0 h1 hn ho
    refine Ev_round (fun k => by rw [roads_Base.l0]) (Ev_neg (by omega) ?_)
    rw [drop_end (by omega), List.map_nil, List.append_nil]
    exact Ev.now _
  | succ m ih =>
    intro i out h0 h1 hn ho
    refine Ev_round (fun k => by rw [roads_Base.l0, speed_eq, Option.bind_some]) ?_
    refine Ev_pos (by omega) (Ev_pos h0 (Ev_pos (by omega) (Ev_pos (by omega) ?_)))
    rw [wrap_in (x := i + 1) ⟨by omega, by omega⟩]
    refine Ev_eq ?_ (ih (i + 1) _ (by omega) (by omega) (by omega) (by rw [List.length_append]; simp; omega))
    rw [show R.drop i.toNat = rd_T48 R i :: R.drop (i + 1).toNat from drop_at z48 h0 (by omega), List.map_cons, List.append_assoc]
    rfl
theorem base_ev (N : List Int) (P : List S64) (R : List S48) (hR : (R.length : Int) ≤ 40) : Ev (fun k => roads_Base.f k N P R) (R.map bas) := by
  refine Ev.congr (fun k => by rw [roads_Base.f]) ?_
  have := base_l0 R hR R.length 0 [] (by omega) (by omega) (by omega) (by simp)
  simpa using this
/-- A report in effect for a way. -/
def hit (way at' : Int) (x : S43) : Bool := decide (x.f0 = way ∧ x.f2 ≤ at' ∧ at' < x.f3)
/-- The percentage of the last report in effect. -/
def pct (way at' : Int) (l : List S43) : Int := l.foldl (fun a x => if hit way at' x = true then x.f1 else a) 100
theorem pct_snoc (way at' : Int) (l : List S43) (x : S43) : pct way at' (l ++ [x]) = if hit way at' x = true then x.f1 else pct way at' l := by
  unfold pct
  rw [List.foldl_append, List.foldl_cons, List.foldl_nil]
theorem percent_l0 (way at' : Int) (l : List S43) (hl : (l.length : Int) ≤ 10000) (m : Nat) : ∀ (i : Int), 0 ≤ i → i ≤ (l.length : Int) → (l.length : Int) - i = m →
    Ev (fun k => traffic_percent.l0 k l way at' (l.length : Int) i) (pct way at' (l.take m)) := by
  induction m with
  | zero =>
    intro i h0 h1 hn
    refine Ev_round (fun k => by rw [traffic_percent.l0]) (Ev_neg (by omega) ?_)
    rw [List.take_zero]
    exact Ev.now _
  | succ m ih =>
    intro i h0 h1 hn
    have e : wrap64 (wrap64 ((l.length : Int) - 1) - i) = (m : Int) := by
      rw [wrap_in (x := (l.length : Int) - 1) ⟨by omega, by omega⟩, wrap_in ⟨by omega, by omega⟩]
      omega
    have t : l.take (m + 1) = l.take m ++ [rd_T43 l m] := take_at (i := (m : Int)) z43 (by omega) (by omega)
    refine Ev_round (fun k => by rw [traffic_percent.l0, e, wrap_in (x := i + 1) ⟨by omega, by omega⟩]) (Ev_pos (by omega) (Ev_pos (by omega) (Ev_pos (by omega) ?_)))
    rw [t, pct_snoc]
    have next := ih (i + 1) (by omega) (by omega) (by omega)
    unfold hit
    by_cases c0 : (rd_T43 l m).f0 = way
    · refine Ev_pos c0 ?_
      by_cases c1 : (rd_T43 l m).f2 ≤ at'
      · refine Ev_pos c1 ?_
        by_cases c2 : at' < (rd_T43 l m).f3
        · rw [if_pos (decide_eq_true ⟨c0, c1, c2⟩)]
          exact Ev_pos c2 (Ev.now _)
        · rw [if_neg (by rw [decide_eq_true_eq]; exact fun h => c2 h.2.2)]
          exact Ev_neg c2 next
      · rw [if_neg (by rw [decide_eq_true_eq]; exact fun h => c1 h.2.1)]
        exact Ev_neg c1 next
    · rw [if_neg (by rw [decide_eq_true_eq]; exact fun h => c0 h.1)]
      exact Ev_neg c0 next
theorem percent_ev (way at' : Int) (l : List S43) (hl : (l.length : Int) ≤ 10000) : Ev (fun k => traffic_percent.f k l way at') (pct way at' l) := by
  refine Ev.congr (fun k => by rw [traffic_percent.f]) ?_
  have := percent_l0 way at' l hl l.length 0 (by omega) (by omega) (by omega)
  rwa [List.take_length] at this
theorem repl_mem : ∀ {l : List S43}, repl l = 0 → ∀ x ∈ l, rep1 x = 0
  | [], _, _, hx => by cases hx
  | y :: ys, h, x, hx => by
    rw [repl] at h
    split at h
    · rename_i hy
      rcases List.mem_cons.1 hx with e | e
      · rw [e]
        exact hy
      · exact repl_mem h x e
    · omega
theorem rep1_bd {x : S43} (h : rep1 x = 0) : 0 ≤ x.f1 ∧ x.f1 ≤ 1000 := by
  unfold rep1 at h
  split at h
  · omega
  · omega
theorem pct_bd {way at' : Int} : ∀ {l : List S43} {a : Int}, (∀ x ∈ l, rep1 x = 0) → 0 ≤ a ∧ a ≤ 1000 → 0 ≤ l.foldl (fun a x => if hit way at' x = true then x.f1 else a) a ∧ l.foldl (fun a x => if hit way at' x = true then x.f1 else a) a ≤ 1000
  | [], a, _, ha => ha
  | x :: xs, a, h, ha => by
    rw [List.foldl_cons]
    refine pct_bd (fun y hy => h y (List.mem_cons_of_mem _ hy)) ?_
    split
    · exact rep1_bd (h x List.mem_cons_self)
    · exact ha
theorem pcl_mem {n : Int} : ∀ {R : List S48}, pcl n R = 0 → ∀ x ∈ R, pc1 n x = 0
  | [], _, _, hx => by cases hx
  | y :: ys, h, x, hx => by
    rw [pcl] at h
    split at h
    · rename_i hy
      rcases List.mem_cons.1 hx with e | e
      · rw [e]
        exact hy
      · exact pcl_mem h x e
    · omega
theorem bas_bd {n : Int} {x : S48} (h : pc1 n x = 0) : 0 ≤ bas x ∧ bas x ≤ 671088640 := by
  unfold pc1 at h
  split at h
  · omega
  · have s := spd_bd x.f4
    have p0 : 0 ≤ x.f3 * spd x.f4 := Int.mul_nonneg (by omega) s.1
    have p1 : x.f3 * spd x.f4 ≤ 67108864 * 10 := Int.mul_le_mul (by omega) s.2 s.1 (by omega)
    unfold bas
    rw [wrap_in ⟨by omega, by omega⟩]
    omega
/-- The weight of a piece at a percentage. -/
def wgt (b n : Int) : Int := if n = 0 then -1 else min (b * n / 100) 1073741824
theorem wgt_100 {b : Int} (h0 : 0 ≤ b) (h1 : b ≤ 671088640) : wgt b 100 = b := by
  unfold wgt
  rw [if_neg (by decide)]
  omega
theorem mul_bd {b n : Int} (b0 : 0 ≤ b ∧ b ≤ 671088640) (n0 : 0 ≤ n ∧ n ≤ 1000) : 0 ≤ b * n ∧ b * n ≤ 671088640000 := by
  have p1 : b * n ≤ 671088640 * 1000 := Int.mul_le_mul b0.2 n0.2 n0.1 (by omega)
  exact ⟨Int.mul_nonneg b0.1 n0.1, by omega⟩
theorem muldiv_ev {b n : Int} (b0 : 0 ≤ b ∧ b ≤ 671088640) (n0 : 0 ≤ n ∧ n ≤ 1000) : Ev (fun k => num_MulDiv.f k b n 100) (b * n / 100, true) := by
  have m := mul_bd b0 n0
  have hb : IsI b := ⟨by omega, by omega⟩
  have hn : IsI n := ⟨by omega, by omega⟩
  refine Ev_eq ?_ (MulDiv_ev hb hn ⟨by omega, by omega⟩)
  rw [mdv_eq hb hn (by omega), if_pos ⟨by omega, by omega⟩]
theorem rd_mid (A B : List Int) (b : Int) {i : Int} (h0 : 0 ≤ i) (h : (A.length : Int) = i) : rd (A ++ b :: B) i = b := by
  unfold rd
  rw [show i.toNat = A.length by omega, List.getD_eq_getElem?_getD, List.getElem?_append_right (Nat.le_refl _), Nat.sub_self]
  rfl
theorem set_mid (A B : List Int) (b v : Int) {i : Int} (h0 : 0 ≤ i) (h : (A.length : Int) = i) : (A ++ b :: B).set i.toNat v = A ++ v :: B := by
  rw [show i.toNat = A.length by omega, List.set_append_right _ _ (Nat.le_refl _), Nat.sub_self]
  rfl
/-- The weights. -/
def wts (at' : Int) (l : List S43) (R : List S48) : List Int := R.map fun x => wgt (bas x) (pct x.f2 at' l)
theorem weights_l0 (at' : Int) (l : List S43) (R : List S48) (hl : (l.length : Int) ≤ 10000) (hR : (R.length : Int) ≤ 40) (hg : ∀ x ∈ l, rep1 x = 0) (hb : ∀ x ∈ R, 0 ≤ bas x ∧ bas x ≤ 671088640) (m : Nat) : ∀ (i : Int), 0 ≤ i → i ≤ (R.length : Int) → (R.length : Int) - i = m →
    Ev (fun k => traffic_Weights.l0 k l at' (wts at' l (R.take i.toNat) ++ (R.drop i.toNat).map bas) R (R.length : Int) i) (wts at' l R, 0) := by
  induction m with
  | zero =>
    intro i h0 h1 hn
    refine Ev_round (fun k => by rw [traffic_Weights.l0]) (Ev_neg (by omega) ?_)
    rw [drop_end (by omega), List.map_nil, List.append_nil, List.take_of_length_le (by omega)]
    exact Ev.now _
  | succ m ih =>
    intro i h0 h1 hn
    have hi : i < (R.length : Int) := by omega
    have hlen : ((wts at' l (R.take i.toNat)).length : Int) = i := by
      unfold wts
      rw [List.length_map, List.length_take]
      omega
    have e0 := rd_mid (wts at' l (R.take i.toNat)) ((R.drop (i + 1).toNat).map bas) (bas (rd_T48 R i)) h0 hlen
    have e1 := fun v => set_mid (wts at' l (R.take i.toNat)) ((R.drop (i + 1).toNat).map bas) (bas (rd_T48 R i)) v h0 hlen
    have hlen2 : (((wts at' l (R.take i.toNat)) ++ (bas (rd_T48 R i) :: (R.drop (i + 1).toNat).map bas)).length : Int) > i := by
      rw [List.length_append, List.length_cons]
      omega
    have step : wts at' l (R.take i.toNat) ++ wgt (bas (rd_T48 R i)) (pct (rd_T48 R i).f2 at' l) :: (R.drop (i + 1).toNat).map bas = wts at' l (R.take (i + 1).toNat) ++ (R.drop (i + 1).toNat).map bas := by
      rw [show R.take (i + 1).toNat = R.take i.toNat ++ [rd_T48 R i] from take_at z48 h0 hi]
      unfold wts
      rw [List.map_append, List.append_assoc]
      rfl
    have next := ih (i + 1) (by omega) (by omega) (by omega)
    rw [← step] at next
    rw [show R.drop i.toNat = rd_T48 R i :: R.drop (i + 1).toNat from drop_at z48 h0 hi, List.map_cons]
    have b0 : 0 ≤ bas (rd_T48 R i) ∧ bas (rd_T48 R i) ≤ 671088640 := hb _ (getD_mem z48 h0 hi)
    have n0 := pct_bd (way := (rd_T48 R i).f2) (at' := at') (a := 100) hg (by omega)
    refine Ev_round (fun k => by rw [traffic_Weights.l0, e0, e1, e1, wrap_in (x := i + 1) ⟨by omega, by omega⟩]) ?_
    refine Ev_pos hi (Ev_pos h0 (Ev_pos hi (Ev.bind (percent_ev _ at' l hl) ?_)))
    by_cases c : pct (rd_T48 R i).f2 at' l = 0
    · refine Ev_pos c (Ev_pos (by omega) ?_)
      rw [wgt, if_pos c] at next
      exact next
    · refine Ev_neg c (Ev_pos (by omega) (Ev.bind (muldiv_ev b0 n0) (Ev_pos rfl ?_)))
      rw [wgt, if_neg c, ← mn_eq] at next
      rw [e1]
      exact next
/-- Weights. -/
def Wt (N : List Int) (P : List S64) (R : List S48) (l : List S43) (at' : Int) : List Int × Int :=
  if rdk N P R = 0 then (if rck l = 0 then (if at' < 0 ∨ 1073741824 < at' then ([], 19) else (wts at' l R, 0)) else ([], rck l)) else ([], 1)
theorem rck_zero {l : List S43} (h : rck l = 0) : (l.length : Int) ≤ 10000 ∧ ∀ x ∈ l, rep1 x = 0 := by
  unfold rck at h
  split at h
  · omega
  · exact ⟨by omega, repl_mem h⟩
theorem rdk_zero {N : List Int} {P : List S64} {R : List S48} (h : rdk N P R = 0) : ∀ x ∈ R, 0 ≤ bas x ∧ bas x ≤ 671088640 := by
  unfold rdk at h
  split at h
  · split at h
    · exact fun x hx => bas_bd (pcl_mem h x hx)
    · omega
  · omega
theorem weights_ev (N : List Int) (P : List S64) (R : List S48) (l : List S43) (at' : Int) (hN : (N.length : Int) ≤ 9223372036854775807) (hR : Fits R) (h40 : (R.length : Int) ≤ 40) (hl : (l.length : Int) ≤ 9223372036854775807) :
    Ev (fun k => traffic_Weights.f k N P R l at') (Wt N P R l at') := by
  refine Ev.congr (fun k => by rw [traffic_Weights.f]) (Ev.bind (road_ev N P R hN hR) ?_)
  unfold Wt
  by_cases c0 : rdk N P R = 0
  · rw [if_pos c0]
    refine Ev_pos c0 (Ev.bind (tck_ev l hl) ?_)
    by_cases c1 : rck l = 0
    · rw [if_pos c1]
      refine Ev_pos c1 ?_
      by_cases c2 : at' < 0
      · rw [if_pos (Or.inl c2)]
        refine Ev_pos c2 (Ev_round (fun k => by rw [traffic_Weights.j0]) ?_)
        exact Ev_pos rfl (Ev.now _)
      · refine Ev_neg c2 (Ev_round (fun k => by rw [traffic_Weights.j0]) ?_)
        by_cases c3 : at' > 1073741824
        · rw [if_pos (Or.inr c3)]
          exact Ev_pos (decide_eq_true c3) (Ev.now _)
        · rw [if_neg (by omega)]
          refine Ev_neg (by rw [decide_eq_true_eq]; exact c3) (Ev.bind (base_ev N P R h40) ?_)
          refine Ev_pos (by rw [List.length_map]; simp; omega) ?_
          obtain ⟨h1, h2⟩ := rck_zero c1
          have := weights_l0 at' l R h1 h40 h2 (rdk_zero c0) R.length 0 (by omega) (by omega) (by omega)
          simpa [wts] using this
    · rw [if_neg c1]
      exact Ev_neg c1 (Ev.now _)
  · rw [if_neg c0]
    exact Ev_neg c0 (Ev.now _)

theorem ints_l0 (a : List Int) (ha : (a.length : Int) ≤ 10000) (n : Nat) : ∀ (i : Int), 0 ≤ i → (a.length : Int) - i = n → Ev (fun k => mapmakerlaw48_ints.l0 k a a i) true := by
  induction n with
  | zero =>
    intro i h0 hn
    refine Ev_round (fun k => by rw [mapmakerlaw48_ints.l0]) (Ev_neg (by omega) ?_)
    exact Ev.now _
  | succ n ih =>
    intro i h0 hn
    refine Ev_round (fun k => by rw [mapmakerlaw48_ints.l0, wrap_in (x := i + 1) ⟨by omega, by omega⟩]) ?_
    exact Ev_pos (by omega) (Ev_pos h0 (Ev_pos (by omega) (Ev_pos rfl (ih (i + 1) (by omega) (by omega)))))
theorem ints_ev (a : List Int) (ha : (a.length : Int) ≤ 10000) : Ev (fun k => mapmakerlaw48_ints.f k a a) true :=
  Ev.congr (fun k => by rw [mapmakerlaw48_ints.f]) (Ev_pos rfl (ints_l0 a ha a.length 0 (by omega) (by omega)))
theorem Wt_length (N : List Int) (P : List S64) (R : List S48) (l : List S43) (at' : Int) (h40 : (R.length : Int) ≤ 40) : ((Wt N P R l at').1.length : Int) ≤ 40 := by
  unfold Wt
  repeat' split
  all_goals first | (simp; done) | (simp [wts]; omega)

/-- The law's bound on networks. -/
theorem few_l0 (N : List Int) (P : List S64) (R : List S48) (hR : (R.length : Int) ≤ 40) (n : Nat) : ∀ (i : Int), 0 ≤ i → (R.length : Int) - i = n → ∃ b, Ev (fun k => mapmakerlaw48_few.l0 k i N P R) b := by
  induction n with
  | zero =>
    intro i h0 hn
    refine ⟨true, Ev_round (fun k => by rw [mapmakerlaw48_few.l0]) (Ev_neg (by omega) ?_)⟩
    exact Ev.now _
  | succ n ih =>
    intro i h0 hn
    obtain ⟨b, hb⟩ := ih (i + 1) (by omega) (by omega)
    by_cases c : ((rd_T48 R i).f5.f0.length : Int) > 20
    · refine ⟨false, Ev_round (fun k => by rw [mapmakerlaw48_few.l0]) (Ev_pos (by omega) (Ev_pos h0 (Ev_pos c ?_)))⟩
      exact Ev.now _
    · exact ⟨b, Ev_round (fun k => by rw [mapmakerlaw48_few.l0, wrap_in (x := i + 1) ⟨by omega, by omega⟩]) (Ev_pos (by omega) (Ev_pos h0 (Ev_neg c hb)))⟩
theorem few_ev (N : List Int) (P : List S64) (R : List S48) : ∃ b, Ev (fun k => mapmakerlaw48_few.f k N P R) b ∧ (b = true → (R.length : Int) ≤ 40) := by
  have out : Ev (fun k => mapmakerlaw48_few.j0 k true N P R) false := by
    refine Ev_round (fun k => by rw [mapmakerlaw48_few.j0]) ?_
    exact Ev_pos rfl (Ev.now _)
  by_cases c0 : (N.length : Int) > 20
  · exact ⟨false, Ev.congr (fun k => by rw [mapmakerlaw48_few.f]) (Ev_pos c0 out), fun h => by cases h⟩
  by_cases c1 : (P.length : Int) > 20
  · exact ⟨false, Ev.congr (fun k => by rw [mapmakerlaw48_few.f]) (Ev_neg c0 (Ev_pos c1 out)), fun h => by cases h⟩
  by_cases c2 : (R.length : Int) > 40
  · exact ⟨false, Ev.congr (fun k => by rw [mapmakerlaw48_few.f, decide_eq_true c2]) (Ev_neg c0 (Ev_neg c1 out)), fun h => by cases h⟩
  · obtain ⟨b, hb⟩ := few_l0 N P R (by omega) R.length 0 (by omega) (by omega)
    refine ⟨b, Ev.congr (fun k => by rw [mapmakerlaw48_few.f, decide_eq_false c2]) (Ev_neg c0 (Ev_neg c1 ?_)), fun _ => by omega⟩
    refine Ev_round (fun k => by rw [mapmakerlaw48_few.j0]) ?_
    exact Ev_neg (by decide) hb
theorem Wt_full {N : List Int} {P : List S64} {R : List S48} {l : List S43} {at' : Int} (h : (Wt N P R l at').2 = 0) : Wt N P R l at' = (wts at' l R, 0) ∧ rdk N P R = 0 ∧ rck l = 0 ∧ ¬ (at' < 0 ∨ 1073741824 < at') := by
  unfold Wt at h ⊢
  by_cases c0 : rdk N P R = 0
  · rw [if_pos c0] at h ⊢
    by_cases c1 : rck l = 0
    · rw [if_pos c1] at h ⊢
      by_cases c2 : at' < 0 ∨ 1073741824 < at'
      · rw [if_pos c2] at h
        simp at h
      · rw [if_neg c2]
        exact ⟨rfl, c0, c1, c2⟩
    · rw [if_neg c1] at h
      exact absurd h c1
  · rw [if_neg c0] at h
    simp at h
theorem wts_length (at' : Int) (l : List S43) (R : List S48) : (wts at' l R).length = R.length := by
  unfold wts
  rw [List.length_map]
end Go.Proofs.Ytpjeomjingocbaa.Tr
