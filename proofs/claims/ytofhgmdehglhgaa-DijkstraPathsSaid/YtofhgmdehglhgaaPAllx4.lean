-- Written by a program of this session (wip/tools), over the words that print.sh lays. (slim)
import Derived.Test.YtofhgmdehglhgaaPAllx0
import Derived.Test.YtofhgmdehglhgaaPAllx2
namespace Go.Proofs.Ytofhgmdehglhgaa.PAll
open Go.RowKit Go.Proofs.YtofhgmdehglhgaaW.PrintWords Go.Proofs.YtofhgmdehglhgaaW.PrintLast Go.Proofs.YtofhgmdehglhgaaW.PrintMore
attribute [local go_sem] max2_int min2_int max_two min_two max_three min_three max_four min_four   -- for this text's walks alone
set_option linter.unusedVariables false
set_option linter.unusedSimpArgs false
attribute [local irreducible] Calls

/-! ### dijkstra_Check: function 16 -/
/-- An arc of a graph. -/
def arc_ok (n : Int) (x : S40) : Bool := decide (0 ≤ x.f0 ∧ x.f0 < n ∧ 0 ≤ x.f1 ∧ x.f1 < n)
def gchk (n : Int) (l : List (S40)) : Int := if n < 0 ∨ n > 1048576 ∨ l.length > 4194304 then 5 else if l.all (arc_ok n) then 0 else 2
theorem arc_all {n : Int} {l : List (S40)} (h : ∀ j : Nat, j < l.length → arc_ok n (rd_T40 l j) = true) : l.all (arc_ok n) = true := by
 rw [List.all_eq_true]
 intro x hx
 obtain ⟨j, hj, rfl⟩ := List.mem_iff_getElem.1 hx
 have := h j hj
 unfold rd_T40 at this
 rwa [Int.toNat_natCast, List.getD_eq_getElem?_getD, List.getElem?_eq_getElem hj] at this
theorem arc_bad {n : Int} {l : List (S40)} {j : Nat} (hj : j < l.length) (h : arc_ok n (rd_T40 l j) = false) : l.all (arc_ok n) = false := by
 rw [Bool.eq_false_iff]
 intro h2
 rw [List.all_eq_true] at h2
 have := h2 l[j] (List.getElem_mem hj)
 unfold rd_T40 at h
 rw [Int.toNat_natCast, List.getD_eq_getElem?_getD, List.getElem?_eq_getElem hj] at h
 rw [show (some l[j]).getD z40 = l[j] from rfl, this] at h
 cases h
theorem graph_Check_l0 (n : Int) (l : List (S40)) (hl : l.length ≤ 4194304) : ∀ (d i : Nat), i + d = l.length → (∀ j : Nat, j < i → arc_ok n (rd_T40 l j) = true) → graph_Check.l0 (d + 1) l (l.length : Int) i n l = some (if l.all (arc_ok n) then 0 else 2)
 | 0, i, h, hp => by
  unfold graph_Check.l0
  rw [if_neg (by omega), if_pos (arc_all (fun j hj => hp j (by omega)))]
 | d + 1, i, h, hp => by
  have hw : wrap64 ((i : Int) + 1) = ((i + 1 : Nat) : Int) := by unfold wrap64; omega
  have bad : ∀ (c : ¬ (0 ≤ (rd_T40 l i).f0 ∧ (rd_T40 l i).f0 < n ∧ 0 ≤ (rd_T40 l i).f1 ∧ (rd_T40 l i).f1 < n)), some (2 : Int) = some (if l.all (arc_ok n) then 0 else 2) := fun c => by
   rw [if_neg (by rw [arc_bad (j := i) (by omega) (decide_eq_false c)]; decide)]
  unfold graph_Check.l0
  rw [if_pos (by omega), if_pos (by omega), if_pos (by omega)]
  by_cases c1 : (rd_T40 l i).f0 < 0
  ·rw [if_pos c1]; exact bad (fun h => by omega)
  ·rw [if_neg c1]
   by_cases c2 : (rd_T40 l i).f0 ≥ n
   ·rw [if_pos c2]; exact bad (fun h => by omega)
   ·rw [if_neg c2]
    by_cases c3 : (rd_T40 l i).f1 < 0
    ·rw [if_pos c3]; exact bad (fun h => by omega)
    ·rw [if_neg c3]
     by_cases c4 : (rd_T40 l i).f1 ≥ n
     ·rw [if_pos c4]; exact bad (fun h => by omega)
     ·rw [if_neg c4, hw]
      refine graph_Check_l0 n l hl d (i + 1) (by omega) (fun j hj => ?_)
      by_cases e : j = i
      ·rw [e]; exact decide_eq_true ⟨by omega, by omega, by omega, by omega⟩
      ·exact hp j (by omega)
theorem graph_Check_ev (n : Int) (l : List (S40)) : ∃ k, graph_Check.f k n l = some (gchk n l) := by
 refine ⟨l.length + 2, ?_⟩
 unfold graph_Check.f gchk
 have big : graph_Check.j0 (l.length + 2) true n l = some 5 := by
  unfold graph_Check.j0
  rfl
 by_cases c1 : n < 0
 ·rw [if_pos c1, if_pos (.inl c1), big]
 ·rw [if_neg c1]
  by_cases c2 : n > 1048576
  ·rw [if_pos c2, if_pos (.inr (.inl c2)), big]
  ·rw [if_neg c2]
   by_cases c3 : l.length > 4194304
   ·rw [if_pos (.inr (.inr c3)), decide_eq_true (by omega), big]
   ·rw [if_neg (by omega), decide_eq_false (by omega)]
    have go : graph_Check.j0 (l.length + 2) false n l = graph_Check.l0 (l.length + 1) l (l.length : Int) 0 n l := by
     unfold graph_Check.j0
     rfl
    rw [go]
    exact graph_Check_l0 n l (by omega) l.length 0 (by omega) (fun j hj => absurd hj (by omega))
theorem graph_Check_walk (n : Int) (A0 : Option Addr) (c0 : Nat) (l0 : List (S40)) (w : World) (hr0 : Kd.C k40 w A0 l0.length l0) (hc0 : l0.length ≤ c0) :
  Calls Try.prog 24 #[.agg #[.int .i64 n, .slice A0 l0.length c0]] w fun e w' => e = .returned (.int .i64 (gchk n l0)) ∧ Below w.heap.size w w' := by
 obtain ⟨k, hk⟩ := graph_Check_ev n l0
 exact graph_Check.calls k n A0 c0 l0 _ w hr0 hc0 hk
/-- A weight. -/
def wt_ok (x : Int) : Bool := decide (-1 ≤ x ∧ x ≤ 1073741824)
set_option maxHeartbeats 8000000 in
set_option maxRecDepth 100000 in
theorem dij_odd (a : Int) (w : World) : Calls Try.prog 25 #[.int .i64 a] w fun e w' => e = .returned (.bool (!wt_ok a)) ∧ Below w.heap.size w w' := by
 have HB := Aside0.mk (Below.refl w.heap.size w)
 by_cases c1 : a < -1
 ·have c1b : decide (a < -1) = true := decide_eq_true c1
  have HV := Aside0.mk (show wt_ok a = false from decide_eq_false (by omega))
  clear c1
  go_enter Try.func25, Try.ntmps25
  go_wp2
  go_ret
  exact ⟨by rw [HV.out]; rfl, HB.out⟩
 ·have c1b : decide (a < -1) = false := decide_eq_false c1
  by_cases c2 : a > 1073741824
  ·have c2b : decide (a > 1073741824) = true := decide_eq_true c2
   have HV := Aside0.mk (show wt_ok a = false from decide_eq_false (by omega))
   clear c1 c2
   go_enter Try.func25, Try.ntmps25
   go_wp2
   go_ret
   exact ⟨by rw [HV.out]; rfl, HB.out⟩
  ·have c2b : decide (a > 1073741824) = false := decide_eq_false c2
   have HV := Aside0.mk (show wt_ok a = true from decide_eq_true (by omega))
   clear c1 c2
   go_enter Try.func25, Try.ntmps25
   go_wp2
   go_ret
   exact ⟨by rw [HV.out]; rfl, HB.out⟩
def WIdx (w : World) (l : List Int) (e : Ending) (w' : World) : Prop := ∃ r : Int, e = .returned (.int .i64 r) ∧ decide (0 ≤ r) = !l.all wt_ok ∧ Below w.heap.size w w'
theorem wt_all {l : List Int} (h : ∀ j : Nat, j < l.length → wt_ok (rd l j) = true) : l.all wt_ok = true := by
 rw [List.all_eq_true]
 intro x hx
 obtain ⟨j, hj, rfl⟩ := List.mem_iff_getElem.1 hx
 have := h j hj
 unfold rd at this
 rwa [Int.toNat_natCast, List.getD_eq_getElem?_getD, List.getElem?_eq_getElem hj] at this
theorem wt_bad {l : List Int} {j : Nat} (hj : j < l.length) (h : wt_ok (rd l j) = false) : l.all wt_ok = false := by
 rw [Bool.eq_false_iff]
 intro h2
 rw [List.all_eq_true] at h2
 have := h2 l[j] (List.getElem_mem hj)
 unfold rd at h
 rw [Int.toNat_natCast, List.getD_eq_getElem?_getD, List.getElem?_eq_getElem hj] at h
 rw [show (some l[j]).getD 0 = l[j] from rfl, this] at h
 cases h
set_option maxHeartbeats 8000000 in
set_option maxRecDepth 100000 in
theorem dij_index (A0 : Option Addr) (c0 : Nat) (l0 : List Int) (w : World) (hr0 : Kd.C (Kd.int .i64) w A0 l0.length l0) (hlen : l0.length ≤ 4194304) :
  Calls Try.prog 35 #[.slice A0 l0.length c0, .func (.func 25) #[] #[]] w (WIdx w l0) := by
 have HR := Aside0.mk hr0
 have HLen := Aside0.mk hlen
 clear hr0 hlen
 have HB0 := Aside0.mk (Below.refl w.heap.size w)
 go_enter Try.func35, Try.ntmps35
 go_wp2
 go_loopg [8] l0.length (fun g vi wr => ∃ k : Nat, vi = .int .i64 (k : Int) ∧ k + g = l0.length ∧ (∀ j : Nat, j < k → wt_ok (rd l0 j) = true) ∧ Below w.heap.size w wr)
 case atStart => exact ⟨0, rfl, by omega, fun j hj => absurd hj (by omega), HB0.out⟩
 case round =>
  clear HB0
  obtain ⟨k, rfl, hkg, hok, hbel⟩ := hrel
  have HB := Aside0.mk hbel
  have HOk := Aside0.mk hok
  clear hbel hok
  by_cases c : k < l0.length
  ·have ik0 : (0 : Int) ≤ (k : Int) := Int.natCast_nonneg _
   have ik1 : (k : Int) < (l0.length : Int) := by omega
   obtain ⟨ad, e, hx0⟩ := Kd.at_int (Kd.C_below HR.out HB.out) k ik0 ik1
   subst e
   simp only [Int.toNat_natCast] at hx0
   have HV := Aside0.mk (fun w2 => dij_odd (rd l0 k) w2)
   cases hv : wt_ok (rd l0 k) with
   | true =>
    rw [hv] at HV
    have HVV := Aside0.mk hv
    clear hv
    go_wp2_with (first
     | (go_at_call 25; refine (HV.out _).mono ?_; rintro e w2 ⟨rfl, hb⟩; have HB2 := Aside0.mk (below_step HB.out hb); clear hb))
    go_roundg (l0.length - (k + 1))
    case measure => omega
    case rel => exact ⟨k + 1, by have := HLen.out; congr 1; unfold wrap64; omega, by omega, fun j hj => (by
     by_cases e : j = k
     ·rw [e]; exact HVV.out
     ·exact HOk.out j (by omega)), HB2.out⟩
   | false =>
    rw [hv] at HV
    have HVV := Aside0.mk (wt_bad c hv)
    clear hv
    go_wp2_with (first
     | (go_at_call 25; refine (HV.out _).mono ?_; rintro e w2 ⟨rfl, hb⟩; have HB2 := Aside0.mk (below_step HB.out hb); clear hb))
    go_ret
    exact ⟨_, rfl, by rw [HVV.out]; simp, HB2.out⟩
  ·have c' : decide ((k : Int) < (l0.length : Int)) = false := decide_eq_false (by omega)
   have HA := Aside0.mk (wt_all (l := l0) (by have h := HOk.out; rw [show k = l0.length by omega] at h; exact h))
   go_wp2
   go_ret
   exact ⟨_, rfl, by rw [HA.out]; rfl, HB.out⟩
set_option maxHeartbeats 8000000 in
set_option maxRecDepth 100000 in
theorem dij_contains (A0 : Option Addr) (c0 : Nat) (l0 : List Int) (w : World) (hr0 : Kd.C (Kd.int .i64) w A0 l0.length l0) (hlen : l0.length ≤ 4194304) :
  Calls Try.prog 26 #[.slice A0 l0.length c0, .func (.func 25) #[] #[]] w fun e w' => e = .returned (.bool (!l0.all wt_ok)) ∧ Below w.heap.size w w' := by
 have HI := Aside0.mk (dij_index A0 c0 l0 w hr0 hlen)
 clear hr0 hlen
 generalize hv : (!l0.all wt_ok) = v
 have HV := Aside0.mk hv
 clear hv
 go_enter Try.func26, Try.ntmps26
 go_wp2_with (first
  | (go_at_call 35; refine (HI.out).mono ?_; rintro e w2 ⟨r, rfl, hd, hb⟩; rw [HV.out] at hd; have HB2 := Aside0.mk hb; clear hb))
 go_ret
 exact ⟨by first | rfl | (simp [hd]; done) | (simp [*]; done), HB2.out⟩
def dchk (n : Int) (l : List (S40)) (x : List Int) : Int := if gchk n l = 0 then (if x.length = l.length then (if x.all wt_ok then 0 else 17) else 17) else gchk n l
def dijkstra_Check.f (a0_0 : Int) (l0_1 : List (S40)) (l1 : List Int) : Option (Int) := some (dchk a0_0 l0_1 l1)
set_option maxHeartbeats 8000000 in
set_option maxRecDepth 100000 in
theorem dijkstra_Check.calls (a0_0 : Int) (A0_1 : Option Addr) (c0_1 : Nat) (l0_1 : List (S40)) (A1 : Option Addr) (c1 : Nat) (l1 : List Int) (r : Int) (w : World) (hr0_1 : Kd.C k40 w A0_1 l0_1.length l0_1) (hc0_1 : l0_1.length ≤ c0_1) (hr1 : Kd.C (Kd.int .i64) w A1 l1.length l1) (hc1 : l1.length ≤ c1) (h : dijkstra_Check.f a0_0 l0_1 l1 = some r) :
  Calls Try.prog 16 #[.agg #[.int .i64 a0_0, .slice A0_1 l0_1.length c0_1], .slice A1 l1.length c1] w fun e w' => e = .returned (.int .i64 r) ∧ Below w.heap.size w w' := by
 obtain rfl := Option.some.inj h
 clear h
 have hu24 := Try.underlying24
 have HR := Aside0.mk hr0_1
 have HR1 := Aside0.mk hr1
 have HC := Aside0.mk hc0_1
 have HB0 := Aside0.mk (Below.refl w.heap.size w)
 have HG := Aside0.mk (show gchk a0_0 l0_1 = 0 → l0_1.length ≤ 4194304 from fun h => by
  unfold gchk at h
  split at h
  ·cases h
  ·omega)
 obtain ⟨e, he⟩ : ∃ e, e = gchk a0_0 l0_1 := ⟨_, rfl⟩
 obtain ⟨r, hr⟩ : ∃ r, r = dchk a0_0 l0_1 l1 := ⟨_, rfl⟩
 have HE := Aside0.mk he
 have HD := Aside0.mk (show r = if e = 0 then (if l1.length = l0_1.length then (if l1.all wt_ok then 0 else 17) else 17) else e from by rw [hr, he]; rfl)
 rw [← hr]
 rw [← he] at HG
 clear he hr hr0_1 hc0_1 hr1 hc1
 by_cases c1' : e = 0
 ·have d1 : (e != 0) = false := bne_eq_false_iff_eq.mpr c1'
  have HG2 := Aside0.mk (HG.out c1')
  by_cases c2 : l1.length = l0_1.length
  ·have d2 : ((l1.length : Int) != (l0_1.length : Int)) = false := bne_eq_false_iff_eq.mpr (by omega)
   have HK := Aside0.mk (fun w2 (hb : Below w.heap.size w w2) => dij_contains A1 c1 l1 w2 (Kd.C_below HR1.out hb) (by have := HG2.out; omega))
   cases hv : l1.all wt_ok with
   | true =>
    rw [hv] at HK
    have HF := Aside0.mk (show r = 0 from by rw [HD.out, if_pos c1', if_pos c2, if_pos hv])
    clear hv c1' c2 HD HG
    go_enter Try.func16, Try.ntmps16
    go_wp2_with (first
     | ((with_reducible refine gate_dst (N := 2) rfl ?_); refine box_event ?hg (N := 2) ?hd (cs := #[.int .i64 a0_0, .slice A0_1 l0_1.length c0_1]) (t := 24) ?hr ?_; (case hd => rfl); (case hg => rfl); (case hr => first | (go_simp; done) | (go_simp; rfl)); intro g2 hg w1 hbox hb; have HB := Aside0.mk hb; have HBX := Aside0.mk hbox; have HGS := Aside0.mk (show w.heap.size ≤ g2 by omega); have q0 : w1.cell? ⟨g2, 0, none⟩ = some (.int .i64 a0_0) := (blk_cell hbox 0).trans rfl; have q1 : w1.cell? ⟨g2, 1, none⟩ = some (.slice A0_1 l0_1.length c0_1) := (blk_cell hbox 1).trans rfl; clear hb hbox hg)
     | (go_at_call 24; refine (graph_Check_walk a0_0 A0_1 c0_1 l0_1 _ (Kd.C_below HR.out HB.out) HC.out).mono ?_; rw [← HE.out]; rintro e' w2 ⟨rfl, hb⟩; have HB2 := Aside0.mk (below_step HB.out hb); have HBX2 := Aside0.mk (blk_below HBX.out hb); clear hb q0 q1 HBX; have q0 : w2.cell? ⟨g2, 0, none⟩ = some (.int .i64 a0_0) := (blk_cell HBX2.out 0).trans rfl; have q1 : w2.cell? ⟨g2, 1, none⟩ = some (.slice A0_1 l0_1.length c0_1) := (blk_cell HBX2.out 1).trans rfl)
     | (go_at_call 26; refine (HK.out _ HB2.out).mono ?_; rintro e' w3 ⟨rfl, hb⟩; have HB3 := Aside0.mk (below_step HB2.out hb); clear hb))
    go_ret
    exact ⟨by rw [HF.out]; rfl, HB3.out⟩
   | false =>
    rw [hv] at HK
    have HF := Aside0.mk (show r = 17 from by rw [HD.out, if_pos c1', if_pos c2, if_neg (by rw [hv]; decide)])
    clear hv c1' c2 HD HG
    go_enter Try.func16, Try.ntmps16
    go_wp2_with (first
     | ((with_reducible refine gate_dst (N := 2) rfl ?_); refine box_event ?hg (N := 2) ?hd (cs := #[.int .i64 a0_0, .slice A0_1 l0_1.length c0_1]) (t := 24) ?hr ?_; (case hd => rfl); (case hg => rfl); (case hr => first | (go_simp; done) | (go_simp; rfl)); intro g2 hg w1 hbox hb; have HB := Aside0.mk hb; have HBX := Aside0.mk hbox; have HGS := Aside0.mk (show w.heap.size ≤ g2 by omega); have q0 : w1.cell? ⟨g2, 0, none⟩ = some (.int .i64 a0_0) := (blk_cell hbox 0).trans rfl; have q1 : w1.cell? ⟨g2, 1, none⟩ = some (.slice A0_1 l0_1.length c0_1) := (blk_cell hbox 1).trans rfl; clear hb hbox hg)
     | (go_at_call 24; refine (graph_Check_walk a0_0 A0_1 c0_1 l0_1 _ (Kd.C_below HR.out HB.out) HC.out).mono ?_; rw [← HE.out]; rintro e' w2 ⟨rfl, hb⟩; have HB2 := Aside0.mk (below_step HB.out hb); have HBX2 := Aside0.mk (blk_below HBX.out hb); clear hb q0 q1 HBX; have q0 : w2.cell? ⟨g2, 0, none⟩ = some (.int .i64 a0_0) := (blk_cell HBX2.out 0).trans rfl; have q1 : w2.cell? ⟨g2, 1, none⟩ = some (.slice A0_1 l0_1.length c0_1) := (blk_cell HBX2.out 1).trans rfl)
     | (go_at_call 26; refine (HK.out _ HB2.out).mono ?_; rintro e' w3 ⟨rfl, hb⟩; have HB3 := Aside0.mk (below_step HB2.out hb); clear hb))
    go_ret
    exact ⟨by rw [HF.out]; rfl, HB3.out⟩
  ·have d2 : ((l1.length : Int) != (l0_1.length : Int)) = true := bne_iff_ne.mpr (by omega)
   have HF := Aside0.mk (show r = 17 from by rw [HD.out, if_pos c1', if_neg c2])
   clear c1' c2 HD HG
   go_enter Try.func16, Try.ntmps16
   go_wp2_with (first
    | ((with_reducible refine gate_dst (N := 2) rfl ?_); refine box_event ?hg (N := 2) ?hd (cs := #[.int .i64 a0_0, .slice A0_1 l0_1.length c0_1]) (t := 24) ?hr ?_; (case hd => rfl); (case hg => rfl); (case hr => first | (go_simp; done) | (go_simp; rfl)); intro g2 hg w1 hbox hb; have HB := Aside0.mk hb; have HBX := Aside0.mk hbox; have HGS := Aside0.mk (show w.heap.size ≤ g2 by omega); have q0 : w1.cell? ⟨g2, 0, none⟩ = some (.int .i64 a0_0) := (blk_cell hbox 0).trans rfl; have q1 : w1.cell? ⟨g2, 1, none⟩ = some (.slice A0_1 l0_1.length c0_1) := (blk_cell hbox 1).trans rfl; clear hb hbox hg)
    | (go_at_call 24; refine (graph_Check_walk a0_0 A0_1 c0_1 l0_1 _ (Kd.C_below HR.out HB.out) HC.out).mono ?_; rw [← HE.out]; rintro e' w2 ⟨rfl, hb⟩; have HB2 := Aside0.mk (below_step HB.out hb); have HBX2 := Aside0.mk (blk_below HBX.out hb); clear hb q0 q1 HBX; have q0 : w2.cell? ⟨g2, 0, none⟩ = some (.int .i64 a0_0) := (blk_cell HBX2.out 0).trans rfl; have q1 : w2.cell? ⟨g2, 1, none⟩ = some (.slice A0_1 l0_1.length c0_1) := (blk_cell HBX2.out 1).trans rfl))
   go_ret
   exact ⟨by rw [HF.out]; rfl, HB2.out⟩
 ·have d1 : (e != 0) = true := bne_iff_ne.mpr c1'
  have HF := Aside0.mk (show r = e from by rw [HD.out, if_neg c1'])
  clear c1' HD HG
  go_enter Try.func16, Try.ntmps16
  go_wp2_with (first
   | ((with_reducible refine gate_dst (N := 2) rfl ?_); refine box_event ?hg (N := 2) ?hd (cs := #[.int .i64 a0_0, .slice A0_1 l0_1.length c0_1]) (t := 24) ?hr ?_; (case hd => rfl); (case hg => rfl); (case hr => first | (go_simp; done) | (go_simp; rfl)); intro g2 hg w1 hbox hb; have HB := Aside0.mk hb; have HBX := Aside0.mk hbox; have HGS := Aside0.mk (show w.heap.size ≤ g2 by omega); have q0 : w1.cell? ⟨g2, 0, none⟩ = some (.int .i64 a0_0) := (blk_cell hbox 0).trans rfl; have q1 : w1.cell? ⟨g2, 1, none⟩ = some (.slice A0_1 l0_1.length c0_1) := (blk_cell hbox 1).trans rfl; clear hb hbox hg)
   | (go_at_call 24; refine (graph_Check_walk a0_0 A0_1 c0_1 l0_1 _ (Kd.C_below HR.out HB.out) HC.out).mono ?_; rw [← HE.out]; rintro e' w2 ⟨rfl, hb⟩; have HB2 := Aside0.mk (below_step HB.out hb); have HBX2 := Aside0.mk (blk_below HBX.out hb); clear hb q0 q1 HBX; have q0 : w2.cell? ⟨g2, 0, none⟩ = some (.int .i64 a0_0) := (blk_cell HBX2.out 0).trans rfl; have q1 : w2.cell? ⟨g2, 1, none⟩ = some (.slice A0_1 l0_1.length c0_1) := (blk_cell HBX2.out 1).trans rfl))
  go_ret
  exact ⟨by rw [HF.out]; rfl, HB2.out⟩

end Go.Proofs.Ytofhgmdehglhgaa.PAll
