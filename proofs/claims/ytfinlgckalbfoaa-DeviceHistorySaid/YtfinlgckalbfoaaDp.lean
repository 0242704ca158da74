/- Every operation on a device returns what is specified: the walk of DevicePlays. -/
import Derived.Test.YtfinlgckalbfoaaDv2
import Derived.Test.YtfinlgckalbfoaaDi
namespace Go.Proofs.Ytfinlgckalbfoaa.PAll
open Go.RowKit Go.Proofs.YtfinlgckalbfoaaW.PrintWords Go.Proofs.YtfinlgckalbfoaaW.PrintLast Go.Proofs.YtfinlgckalbfoaaW.PrintMore
set_option linter.unusedVariables false
set_option linter.unusedSimpArgs false
attribute [local irreducible] Calls

set_option maxHeartbeats 16000000 in
set_option maxRecDepth 1000000 in
theorem Plays_big (n : Int) (A0 : Option Addr) (c0 : Nat) (l0 : List S28) (w : World) (hc0 : l0.length ≤ c0) (h : 16 < n ∨ 40 < (l0.length : Int)) : Calls Try.prog 4 #[.int .i64 n, .slice A0 l0.length c0] w (LawPost w true) := by
  have HB0 := Aside0.mk (Below.refl w.heap.size w)
  by_cases c1 : n > 16
  · have c1b : decide (n > 16) = true := decide_eq_true c1
    clear h
    go_enter Try.func4, Try.ntmps4
    go_wp2_with (first | (go_at_call 7; refine (lives_after (w := w) HB0.out).mono ?_; rintro e w2 ⟨rfl, hb⟩; have HB := Aside0.mk hb; clear hb))
    go_ret
    exact ⟨by first | rfl | (simp; done), HB.out⟩
  · have c1b : decide (n > 16) = false := decide_eq_false c1
    have c2b : decide ((l0.length : Int) > 40) = true := decide_eq_true (by omega)
    clear h
    go_enter Try.func4, Try.ntmps4
    go_wp2_with (first | (go_at_call 7; refine (lives_after (w := w) HB0.out).mono ?_; rintro e w2 ⟨rfl, hb⟩; have HB := Aside0.mk hb; clear hb))
    go_ret
    exact ⟨by first | rfl | (simp; done), HB.out⟩
theorem mv_one {w : World} {ok : Nat → Prop} {u1 u2 u3 u4 : Value} {m : RM} (h : MV w ok u1 u2 u3 u4 m) : u1.oneCell' = true ∧ u2.oneCell' = true ∧ u3.oneCell' = true ∧ u4.oneCell' = true := by
  obtain ⟨A1, c1, rfl⟩ := Kd.V_slice h.r1
  obtain ⟨A2, c2, rfl⟩ := Kd.V_slice h.r2
  obtain ⟨A3, c3, rfl⟩ := Kd.V_slice h.r3
  obtain ⟨A4, c4, rfl⟩ := Kd.V_slice h.r4
  exact ⟨rfl, rfl, rfl, rfl⟩
/-- A store of a device of the reference whose rows are told by their values. -/
theorem store36' {w : World} {ok : Nat → Prop} {g : Nat} {a b c d e f x1 x2 x3 x4 : Value} {m : RM} {n : Bool} {l : Int} (hg : w.heap[g]? = some (.cells #[a, b, c, d, e, f] 36 (0, 0))) (h : MV w ok x1 x2 x3 x4 m) :
    ∃ w1, (Instr.storeAt 36 (.pointer (some ⟨g, 0, none⟩)) (.agg #[.bool n, x1, x2, x3, x4, .int .i64 l])).run Try.prog w = .ok () w1 ∧ w1.heap[g]? = some (.cells #[.bool n, x1, x2, x3, x4, .int .i64 l] 36 (0, 0)) ∧ w.grownBy w1 (some g) := by
  obtain ⟨h1, h2, h3, h4⟩ := mv_one h
  refine store36 hg ?_
  intro q hq
  simp only [List.mem_cons, List.not_mem_nil, or_false] at hq
  rcases hq with rfl | rfl | rfl | rfl | rfl | rfl
  · rfl
  · exact h1
  · exact h2
  · exact h3
  · exact h4
  · rfl
theorem LDO.mvV {R : Apart} {w0 w : World} {v : Value} {od : Option Dv} {b g : Nat} {u1 u2 u3 u4 : Value} {m : RM} {cs : Array Value} (h : LDO (AndB (AndV R u1 u2 u3 u4 m) b g cs) w0 w v od) : ∃ ok, MV w ok u1 u2 u3 u4 m := by
  cases od with
  | none => exact ⟨_, h.2.1.1.2⟩
  | some d =>
    obtain ⟨PT, h1, h2, h3⟩ := h
    exact ⟨_, h2.1.2⟩
theorem LDO.mvV2 {R : Apart} {w0 w : World} {v : Value} {od : Option Dv} {b g b2 g2 : Nat} {u1 u2 u3 u4 : Value} {m : RM} {cs cs2 : Array Value} (h : LDO (AndB (AndB (AndV R u1 u2 u3 u4 m) b g cs) b2 g2 cs2) w0 w v od) : ∃ ok, MV w ok u1 u2 u3 u4 m := by
  cases od with
  | none => exact ⟨_, h.2.1.1.1.2⟩
  | some d =>
    obtain ⟨PT, h1, h2, h3⟩ := h
    exact ⟨_, h2.1.1.2⟩
theorem LDO.cells2 {R : Apart} {w0 w : World} {v : Value} {od : Option Dv} {b g b2 g2 : Nat} {cs cs2 : Array Value} (h : LDO (AndB (AndB R b g cs) b2 g2 cs2) w0 w v od) : w.heap[g]? = some (.cells cs 36 (0, 0)) := by
  cases od with
  | none => exact h.2.1.1.2.2.2
  | some d =>
    obtain ⟨PT, h1, h2, h3⟩ := h
    exact h2.1.2.2.2
theorem LDO.swap7 {w0 w : World} {v : Value} {od : Option Dv} {g g2 : Nat} {x1 x2 x3 x4 y1 y2 y3 y4 : Value} {m m2 : RM} {cs cs2 : Array Value} (h : LDO (AndB (AndB (AndV (MVR x1 x2 x3 x4 m) y1 y2 y3 y4 m2) w0.heap.size g cs) w0.heap.size g2 cs2) w0 w v od) : LDO (AndB (AndB (AndV (MVR x1 x2 x3 x4 m) y1 y2 y3 y4 m2) w0.heap.size g2 cs2) w0.heap.size g cs) w0 w v od :=
  LDO.swap (stay_andV (stay_mvr _ _ _ _ _) _ _ _ _ _) h
theorem LDO.toNew {w0 w : World} {v : Value} {od : Option Dv} {b g g2 : Nat} {x1 x2 x3 x4 y1 y2 y3 y4 : Value} {m m2 : RM} {cs cs2 : Array Value} (h : LDO (AndB (AndB (AndV (MVR x1 x2 x3 x4 m) y1 y2 y3 y4 m2) b g2 cs2) b g cs) w0 w v od) : LDO (AndB (MVR y1 y2 y3 y4 m2) b g cs) w0 w v od :=
  h.weaken fun w ok h => ⟨MV.mono h.1.1.2 (fun k hk => hk.1), h.2⟩
theorem LDO.toNew1 {w0 w : World} {v : Value} {od : Option Dv} {b g : Nat} {x1 x2 x3 x4 y1 y2 y3 y4 : Value} {m m2 : RM} {cs : Array Value} (h : LDO (AndB (AndV (MVR x1 x2 x3 x4 m) y1 y2 y3 y4 m2) b g cs) w0 w v od) : LDO (AndB (MVR y1 y2 y3 y4 m2) b g cs) w0 w v od :=
  h.weaken fun w ok h => ⟨h.1.2, h.2⟩
theorem ref_Read' {w : World} {ok : Nat → Prop} {v1 v2 v3 v4 : Value} {m : RM} (h : MV w ok v1 v2 v3 v4 m) (i : Int) (r1 : ByteArray) (r2 : Int) (hr : rRead m i = (r1, r2)) : Calls Try.prog 17 #[.agg #[.bool m.nil, v1, v2, v3, v4, .int .i64 m.left], .int .i64 i] w fun e w' => e = .returned (.tuple #[.string r1, .int .i64 r2]) ∧ Below w.heap.size w w' := by
  obtain ⟨A1, c1, rfl⟩ := Kd.V_slice h.r1
  obtain ⟨A2, c2, rfl⟩ := Kd.V_slice h.r2
  obtain ⟨A3, c3, rfl⟩ := Kd.V_slice h.r3
  obtain ⟨A4, c4, rfl⟩ := Kd.V_slice h.r4
  exact ref_Read h i r1 r2 hr
set_option maxHeartbeats 16000000 in
set_option maxRecDepth 1000000 in
theorem Plays_main (n : Int) (A0 : Option Addr) (c0 : Nat) (l0 : List S28) (w : World) (hr0 : Kd.C k28 w A0 l0.length l0) (hc0 : l0.length ≤ c0) (h2 : n ≤ 16) (h3 : (l0.length : Int) ≤ 40) (hwf : ∀ x ∈ l0, x.f1 ≤ 9223372036854775807) : Calls Try.prog 4 #[.int .i64 n, .slice A0 l0.length c0] w (LawPost w true) := by
  have c1b : decide (n > 16) = false := decide_eq_false (by omega)
  have c2b : decide ((l0.length : Int) > 40) = false := decide_eq_false (by omega)
  have HR := Aside0.mk hr0
  have HX := Aside0.mk (And.intro h2 h3)
  have HW := Aside0.mk hwf
  have HB := Aside0.mk (Below.refl w.heap.size w)
  clear hr0 h2 h3 hwf
  go_enter Try.func4, Try.ntmps4
  go_wp2
  go_loopg [5] l0.length (fun g vi wr => ∃ k : Nat, vi = .int .i64 (k : Int) ∧ k + g = l0.length ∧ Below w.heap.size w wr)
  case atStart => exact ⟨0, rfl, by omega, HB.out⟩
  case round =>
    clear HB
    obtain ⟨k, rfl, hkg, hb⟩ := hrel
    have HB := Aside0.mk hb
    clear hb
    by_cases hk : k < l0.length
    · obtain ⟨ad, rfl, _⟩ := at_T28 HR.out (k : Int) (Int.natCast_nonneg _) (by omega)
      have HS0 := Aside0.mk (show ∀ w2, Below w.heap.size w w2 → w2.cell? (ad.add (k * 3)) = some (.int .u8 (rd_T28 l0 k).f0) ∧ w2.cell? ⟨(ad.add (k * 3)).block, (ad.add (k * 3)).off + 1, none⟩ = some (.int .i64 (rd_T28 l0 k).f1) ∧ w2.cell? ⟨(ad.add (k * 3)).block, (ad.add (k * 3)).off + 2, none⟩ = some (.string (rd_T28 l0 k).f2) from fun w2 hb => by
        obtain ⟨ad2, e2, g0, g1, g2⟩ := at_T28 (Kd.C_below HR.out hb) (k : Int) (Int.natCast_nonneg _) (by omega)
        cases e2
        simp only [Int.toNat_natCast] at g0 g1 g2
        exact ⟨g0, g1, g2⟩)
      obtain ⟨s0, s1, s2⟩ := HS0.out wr HB.out
      generalize rd_T28 l0 k = x at HS0 s0 s1 s2
      have hk1 : (k : Int) < (l0.length : Int) := by omega
      have hk0 : (0 : Int) ≤ (k : Int) := Int.natCast_nonneg _
      by_cases a0 : (x.f2.size : Int) > 400
      · have a0b : decide ((x.f2.size : Int) > 400) = true := decide_eq_true a0
        go_wp2_with (first | (go_at_call 7; refine (lives_after (w := w) HB.out).mono ?_; rintro e w2 ⟨rfl, hb⟩; have HB2 := Aside0.mk hb; clear hb))
        go_ret
        exact ⟨by first | rfl | (simp; done), HB2.out⟩
      · have a0b : decide ((x.f2.size : Int) > 400) = false := decide_eq_false a0
        clear a0
        go_wp2
        go_roundg (l0.length - (k + 1))
        case measure => omega
        case rel => exact ⟨k + 1, by have := HX.out.2; congr 1; unfold wrap64; omega, by omega, HB.out⟩
    · have hkb : decide ((k : Int) < (l0.length : Int)) = false := decide_eq_false (by omega)
      have HN := Aside0.mk (LDO_New stay_non (w0 := w) (w := wr) trivial HB.out n (by have := HX.out.1; omega))
      have hn6 : n ≤ 65536 := by have := HX.out.1; omega
      have HN6 := Aside0.mk hn6
      clear hn6
      go_wp2_with (first
        | (go_at_call 8; with_reducible refine (HN.out).mono ?_; rintro e wa ⟨v0, rfl, hq⟩; have HQ := Aside0.mk hq; clear hq HN)
        | (go_at_call 13; with_reducible refine (LDO_refNew HQ.out n HN6.out).mono ?_; rintro e wb ⟨u1, u2, u3, u4, rfl, hq⟩; have HQ2 := Aside0.mk hq; clear hq HQ)
        | ((with_reducible refine gate_dst (N := 7) rfl ?_); refine box_event rfl (N := 7) rfl (cs := #[.bool false, .slice none 0 0, .slice none 0 0, .slice none 0 0, .slice none 0 0, .int .i64 0]) (t := 36) ?hra ?_; (case hra => first | (go_simp; done) | (go_simp; rfl)); intro g7 hg7 wd hbox hbb; have HQ3 := Aside0.mk (LDO.alloc (stay_mvr _ _ _ _ _) HQ2.out hbb hg7 hbox); clear hbox hg7 hbb HQ2)
        | ((with_reducible refine gate_store (t := 36) (p := 7) rfl ?_); obtain ⟨oq, hmv⟩ := HQ3.out.mv; obtain ⟨ws, hst, hbox, hgr⟩ := store36' (n := (rNew n).nil) (l := (rNew n).left) HQ3.out.cells hmv; refine store_event rfl (t := 36) (p := 7) (v := .tmp 41) (w1 := ws) rfl rfl (exec_store rfl rfl rfl hst) ?_; intro wt hwt; subst hwt; have HQ4 := Aside0.mk (LDO.put (stay_mvr _ _ _ _ _) HQ3.out hgr hbox); clear hst hbox hgr HQ3 hmv))
      clear HB hkb
      go_loopg [6, 8] l0.length (fun g v6 v8 wq => ∃ (k : Nat) (od : Option Dv) (m : RM) (x1 x2 x3 x4 : Value), v8 = .int .i64 (k : Int) ∧ k + g = l0.length ∧ RelO od m ∧ logLen od ≤ k ∧ LDO (AndB (MVR x1 x2 x3 x4 m) w.heap.size g7 #[.bool m.nil, x1, x2, x3, x4, .int .i64 m.left]) w wq v6 od)
      case atStart => exact ⟨0, _, _, _, _, _, _, rfl, by omega, rel_new' n HN6.out, by rw [log_new]; exact Nat.le_refl _, HQ4.out⟩
      case round =>
        clear HQ4
        obtain ⟨k2, od, m, x1, x2, x3, x4, rfl, hkg2, hrel2, hlog, hq⟩ := hrel
        have HQ := Aside0.mk hq
        have HRel := Aside0.mk hrel2
        have HLog := Aside0.mk hlog
        obtain ⟨q0, q1, q2, q3, q4, q5⟩ := c6 HQ.out.cells
        clear hq hrel2 hlog
        by_cases hk2 : k2 < l0.length
        · obtain ⟨ad, rfl, _⟩ := at_T28 HR.out (k2 : Int) (Int.natCast_nonneg _) (by omega)
          have HS0 := Aside0.mk (show ∀ w2, Below w.heap.size w w2 → w2.cell? (ad.add (k2 * 3)) = some (.int .u8 (rd_T28 l0 k2).f0) ∧ w2.cell? ⟨(ad.add (k2 * 3)).block, (ad.add (k2 * 3)).off + 1, none⟩ = some (.int .i64 (rd_T28 l0 k2).f1) ∧ w2.cell? ⟨(ad.add (k2 * 3)).block, (ad.add (k2 * 3)).off + 2, none⟩ = some (.string (rd_T28 l0 k2).f2) from fun w2 hb => by
            obtain ⟨ad2, e2, g0, g1, g2⟩ := at_T28 (Kd.C_below HR.out hb) (k2 : Int) (Int.natCast_nonneg _) (by omega)
            cases e2
            simp only [Int.toNat_natCast] at g0 g1 g2
            exact ⟨g0, g1, g2⟩)
          obtain ⟨s0, s1, s2⟩ := HS0.out _ HQ.out.below
          have HWx := Aside0.mk (show (rd_T28 l0 k2).f1 ≤ 9223372036854775807 from HW.out _ (by unfold rd_T28; rw [Int.toNat_natCast, List.getD_eq_getElem?_getD, List.getElem?_eq_getElem hk2]; exact List.getElem_mem hk2))
          generalize rd_T28 l0 k2 = x at HS0 HWx s0 s1 s2
          have hk1 : (k2 : Int) < (l0.length : Int) := by omega
          have hk0 : (0 : Int) ≤ (k2 : Int) := Int.natCast_nonneg _
          by_cases e0 : x.f0 = 0
          · have b0 : (x.f0 == 0) = true := by first | exact beq_iff_eq.mpr e0 | exact beq_eq_false_iff_ne.mpr e0
            go_wp2_with (first | (go_at_call 14; obtain ⟨oq, hmv⟩ := HQ.out.mv; refine (same_calls (LDO_sames HQ.out HRel.out) hmv (rel_bounds' HRel.out).1).mono ?_; rintro e wz ⟨rfl, hb⟩; have HQ2 := Aside0.mk (LDO.step_below (stay_andB (stay_mvr _ _ _ _ _) _ _ _) HQ.out hb); clear hb HQ hmv q0 q1 q2 q3 q4 q5; have HQ := HQ2; clear HQ2; obtain ⟨q0, q1, q2, q3, q4, q5⟩ := c6 HQ.out.cells; obtain ⟨s0, s1, s2⟩ := HS0.out wz HQ.out.below))
            have n1_ := Aside0.mk (LDO.step_below (stay_andB (stay_mvr _ _ _ _ _) _ _ _) HQ.out (below_drew1 (Below.refl _ _)))
            clear HQ
            have HQ := n1_
            clear n1_
            (try clear s0 s1 s2)
            (try clear q0 q1 q2 q3 q4 q5)
            refine start_ (n := 13) (S := fun w' => Below w.heap.size w w' ∧ w'.heap[g7]? = some (.cells #[.bool m.nil, x1, x2, x3, x4, .int .i64 m.left] 36 (0, 0))) (ds := []) #[false, false, false, false, false, false, false, false, false, false, false, false, false] (by kernel_rfl) rfl rfl ⟨HQ.out.below, HQ.out.cells⟩ (fun hHeld => ?_)
            refine pure_ (i := 0) (N := some 59) (v := ?_) (a' := ?_) #[true, false, false, false, false, false, false, false, false, false, false, false, false] rfl rfl (by kernel_rfl) (fun _ _ _ h => h) (Or.inl ⟨by rfl, ?_⟩) ?_ ?_
            rotate_left
            · intro w'
              go_simp
              with_reducible rfl
            rotate_left
            · simp only [Act.put, List.setIfInBounds_toArray, List.set_cons_zero, List.set_cons_succ, i64_w, i32_w]
              rfl
            refine pure_ (i := 1) (N := some 60) (v := ?_) (a' := ?_) #[true, true, false, false, false, false, false, false, false, false, false, false, false] rfl rfl (by kernel_rfl) (fun _ _ _ h => h) (Or.inl ⟨by rfl, ?_⟩) ?_ ?_
            rotate_left
            · intro w'
              go_simp
              with_reducible rfl
            rotate_left
            · simp only [Act.put, List.setIfInBounds_toArray, List.set_cons_zero, List.set_cons_succ, i64_w, i32_w]
              rfl
            refine pure_ (i := 2) (N := some 61) (v := ?_) (a' := ?_) #[true, true, true, false, false, false, false, false, false, false, false, false, false] rfl rfl (by kernel_rfl) (fun _ _ _ h => h) (Or.inl ⟨by rfl, ?_⟩) ?_ ?_
            rotate_left
            · intro w'
              go_simp
              with_reducible rfl
            rotate_left
            · simp only [Act.put, List.setIfInBounds_toArray, List.set_cons_zero, List.set_cons_succ, i64_w, i32_w]
              rfl
            refine pure_ (i := 3) (N := some 62) (v := ?_) (a' := ?_) #[true, true, true, true, false, false, false, false, false, false, false, false, false] rfl rfl (by kernel_rfl) (fun _ _ _ h => h) (Or.inl ⟨by rfl, ?_⟩) ?_ ?_
            rotate_left
            · intro w'
              go_simp
              with_reducible rfl
            rotate_left
            · simp only [Act.put, List.setIfInBounds_toArray, List.set_cons_zero, List.set_cons_succ, i64_w, i32_w]
              rfl
            refine pure_ (i := 4) (N := some 63) (v := ?_) (a' := ?_) #[true, true, true, true, true, false, false, false, false, false, false, false, false] rfl rfl (by kernel_rfl) (fun _ _ _ h => h) (Or.inl ⟨by rfl, ?_⟩) ?_ ?_
            rotate_left
            · intro w'
              go_simp
              with_reducible rfl
            rotate_left
            · simp only [Act.put, List.setIfInBounds_toArray, List.set_cons_zero, List.set_cons_succ, i64_w, i32_w]
              rfl
            refine take_ (i := 5) (N := some 64) (v := ?_) (a' := ?_) #[true, true, true, true, true, true, false, false, false, false, false, false, false] rfl rfl (by kernel_rfl) (fun _ _ _ h => h) (Or.inl ⟨by rfl, ?_⟩) hHeld ?_ ?_
            rotate_left
            · rintro w' hS
              obtain ⟨y0, y1, y2⟩ := HS0.out w' hS.1
              go_simp
              with_reducible rfl
            rotate_left
            · simp only [Act.put, List.setIfInBounds_toArray, List.set_cons_zero, List.set_cons_succ, i64_w, i32_w]
              rfl
            refine pure_ (i := 6) (N := some 65) (v := ?_) (a' := ?_) #[true, true, true, true, true, true, true, false, false, false, false, false, false] rfl rfl (by kernel_rfl) (fun _ _ _ h => h) (Or.inl ⟨by rfl, ?_⟩) ?_ ?_
            rotate_left
            · intro w'
              go_simp
              with_reducible rfl
            rotate_left
            · simp only [Act.put, List.setIfInBounds_toArray, List.set_cons_zero, List.set_cons_succ, i64_w, i32_w]
              rfl
            refine pure_ (i := 7) (N := some 66) (v := ?_) (a' := ?_) #[true, true, true, true, true, true, true, true, false, false, false, false, false] rfl rfl (by kernel_rfl) (fun _ _ _ h => h) (Or.inl ⟨by rfl, ?_⟩) ?_ ?_
            rotate_left
            · intro w'
              go_simp
              with_reducible rfl
            rotate_left
            · simp only [Act.put, List.setIfInBounds_toArray, List.set_cons_zero, List.set_cons_succ, i64_w, i32_w]
              rfl
            refine pure_ (i := 8) (N := some 67) (v := ?_) (a' := ?_) #[true, true, true, true, true, true, true, true, true, false, false, false, false] rfl rfl (by kernel_rfl) (fun _ _ _ h => h) (Or.inl ⟨by rfl, ?_⟩) ?_ ?_
            rotate_left
            · intro w'
              go_simp
              with_reducible rfl
            rotate_left
            · simp only [Act.put, List.setIfInBounds_toArray, List.set_cons_zero, List.set_cons_succ, i64_w, i32_w]
              rfl
            refine pure_ (i := 9) (N := some 68) (v := ?_) (a' := ?_) #[true, true, true, true, true, true, true, true, true, true, false, false, false] rfl rfl (by kernel_rfl) (fun _ _ _ h => h) (Or.inl ⟨by rfl, ?_⟩) ?_ ?_
            rotate_left
            · intro w'
              go_simp
              with_reducible rfl
            rotate_left
            · simp only [Act.put, List.setIfInBounds_toArray, List.set_cons_zero, List.set_cons_succ, i64_w, i32_w]
              rfl
            refine take_ (i := 10) (N := some 69) (v := ?_) (a' := ?_) #[true, true, true, true, true, true, true, true, true, true, true, false, false] rfl rfl (by kernel_rfl) (fun _ _ _ h => h) (Or.inl ⟨by rfl, ?_⟩) hHeld ?_ ?_
            rotate_left
            · rintro w' hS
              obtain ⟨y0, y1, y2⟩ := HS0.out w' hS.1
              go_simp
              with_reducible rfl
            rotate_left
            · simp only [Act.put, List.setIfInBounds_toArray, List.set_cons_zero, List.set_cons_succ, i64_w, i32_w]
              rfl
            refine one_ (i := 11) (N := some 70) #[true, true, true, true, true, true, true, true, true, true, true, true, false] rfl rfl (by kernel_rfl) (by decide) (fun K hK => ?_)
            refine goes_ (f := 10) Try.func10 (by kernel_rfl) rfl #[u6, .int .i64 x.f1, .string x.f2] (by rfl) rfl rfl (by first | rfl | (simp [Act.eval]; done)) ?_
            refine (LDO_Write (stay_andB (stay_mvr _ _ _ _ _) _ _ _) HQ.out (by have := HLog.out; have := HX.out.2; omega) x.f1 x.f2).mono ?_
            rintro e w3 ⟨rfl, hq⟩
            refine ⟨_, rfl, ?_⟩
            have HQ2 := Aside0.mk hq
            clear hq HQ
            have HQ := HQ2
            clear HQ2
            refine hK.out _ _ ⟨HQ.out.below, HQ.out.cells⟩ (fun hHeld2 => ?_)
            clear hK K hHeld
            have hHeld := hHeld2
            clear hHeld2
            refine norm_ (a' := ?_) ?_ ?_
            rotate_left
            · show Act.put _ (some 70) _ = _
              simp only [Act.put, List.setIfInBounds_toArray, List.set_cons_zero, List.set_cons_succ, i64_w, i32_w]
              rfl
            refine pure_ (i := 12) (N := some 9) (v := ?_) (a' := ?_) #[true, true, true, true, true, true, true, true, true, true, true, true, true] rfl rfl (by kernel_rfl) (fun _ _ _ h => h) (Or.inl ⟨by rfl, ?_⟩) ?_ ?_
            rotate_left
            · intro w'
              go_simp
              with_reducible rfl
            rotate_left
            · simp only [Act.put, List.setIfInBounds_toArray, List.set_cons_zero, List.set_cons_succ, i64_w, i32_w]
              rfl
            refine done_ (by kernel_rfl) ?_
            obtain ⟨hw1, hw2⟩ := rel_write HRel.out (by have := HLog.out; have := HX.out.2; omega : logLen od < 1000000) x.f1 x.f2
            have HLog2 := Aside0.mk (show logLen (doWrite od x.f1 x.f2).2 ≤ k2 + 1 from Nat.le_trans (log_write (by have := HLog.out; have := HX.out.2; omega) x.f1 x.f2) (Nat.succ_le_succ HLog.out))
            have HWr := Aside0.mk (show rWrite m x.f1 x.f2 = ((rWrite m x.f1 x.f2).1, (doWrite od x.f1 x.f2).1) from by rw [← hw1])
            have HRel2 := Aside0.mk hw2
            have HBd := Aside0.mk (rel_bounds' HRel.out)
            clear hw1 hw2
            generalize (rWrite m x.f1 x.f2).1 = m2 at HWr HRel2
            generalize (doWrite od x.f1 x.f2).1 = r at HWr ⊢
            generalize (doWrite od x.f1 x.f2).2 = od2 at HRel2 HLog2 HQ
            clear HRel HLog
            go_wp2
            have n1_ := Aside0.mk (LDO.step_below (stay_andB (stay_mvr _ _ _ _ _) _ _ _) HQ.out (below_drew1 (Below.refl _ _)))
            clear HQ
            have HQ := n1_
            clear n1_
            (try clear s0 s1 s2)
            (try clear q0 q1 q2 q3 q4 q5)
            refine start_ (n := 18) (S := fun w' => Below w.heap.size w w' ∧ w'.heap[g7]? = some (.cells #[.bool m.nil, x1, x2, x3, x4, .int .i64 m.left] 36 (0, 0))) (ds := []) #[false, false, false, false, false, false, false, false, false, false, false, false, false, false, false, false, false, false] (by kernel_rfl) rfl rfl ⟨HQ.out.below, HQ.out.cells⟩ (fun hHeld => ?_)
            refine take_ (i := 0) (N := some 72) (v := ?_) (a' := ?_) #[true, false, false, false, false, false, false, false, false, false, false, false, false, false, false, false, false, false] rfl rfl (by kernel_rfl) (fun _ _ _ h => h) (Or.inl ⟨by rfl, ?_⟩) hHeld ?_ ?_
            rotate_left
            · rintro w' hS
              obtain ⟨y0, y1, y2, y3, y4, y5⟩ := c6 hS.2
              go_simp
              with_reducible rfl
            rotate_left
            · simp only [Act.put, List.setIfInBounds_toArray, List.set_cons_zero, List.set_cons_succ, i64_w, i32_w]
              rfl
            refine pure_ (i := 1) (N := some 73) (v := ?_) (a' := ?_) #[true, true, false, false, false, false, false, false, false, false, false, false, false, false, false, false, false, false] rfl rfl (by kernel_rfl) (fun _ _ _ h => h) (Or.inl ⟨by rfl, ?_⟩) ?_ ?_
            rotate_left
            · intro w'
              go_simp
              with_reducible rfl
            rotate_left
            · simp only [Act.put, List.setIfInBounds_toArray, List.set_cons_zero, List.set_cons_succ, i64_w, i32_w]
              rfl
            refine pure_ (i := 2) (N := some 74) (v := ?_) (a' := ?_) #[true, true, true, false, false, false, false, false, false, false, false, false, false, false, false, false, false, false] rfl rfl (by kernel_rfl) (fun _ _ _ h => h) (Or.inl ⟨by rfl, ?_⟩) ?_ ?_
            rotate_left
            · intro w'
              go_simp
              with_reducible rfl
            rotate_left
            · simp only [Act.put, List.setIfInBounds_toArray, List.set_cons_zero, List.set_cons_succ, i64_w, i32_w]
              rfl
            refine pure_ (i := 3) (N := some 75) (v := ?_) (a' := ?_) #[true, true, true, true, false, false, false, false, false, false, false, false, false, false, false, false, false, false] rfl rfl (by kernel_rfl) (fun _ _ _ h => h) (Or.inl ⟨by rfl, ?_⟩) ?_ ?_
            rotate_left
            · intro w'
              go_simp
              with_reducible rfl
            rotate_left
            · simp only [Act.put, List.setIfInBounds_toArray, List.set_cons_zero, List.set_cons_succ, i64_w, i32_w]
              rfl
            refine pure_ (i := 4) (N := some 76) (v := ?_) (a' := ?_) #[true, true, true, true, true, false, false, false, false, false, false, false, false, false, false, false, false, false] rfl rfl (by kernel_rfl) (fun _ _ _ h => h) (Or.inl ⟨by rfl, ?_⟩) ?_ ?_
            rotate_left
            · intro w'
              go_simp
              with_reducible rfl
            rotate_left
            · simp only [Act.put, List.setIfInBounds_toArray, List.set_cons_zero, List.set_cons_succ, i64_w, i32_w]
              rfl
            refine take_ (i := 5) (N := some 77) (v := ?_) (a' := ?_) #[true, true, true, true, true, true, false, false, false, false, false, false, false, false, false, false, false, false] rfl rfl (by kernel_rfl) (fun _ _ _ h => h) (Or.inl ⟨by rfl, ?_⟩) hHeld ?_ ?_
            rotate_left
            · rintro w' hS
              obtain ⟨y0, y1, y2⟩ := HS0.out w' hS.1
              go_simp
              with_reducible rfl
            rotate_left
            · simp only [Act.put, List.setIfInBounds_toArray, List.set_cons_zero, List.set_cons_succ, i64_w, i32_w]
              rfl
            refine pure_ (i := 6) (N := some 78) (v := ?_) (a' := ?_) #[true, true, true, true, true, true, true, false, false, false, false, false, false, false, false, false, false, false] rfl rfl (by kernel_rfl) (fun _ _ _ h => h) (Or.inl ⟨by rfl, ?_⟩) ?_ ?_
            rotate_left
            · intro w'
              go_simp
              with_reducible rfl
            rotate_left
            · simp only [Act.put, List.setIfInBounds_toArray, List.set_cons_zero, List.set_cons_succ, i64_w, i32_w]
              rfl
            refine pure_ (i := 7) (N := some 79) (v := ?_) (a' := ?_) #[true, true, true, true, true, true, true, true, false, false, false, false, false, false, false, false, false, false] rfl rfl (by kernel_rfl) (fun _ _ _ h => h) (Or.inl ⟨by rfl, ?_⟩) ?_ ?_
            rotate_left
            · intro w'
              go_simp
              with_reducible rfl
            rotate_left
            · simp only [Act.put, List.setIfInBounds_toArray, List.set_cons_zero, List.set_cons_succ, i64_w, i32_w]
              rfl
            refine pure_ (i := 8) (N := some 80) (v := ?_) (a' := ?_) #[true, true, true, true, true, true, true, true, true, false, false, false, false, false, false, false, false, false] rfl rfl (by kernel_rfl) (fun _ _ _ h => h) (Or.inl ⟨by rfl, ?_⟩) ?_ ?_
            rotate_left
            · intro w'
              go_simp
              with_reducible rfl
            rotate_left
            · simp only [Act.put, List.setIfInBounds_toArray, List.set_cons_zero, List.set_cons_succ, i64_w, i32_w]
              rfl
            refine pure_ (i := 9) (N := some 81) (v := ?_) (a' := ?_) #[true, true, true, true, true, true, true, true, true, true, false, false, false, false, false, false, false, false] rfl rfl (by kernel_rfl) (fun _ _ _ h => h) (Or.inl ⟨by rfl, ?_⟩) ?_ ?_
            rotate_left
            · intro w'
              go_simp
              with_reducible rfl
            rotate_left
            · simp only [Act.put, List.setIfInBounds_toArray, List.set_cons_zero, List.set_cons_succ, i64_w, i32_w]
              rfl
            refine take_ (i := 10) (N := some 82) (v := ?_) (a' := ?_) #[true, true, true, true, true, true, true, true, true, true, true, false, false, false, false, false, false, false] rfl rfl (by kernel_rfl) (fun _ _ _ h => h) (Or.inl ⟨by rfl, ?_⟩) hHeld ?_ ?_
            rotate_left
            · rintro w' hS
              obtain ⟨y0, y1, y2⟩ := HS0.out w' hS.1
              go_simp
              with_reducible rfl
            rotate_left
            · simp only [Act.put, List.setIfInBounds_toArray, List.set_cons_zero, List.set_cons_succ, i64_w, i32_w]
              rfl
            refine join_ (σ := Value × Value × Value × Value × Nat) 2 #[true, true, true, true, true, true, true, true, true, true, true, true, true, true, true, true, false, false] (fun s_ => [(83, (.tuple #[.agg #[.bool m2.nil, s_.1, s_.2.1, s_.2.2.1, s_.2.2.2.1, .int .i64 m2.left], .int .i64 r])), (71, (.tuple #[.agg #[.bool m2.nil, s_.1, s_.2.1, s_.2.2.1, s_.2.2.2.1, .int .i64 m2.left], .int .i64 r])), (84, (.agg #[.bool m2.nil, s_.1, s_.2.1, s_.2.2.1, s_.2.2.2.1, .int .i64 m2.left])), (85, .int .i64 r), (10, .pointer (some ⟨s_.2.2.2.2, 0, none⟩))]) (fun s_ w' => LDO (AndB (AndB (AndV (MVR x1 x2 x3 x4 m) s_.1 s_.2.1 s_.2.2.1 s_.2.2.2.1 m2) w.heap.size g7 #[.bool m.nil, x1, x2, x3, x4, .int .i64 m.left]) w.heap.size s_.2.2.2.2 #[.bool false, .slice none 0 0, .slice none 0 0, .slice none 0 0, .slice none 0 0, .int .i64 0]) w w' u6 od2) ?_ ?_
            rotate_left
            · intro hCont
              refine two_ (i := 11) (j := 15) (Ni := some 83) (Nj := some 10) #[true, true, true, true, true, true, true, true, true, true, true, true, false, false, false, false, false, false] #[true, true, true, true, true, true, true, true, true, true, true, false, false, false, false, true, false, false] rfl rfl rfl rfl (by kernel_rfl) (by decide) (by decide) (fun K hK => ?_) (fun K hK => ?_)
              · skip
                refine goes_ (f := 15) Try.func15 (by kernel_rfl) rfl #[(.agg #[.bool m.nil, x1, x2, x3, x4, .int .i64 m.left]), .int .i64 x.f1, .string x.f2] (by rfl) rfl rfl (by first | rfl | (simp [Act.eval]; done)) ?_
                refine (LDO_made (Q := fun _ => True) HQ.out (m2 := m2) (ret := fun y1 y2 y3 y4 => .tuple #[.agg #[.bool m2.nil, y1, y2, y3, y4, .int .i64 m2.left], .int .i64 r]) (fun oq hmv => ref_Write hmv x.f1 x.f2 HBd.out m2 r HWr.out)).mono ?_
                rintro e w3 ⟨y1, y2, y3, y4, rfl, hq⟩
                refine ⟨_, rfl, ?_⟩
                have HQa := Aside0.mk hq
                clear hq
                refine hK.out _ _ ⟨HQa.out.below, HQa.out.cells⟩ (fun hHeld2 => ?_)
                clear hK K
                refine norm_ (a' := ?_) ?_ ?_
                rotate_left
                · show Act.put _ (some 83) _ = _
                  simp only [Act.put, List.setIfInBounds_toArray, List.set_cons_zero, List.set_cons_succ, i64_w, i32_w]
                  rfl
                refine pure_ (i := 12) (N := some 71) (v := ?_) (a' := ?_) #[true, true, true, true, true, true, true, true, true, true, true, true, true, false, false, false, false, false] rfl rfl (by kernel_rfl) (fun _ _ _ h => h) (Or.inl ⟨by rfl, ?_⟩) ?_ ?_
                rotate_left
                · intro w'
                  go_simp
                  with_reducible rfl
                rotate_left
                · simp only [Act.put, List.setIfInBounds_toArray, List.set_cons_zero, List.set_cons_succ, i64_w, i32_w]
                  rfl
                refine pure_ (i := 13) (N := some 84) (v := ?_) (a' := ?_) #[true, true, true, true, true, true, true, true, true, true, true, true, true, true, false, false, false, false] rfl rfl (by kernel_rfl) (fun _ _ _ h => h) (Or.inl ⟨by rfl, ?_⟩) ?_ ?_
                rotate_left
                · intro w'
                  go_simp
                  with_reducible rfl
                rotate_left
                · simp only [Act.put, List.setIfInBounds_toArray, List.set_cons_zero, List.set_cons_succ, i64_w, i32_w]
                  rfl
                refine pure_ (i := 14) (N := some 85) (v := ?_) (a' := ?_) #[true, true, true, true, true, true, true, true, true, true, true, true, true, true, true, false, false, false] rfl rfl (by kernel_rfl) (fun _ _ _ h => h) (Or.inl ⟨by rfl, ?_⟩) ?_ ?_
                rotate_left
                · intro w'
                  go_simp
                  with_reducible rfl
                rotate_left
                · simp only [Act.put, List.setIfInBounds_toArray, List.set_cons_zero, List.set_cons_succ, i64_w, i32_w]
                  rfl
                refine one_ (i := 15) (N := some 10) #[true, true, true, true, true, true, true, true, true, true, true, true, true, true, true, true, false, false] rfl rfl (by kernel_rfl) (by decide) (fun K hK => ?_)
                refine box_step (by rfl) (N := 10) rfl (cs := #[.bool false, .slice none 0 0, .slice none 0 0, .slice none 0 0, .slice none 0 0, .int .i64 0]) (t := 36) ?hrs ?_
                case hrs => first | (go_simp; done) | (go_simp; rfl)
                intro g10 hg10 w4 hbox hbb
                have HQb := Aside0.mk (LDO.alloc (stay_andB (stay_andV (stay_mvr _ _ _ _ _) _ _ _ _ _) _ _ _) HQa.out hbb hg10 hbox)
                clear HQa hbb hg10 hbox
                refine hK.out _ _ ⟨HQb.out.below, HQb.out.cells2⟩ (fun hHeld2 => ?_)
                clear hK K
                refine norm_ (a' := ?_) ?_ ?_
                rotate_left
                · show Act.put _ (some 10) _ = _
                  simp only [Act.put, List.setIfInBounds_toArray, List.set_cons_zero, List.set_cons_succ, i64_w, i32_w]
                  rfl
                exact norm_ (by simp only [putAll, Act.put, List.setIfInBounds_toArray, List.set_cons_zero, List.set_cons_succ]) (hCont (y1, y2, y3, y4, g10) _ HQb.out)
              · skip
                refine box_step (by rfl) (N := 10) rfl (cs := #[.bool false, .slice none 0 0, .slice none 0 0, .slice none 0 0, .slice none 0 0, .int .i64 0]) (t := 36) ?hrs ?_
                case hrs => first | (go_simp; done) | (go_simp; rfl)
                intro g10 hg10 w4 hbox hbb
                have HQa := Aside0.mk (LDO.alloc (stay_andB (stay_mvr _ _ _ _ _) _ _ _) HQ.out hbb hg10 hbox)
                clear hbb hg10 hbox
                refine hK.out _ _ ⟨HQa.out.below, HQa.out.cells2⟩ (fun hHeld2 => ?_)
                clear hK K
                refine norm_ (a' := ?_) ?_ ?_
                rotate_left
                · show Act.put _ (some 10) _ = _
                  simp only [Act.put, List.setIfInBounds_toArray, List.set_cons_zero, List.set_cons_succ, i64_w, i32_w]
                  rfl
                refine one_ (i := 11) (N := some 83) #[true, true, true, true, true, true, true, true, true, true, true, true, false, false, false, true, false, false] rfl rfl (by kernel_rfl) (by decide) (fun K hK => ?_)
                refine goes_ (f := 15) Try.func15 (by kernel_rfl) rfl #[(.agg #[.bool m.nil, x1, x2, x3, x4, .int .i64 m.left]), .int .i64 x.f1, .string x.f2] (by rfl) rfl rfl (by first | rfl | (simp [Act.eval]; done)) ?_
                refine (LDO_made2 HQa.out (m2 := m2) (ret := fun y1 y2 y3 y4 => .tuple #[.agg #[.bool m2.nil, y1, y2, y3, y4, .int .i64 m2.left], .int .i64 r]) (fun oq hmv => ref_Write hmv x.f1 x.f2 HBd.out m2 r HWr.out)).mono ?_
                rintro e w3 ⟨y1, y2, y3, y4, rfl, hq⟩
                refine ⟨_, rfl, ?_⟩
                have HQb := Aside0.mk hq
                clear hq HQa
                refine hK.out _ _ ⟨HQb.out.below, HQb.out.cells2⟩ (fun hHeld2 => ?_)
                clear hK K
                refine norm_ (a' := ?_) ?_ ?_
                rotate_left
                · show Act.put _ (some 83) _ = _
                  simp only [Act.put, List.setIfInBounds_toArray, List.set_cons_zero, List.set_cons_succ, i64_w, i32_w]
                  rfl
                refine pure_ (i := 12) (N := some 71) (v := ?_) (a' := ?_) #[true, true, true, true, true, true, true, true, true, true, true, true, true, false, false, true, false, false] rfl rfl (by kernel_rfl) (fun _ _ _ h => h) (Or.inl ⟨by rfl, ?_⟩) ?_ ?_
                rotate_left
                · intro w'
                  go_simp
                  with_reducible rfl
                rotate_left
                · simp only [Act.put, List.setIfInBounds_toArray, List.set_cons_zero, List.set_cons_succ, i64_w, i32_w]
                  rfl
                refine pure_ (i := 13) (N := some 84) (v := ?_) (a' := ?_) #[true, true, true, true, true, true, true, true, true, true, true, true, true, true, false, true, false, false] rfl rfl (by kernel_rfl) (fun _ _ _ h => h) (Or.inl ⟨by rfl, ?_⟩) ?_ ?_
                rotate_left
                · intro w'
                  go_simp
                  with_reducible rfl
                rotate_left
                · simp only [Act.put, List.setIfInBounds_toArray, List.set_cons_zero, List.set_cons_succ, i64_w, i32_w]
                  rfl
                refine pure_ (i := 14) (N := some 85) (v := ?_) (a' := ?_) #[true, true, true, true, true, true, true, true, true, true, true, true, true, true, true, true, false, false] rfl rfl (by kernel_rfl) (fun _ _ _ h => h) (Or.inl ⟨by rfl, ?_⟩) ?_ ?_
                rotate_left
                · intro w'
                  go_simp
                  with_reducible rfl
                rotate_left
                · simp only [Act.put, List.setIfInBounds_toArray, List.set_cons_zero, List.set_cons_succ, i64_w, i32_w]
                  rfl
                exact norm_ (by simp only [putAll, Act.put, List.setIfInBounds_toArray, List.set_cons_zero, List.set_cons_succ]) (hCont (y1, y2, y3, y4, g10) _ HQb.out)
            rintro ⟨y1, y2, y3, y4, g10⟩ w5 hq
            dsimp only at hq
            have HQ5 := Aside0.mk hq
            clear hq HQ
            have hHeld := (show Below w.heap.size w w5 ∧ w5.heap[g7]? = some (.cells #[.bool m.nil, x1, x2, x3, x4, .int .i64 m.left] 36 (0, 0)) from ⟨HQ5.out.below, HQ5.out.cells2⟩)
            refine norm_ (a' := ?_) ?_ ?_
            rotate_left
            · simp only [putAll, Act.put, List.setIfInBounds_toArray, List.set_cons_zero, List.set_cons_succ]
              rfl
            obtain ⟨oq, hmv⟩ := HQ5.out.mvV2
            obtain ⟨w6, hst, hbox, hgr⟩ := store36' (n := m2.nil) (l := m2.left) HQ5.out.cells hmv
            refine one_ (i := 16) (N := none) #[true, true, true, true, true, true, true, true, true, true, true, true, true, true, true, true, true, false] rfl rfl (by kernel_rfl) (by decide) (fun K hK => ?_)
            refine skip_ (w1 := w6) (by rfl) rfl ?_ ?_
            · exact exec_store rfl rfl rfl hst
            have HQ6 := Aside0.mk (LDO.put (stay_andB (stay_andV (stay_mvr _ _ _ _ _) _ _ _ _ _) _ _ _) HQ5.out hgr hbox)
            clear hst hbox hgr HQ5 hmv
            refine hK.out _ _ ⟨HQ6.out.below, HQ6.out.cells2⟩ (fun hHeld => ?_)
            clear hK K
            refine pure_ (i := 17) (N := some 11) (v := ?_) (a' := ?_) #[true, true, true, true, true, true, true, true, true, true, true, true, true, true, true, true, true, true] rfl rfl (by kernel_rfl) (fun _ _ _ h => h) (Or.inl ⟨by rfl, ?_⟩) ?_ ?_
            rotate_left
            · intro w'
              go_simp
              with_reducible rfl
            rotate_left
            · simp only [Act.put, List.setIfInBounds_toArray, List.set_cons_zero, List.set_cons_succ, i64_w, i32_w]
              rfl
            refine done_ (by kernel_rfl) ?_
            obtain ⟨q0, q1, q2, q3, q4, q5⟩ := c6 HQ6.out.cells
            have HS7 := Aside0.mk (LDO.swap7 HQ6.out)
            obtain ⟨oq, hmv⟩ := HQ6.out.mvV2
            obtain ⟨ws, hst, hbox, hgr⟩ := store36' (n := m2.nil) (l := m2.left) HS7.out.cells hmv
            have HT7 := Aside0.mk (LDO.put (stay_andB (stay_andV (stay_mvr _ _ _ _ _) _ _ _ _ _) _ _ _) HS7.out hgr hbox)
            have HQ7 := Aside0.mk (LDO.toNew HT7.out)
            have HST := Aside0.mk hst
            clear hst hbox hgr HQ6 HS7 HT7 hmv
            go_wp2_with (first
              | ((with_reducible refine gate_store (t := 36) (p := 7) rfl ?_); go_loud (refine store_event rfl (t := 36) (p := 7) (v := .tmp 89) (w1 := ws) rfl rfl (exec_store rfl rfl rfl HST.out) ?_; intro wz hwz; subst hwz; clear HST q0 q1 q2 q3 q4 q5)))
            go_roundg (l0.length - (k2 + 1))
            case measure => omega
            case rel => exact ⟨k2 + 1, _, _, _, _, _, _, by have := HX.out.2; congr 1; unfold wrap64; omega, by omega, HRel2.out, HLog2.out, HQ7.out⟩
          · skip
            by_cases e1 : x.f0 = 1
            · have b0 : (x.f0 == 0) = false := by first | exact beq_iff_eq.mpr e0 | exact beq_eq_false_iff_ne.mpr e0
              have b1 : (x.f0 == 1) = true := by first | exact beq_iff_eq.mpr e1 | exact beq_eq_false_iff_ne.mpr e1
              go_wp2_with (first | (go_at_call 14; obtain ⟨oq, hmv⟩ := HQ.out.mv; refine (same_calls (LDO_sames HQ.out HRel.out) hmv (rel_bounds' HRel.out).1).mono ?_; rintro e wz ⟨rfl, hb⟩; have HQ2 := Aside0.mk (LDO.step_below (stay_andB (stay_mvr _ _ _ _ _) _ _ _) HQ.out hb); clear hb HQ hmv q0 q1 q2 q3 q4 q5; have HQ := HQ2; clear HQ2; obtain ⟨q0, q1, q2, q3, q4, q5⟩ := c6 HQ.out.cells; obtain ⟨s0, s1, s2⟩ := HS0.out wz HQ.out.below))
              obtain ⟨ra, hra⟩ : ∃ ra, ra = (rRead m x.f1).1 := ⟨_, rfl⟩
              obtain ⟨rb, hrb⟩ : ∃ rb, rb = (rRead m x.f1).2 := ⟨_, rfl⟩
              have HRd := Aside0.mk (show rRead m x.f1 = (ra, rb) from by rw [hra, hrb])
              have HRd2 := Aside0.mk (show doRead od x.f1 = (ra, rb) from by rw [rel_read HRel.out, hra, hrb])
              clear hra hrb
              go_wp2_with (first
                | (go_at_call 16; with_reducible refine (LDO_Read (stay_andB (stay_mvr _ _ _ _ _) _ _ _) HQ.out x.f1 ra rb HRd2.out).mono ?_; rintro e w3 ⟨rfl, hq⟩; have HQ2 := Aside0.mk hq; clear hq HQ s0 s1 s2 q0 q1 q2 q3 q4 q5; have HQ := HQ2; clear HQ2))
              have n1_ := Aside0.mk (LDO.step_below (stay_andB (stay_mvr _ _ _ _ _) _ _ _) HQ.out (below_drew1 (Below.refl _ _)))
              clear HQ
              have HQ := n1_
              clear n1_
              (try clear s0 s1 s2)
              (try clear q0 q1 q2 q3 q4 q5)
              refine start_ (n := 12) (S := fun w' => Below w.heap.size w w' ∧ w'.heap[g7]? = some (.cells #[.bool m.nil, x1, x2, x3, x4, .int .i64 m.left] 36 (0, 0))) (ds := []) #[false, false, false, false, false, false, false, false, false, false, false, false] (by kernel_rfl) rfl rfl ⟨HQ.out.below, HQ.out.cells⟩ (fun hHeld => ?_)
              refine take_ (i := 0) (N := some 103) (v := ?_) (a' := ?_) #[true, false, false, false, false, false, false, false, false, false, false, false] rfl rfl (by kernel_rfl) (fun _ _ _ h => h) (Or.inl ⟨by rfl, ?_⟩) hHeld ?_ ?_
              rotate_left
              · rintro w' hS
                obtain ⟨y0, y1, y2, y3, y4, y5⟩ := c6 hS.2
                go_simp
                with_reducible rfl
              rotate_left
              · simp only [Act.put, List.setIfInBounds_toArray, List.set_cons_zero, List.set_cons_succ, i64_w, i32_w]
                rfl
              refine pure_ (i := 1) (N := some 104) (v := ?_) (a' := ?_) #[true, true, false, false, false, false, false, false, false, false, false, false] rfl rfl (by kernel_rfl) (fun _ _ _ h => h) (Or.inl ⟨by rfl, ?_⟩) ?_ ?_
              rotate_left
              · intro w'
                go_simp
                with_reducible rfl
              rotate_left
              · simp only [Act.put, List.setIfInBounds_toArray, List.set_cons_zero, List.set_cons_succ, i64_w, i32_w]
                rfl
              refine pure_ (i := 2) (N := some 105) (v := ?_) (a' := ?_) #[true, true, true, false, false, false, false, false, false, false, false, false] rfl rfl (by kernel_rfl) (fun _ _ _ h => h) (Or.inl ⟨by rfl, ?_⟩) ?_ ?_
              rotate_left
              · intro w'
                go_simp
                with_reducible rfl
              rotate_left
              · simp only [Act.put, List.setIfInBounds_toArray, List.set_cons_zero, List.set_cons_succ, i64_w, i32_w]
                rfl
              refine pure_ (i := 3) (N := some 106) (v := ?_) (a' := ?_) #[true, true, true, true, false, false, false, false, false, false, false, false] rfl rfl (by kernel_rfl) (fun _ _ _ h => h) (Or.inl ⟨by rfl, ?_⟩) ?_ ?_
              rotate_left
              · intro w'
                go_simp
                with_reducible rfl
              rotate_left
              · simp only [Act.put, List.setIfInBounds_toArray, List.set_cons_zero, List.set_cons_succ, i64_w, i32_w]
                rfl
              refine pure_ (i := 4) (N := some 107) (v := ?_) (a' := ?_) #[true, true, true, true, true, false, false, false, false, false, false, false] rfl rfl (by kernel_rfl) (fun _ _ _ h => h) (Or.inl ⟨by rfl, ?_⟩) ?_ ?_
              rotate_left
              · intro w'
                go_simp
                with_reducible rfl
              rotate_left
              · simp only [Act.put, List.setIfInBounds_toArray, List.set_cons_zero, List.set_cons_succ, i64_w, i32_w]
                rfl
              refine take_ (i := 5) (N := some 108) (v := ?_) (a' := ?_) #[true, true, true, true, true, true, false, false, false, false, false, false] rfl rfl (by kernel_rfl) (fun _ _ _ h => h) (Or.inl ⟨by rfl, ?_⟩) hHeld ?_ ?_
              rotate_left
              · rintro w' hS
                obtain ⟨y0, y1, y2⟩ := HS0.out w' hS.1
                go_simp
                with_reducible rfl
              rotate_left
              · simp only [Act.put, List.setIfInBounds_toArray, List.set_cons_zero, List.set_cons_succ, i64_w, i32_w]
                rfl
              obtain ⟨oq, hmv⟩ := HQ.out.mv
              refine one_ (i := 6) (N := some 109) #[true, true, true, true, true, true, true, false, false, false, false, false] rfl rfl (by kernel_rfl) (by decide) (fun K hK => ?_)
              refine goes_ (f := 17) Try.func17 (by kernel_rfl) rfl #[(.agg #[.bool m.nil, x1, x2, x3, x4, .int .i64 m.left]), .int .i64 x.f1] (by rfl) rfl rfl (by first | rfl | (simp [Act.eval]; done)) ?_
              refine (ref_Read' hmv x.f1 ra rb HRd.out).mono ?_
              rintro e w3 ⟨rfl, hb⟩
              refine ⟨_, rfl, ?_⟩
              have HQ2 := Aside0.mk (LDO.step_below (stay_andB (stay_mvr _ _ _ _ _) _ _ _) HQ.out hb)
              clear hb HQ hmv
              have HQ := HQ2
              clear HQ2
              refine hK.out _ _ ⟨HQ.out.below, HQ.out.cells⟩ (fun hHeld2 => ?_)
              clear hK K hHeld
              have hHeld := hHeld2
              clear hHeld2
              refine norm_ (a' := ?_) ?_ ?_
              rotate_left
              · show Act.put _ (some 109) _ = _
                simp only [Act.put, List.setIfInBounds_toArray, List.set_cons_zero, List.set_cons_succ, i64_w, i32_w]
                rfl
              refine pure_ (i := 7) (N := some 102) (v := ?_) (a' := ?_) #[true, true, true, true, true, true, true, true, false, false, false, false] rfl rfl (by kernel_rfl) (fun _ _ _ h => h) (Or.inl ⟨by rfl, ?_⟩) ?_ ?_
              rotate_left
              · intro w'
                go_simp
                with_reducible rfl
              rotate_left
              · simp only [Act.put, List.setIfInBounds_toArray, List.set_cons_zero, List.set_cons_succ, i64_w, i32_w]
                rfl
              refine pure_ (i := 8) (N := some 110) (v := ?_) (a' := ?_) #[true, true, true, true, true, true, true, true, true, false, false, false] rfl rfl (by kernel_rfl) (fun _ _ _ h => h) (Or.inl ⟨by rfl, ?_⟩) ?_ ?_
              rotate_left
              · intro w'
                go_simp
                with_reducible rfl
              rotate_left
              · simp only [Act.put, List.setIfInBounds_toArray, List.set_cons_zero, List.set_cons_succ, i64_w, i32_w]
                rfl
              refine pure_ (i := 9) (N := some 111) (v := ?_) (a' := ?_) #[true, true, true, true, true, true, true, true, true, true, false, false] rfl rfl (by kernel_rfl) (fun _ _ _ h => h) (Or.inl ⟨by rfl, ?_⟩) ?_ ?_
              rotate_left
              · intro w'
                go_simp
                with_reducible rfl
              rotate_left
              · simp only [Act.put, List.setIfInBounds_toArray, List.set_cons_zero, List.set_cons_succ, i64_w, i32_w]
                rfl
              refine pure_ (i := 10) (N := some 14) (v := ?_) (a' := ?_) #[true, true, true, true, true, true, true, true, true, true, true, false] rfl rfl (by kernel_rfl) (fun _ _ _ h => h) (Or.inl ⟨by rfl, ?_⟩) ?_ ?_
              rotate_left
              · intro w'
                go_simp
                with_reducible rfl
              rotate_left
              · simp only [Act.put, List.setIfInBounds_toArray, List.set_cons_zero, List.set_cons_succ, i64_w, i32_w]
                rfl
              refine pure_ (i := 11) (N := some 15) (v := ?_) (a' := ?_) #[true, true, true, true, true, true, true, true, true, true, true, true] rfl rfl (by kernel_rfl) (fun _ _ _ h => h) (Or.inl ⟨by rfl, ?_⟩) ?_ ?_
              rotate_left
              · intro w'
                go_simp
                with_reducible rfl
              rotate_left
              · simp only [Act.put, List.setIfInBounds_toArray, List.set_cons_zero, List.set_cons_succ, i64_w, i32_w]
                rfl
              refine done_ (by kernel_rfl) ?_
              have HRel2 := HRel
              go_wp2
              go_roundg (l0.length - (k2 + 1))
              case measure => omega
              case rel => exact ⟨k2 + 1, _, _, _, _, _, _, by have := HX.out.2; congr 1; unfold wrap64; omega, by omega, HRel2.out, Nat.le_succ_of_le HLog.out, HQ.out⟩
            · skip
              by_cases e2 : x.f0 = 2
              · have b0 : (x.f0 == 0) = false := by first | exact beq_iff_eq.mpr e0 | exact beq_eq_false_iff_ne.mpr e0
                have b1 : (x.f0 == 1) = false := by first | exact beq_iff_eq.mpr e1 | exact beq_eq_false_iff_ne.mpr e1
                have b2 : (x.f0 == 2) = true := by first | exact beq_iff_eq.mpr e2 | exact beq_eq_false_iff_ne.mpr e2
                go_wp2_with (first | (go_at_call 14; obtain ⟨oq, hmv⟩ := HQ.out.mv; refine (same_calls (LDO_sames HQ.out HRel.out) hmv (rel_bounds' HRel.out).1).mono ?_; rintro e wz ⟨rfl, hb⟩; have HQ2 := Aside0.mk (LDO.step_below (stay_andB (stay_mvr _ _ _ _ _) _ _ _) HQ.out hb); clear hb HQ hmv q0 q1 q2 q3 q4 q5; have HQ := HQ2; clear HQ2; obtain ⟨q0, q1, q2, q3, q4, q5⟩ := c6 HQ.out.cells; obtain ⟨s0, s1, s2⟩ := HS0.out wz HQ.out.below))
                have HRel2 := Aside0.mk (rel_limit HRel.out x.f1 (HWx.out))
                go_wp2_with (first
                  | (go_at_call 9; with_reducible refine (LDO_Limit (stay_andB (stay_mvr _ _ _ _ _) _ _ _) HQ.out x.f1).mono ?_; rintro e w3 ⟨rfl, hq⟩; have HQ2 := Aside0.mk hq; clear hq HQ s0 s1 s2 q0 q1 q2 q3 q4 q5; have HQ := HQ2; clear HQ2))
                have n1_ := Aside0.mk (LDO.step_below (stay_andB (stay_mvr _ _ _ _ _) _ _ _) HQ.out (below_drew1 (Below.refl _ _)))
                clear HQ
                have HQ := n1_
                clear n1_
                (try clear s0 s1 s2)
                (try clear q0 q1 q2 q3 q4 q5)
                refine start_ (n := 8) (S := fun w' => Below w.heap.size w w' ∧ w'.heap[g7]? = some (.cells #[.bool m.nil, x1, x2, x3, x4, .int .i64 m.left] 36 (0, 0))) (ds := [7]) #[false, false, false, false, false, false, false, false] (by kernel_rfl) rfl rfl ⟨HQ.out.below, HQ.out.cells⟩ (fun hHeld => ?_)
                refine take_ (i := 0) (N := some 129) (v := ?_) (a' := ?_) #[true, false, false, false, false, false, false, false] rfl rfl (by kernel_rfl) (fun _ _ _ h => h) (Or.inl ⟨by rfl, ?_⟩) hHeld ?_ ?_
                rotate_left
                · rintro w' hS
                  obtain ⟨y0, y1, y2, y3, y4, y5⟩ := c6 hS.2
                  go_simp
                  with_reducible rfl
                rotate_left
                · simp only [Act.put, List.setIfInBounds_toArray, List.set_cons_zero, List.set_cons_succ, i64_w, i32_w]
                  rfl
                refine pure_ (i := 1) (N := some 130) (v := ?_) (a' := ?_) #[true, true, false, false, false, false, false, false] rfl rfl (by kernel_rfl) (fun _ _ _ h => h) (Or.inl ⟨by rfl, ?_⟩) ?_ ?_
                rotate_left
                · intro w'
                  go_simp
                  with_reducible rfl
                rotate_left
                · simp only [Act.put, List.setIfInBounds_toArray, List.set_cons_zero, List.set_cons_succ, i64_w, i32_w]
                  rfl
                refine pure_ (i := 2) (N := some 131) (v := ?_) (a' := ?_) #[true, true, true, false, false, false, false, false] rfl rfl (by kernel_rfl) (fun _ _ _ h => h) (Or.inl ⟨by rfl, ?_⟩) ?_ ?_
                rotate_left
                · intro w'
                  go_simp
                  with_reducible rfl
                rotate_left
                · simp only [Act.put, List.setIfInBounds_toArray, List.set_cons_zero, List.set_cons_succ, i64_w, i32_w]
                  rfl
                refine pure_ (i := 3) (N := some 132) (v := ?_) (a' := ?_) #[true, true, true, true, false, false, false, false] rfl rfl (by kernel_rfl) (fun _ _ _ h => h) (Or.inl ⟨by rfl, ?_⟩) ?_ ?_
                rotate_left
                · intro w'
                  go_simp
                  with_reducible rfl
                rotate_left
                · simp only [Act.put, List.setIfInBounds_toArray, List.set_cons_zero, List.set_cons_succ, i64_w, i32_w]
                  rfl
                refine pure_ (i := 4) (N := some 133) (v := ?_) (a' := ?_) #[true, true, true, true, true, false, false, false] rfl rfl (by kernel_rfl) (fun _ _ _ h => h) (Or.inl ⟨by rfl, ?_⟩) ?_ ?_
                rotate_left
                · intro w'
                  go_simp
                  with_reducible rfl
                rotate_left
                · simp only [Act.put, List.setIfInBounds_toArray, List.set_cons_zero, List.set_cons_succ, i64_w, i32_w]
                  rfl
                refine take_ (i := 5) (N := some 134) (v := ?_) (a' := ?_) #[true, true, true, true, true, true, false, false] rfl rfl (by kernel_rfl) (fun _ _ _ h => h) (Or.inl ⟨by rfl, ?_⟩) hHeld ?_ ?_
                rotate_left
                · rintro w' hS
                  obtain ⟨y0, y1, y2⟩ := HS0.out w' hS.1
                  go_simp
                  with_reducible rfl
                rotate_left
                · simp only [Act.put, List.setIfInBounds_toArray, List.set_cons_zero, List.set_cons_succ, i64_w, i32_w]
                  rfl
                refine one_ (i := 6) (N := some 135) #[true, true, true, true, true, true, true, false] rfl rfl (by kernel_rfl) (by decide) (fun K hK => ?_)
                refine goes_ (f := 18) Try.func18 (by kernel_rfl) rfl #[(.agg #[.bool m.nil, x1, x2, x3, x4, .int .i64 m.left]), .int .i64 x.f1] (by rfl) rfl rfl (by first | rfl | (simp [Act.eval]; done)) ?_
                refine (LDO_made (Q := fun _ => True) HQ.out (m2 := rLimit m x.f1) (ret := fun y1 y2 y3 y4 => .agg #[.bool (rLimit m x.f1).nil, y1, y2, y3, y4, .int .i64 (rLimit m x.f1).left]) (fun oq hmv => (ref_Limit hmv x.f1).mono fun e w' ⟨y1, y2, y3, y4, h1, h2, h3⟩ => ⟨y1, y2, y3, y4, h1, h2.mono (fun k hk => .inl hk), h3⟩)).mono ?_
                rintro e w3 ⟨y1, y2, y3, y4, rfl, hq⟩
                refine ⟨_, rfl, ?_⟩
                have HQ2 := Aside0.mk hq
                clear hq HQ
                have HQ := HQ2
                clear HQ2
                refine hK.out _ _ ⟨HQ.out.below, HQ.out.cells⟩ (fun hHeld2 => ?_)
                clear hK K hHeld
                have hHeld := hHeld2
                clear hHeld2
                refine norm_ (a' := ?_) ?_ ?_
                rotate_left
                · show Act.put _ (some 135) _ = _
                  simp only [Act.put, List.setIfInBounds_toArray, List.set_cons_zero, List.set_cons_succ, i64_w, i32_w]
                  rfl
                obtain ⟨oq, hmv⟩ := HQ.out.mvV
                obtain ⟨w6, hst, hbox, hgr⟩ := store36' (n := (rLimit m x.f1).nil) (l := (rLimit m x.f1).left) HQ.out.cells hmv
                refine last_ (i := 7) (N := none) #[true, true, true, true, true, true, true, true] rfl rfl (by kernel_rfl) (by decide) (fun K hK => ?_)
                refine skip_ (w1 := w6) (by rfl) rfl ?_ ?_
                · exact exec_store rfl rfl rfl hst
                have HQ7 := Aside0.mk ((LDO.put (stay_andV (stay_mvr _ _ _ _ _) _ _ _ _ _) HQ.out hgr hbox).toNew1)
                clear hst hbox hgr HQ hmv hHeld
                refine hK.out _ _ ?_
                clear hK K
                refine done_ (by kernel_rfl) ?_
                go_wp2
                go_roundg (l0.length - (k2 + 1))
                case measure => omega
                case rel => exact ⟨k2 + 1, _, _, _, _, _, _, by have := HX.out.2; congr 1; unfold wrap64; omega, by omega, HRel2.out, (by rw [log_limit]; exact Nat.le_succ_of_le HLog.out), HQ7.out⟩
              · skip
                by_cases e3 : x.f0 = 3
                · have b0 : (x.f0 == 0) = false := by first | exact beq_iff_eq.mpr e0 | exact beq_eq_false_iff_ne.mpr e0
                  have b1 : (x.f0 == 1) = false := by first | exact beq_iff_eq.mpr e1 | exact beq_eq_false_iff_ne.mpr e1
                  have b2 : (x.f0 == 2) = false := by first | exact beq_iff_eq.mpr e2 | exact beq_eq_false_iff_ne.mpr e2
                  have b3 : (x.f0 == 3) = true := by first | exact beq_iff_eq.mpr e3 | exact beq_eq_false_iff_ne.mpr e3
                  go_wp2_with (first | (go_at_call 14; obtain ⟨oq, hmv⟩ := HQ.out.mv; refine (same_calls (LDO_sames HQ.out HRel.out) hmv (rel_bounds' HRel.out).1).mono ?_; rintro e wz ⟨rfl, hb⟩; have HQ2 := Aside0.mk (LDO.step_below (stay_andB (stay_mvr _ _ _ _ _) _ _ _) HQ.out hb); clear hb HQ hmv q0 q1 q2 q3 q4 q5; have HQ := HQ2; clear HQ2; obtain ⟨q0, q1, q2, q3, q4, q5⟩ := c6 HQ.out.cells; obtain ⟨s0, s1, s2⟩ := HS0.out wz HQ.out.below))
                  have HRel2 := Aside0.mk (rel_after' HRel.out x.f1)
                  go_wp2
                  have n1_ := Aside0.mk (LDO.step_below (stay_andB (stay_mvr _ _ _ _ _) _ _ _) HQ.out (below_drew1 (Below.refl _ _)))
                  clear HQ
                  have HQ := n1_
                  clear n1_
                  (try clear s0 s1 s2)
                  (try clear q0 q1 q2 q3 q4 q5)
                  refine start_ (n := 16) (S := fun w' => Below w.heap.size w w' ∧ w'.heap[g7]? = some (.cells #[.bool m.nil, x1, x2, x3, x4, .int .i64 m.left] 36 (0, 0))) (ds := [15]) #[false, false, false, false, false, false, false, false, false, false, false, false, false, false, false, false] (by kernel_rfl) rfl rfl ⟨HQ.out.below, HQ.out.cells⟩ (fun hHeld => ?_)
                  refine pure_ (i := 0) (N := some 138) (v := ?_) (a' := ?_) #[true, false, false, false, false, false, false, false, false, false, false, false, false, false, false, false] rfl rfl (by kernel_rfl) (fun _ _ _ h => h) (Or.inl ⟨by rfl, ?_⟩) ?_ ?_
                  rotate_left
                  · intro w'
                    go_simp
                    with_reducible rfl
                  rotate_left
                  · simp only [Act.put, List.setIfInBounds_toArray, List.set_cons_zero, List.set_cons_succ, i64_w, i32_w]
                    rfl
                  refine pure_ (i := 1) (N := some 139) (v := ?_) (a' := ?_) #[true, true, false, false, false, false, false, false, false, false, false, false, false, false, false, false] rfl rfl (by kernel_rfl) (fun _ _ _ h => h) (Or.inl ⟨by rfl, ?_⟩) ?_ ?_
                  rotate_left
                  · intro w'
                    go_simp
                    with_reducible rfl
                  rotate_left
                  · simp only [Act.put, List.setIfInBounds_toArray, List.set_cons_zero, List.set_cons_succ, i64_w, i32_w]
                    rfl
                  refine pure_ (i := 2) (N := some 140) (v := ?_) (a' := ?_) #[true, true, true, false, false, false, false, false, false, false, false, false, false, false, false, false] rfl rfl (by kernel_rfl) (fun _ _ _ h => h) (Or.inl ⟨by rfl, ?_⟩) ?_ ?_
                  rotate_left
                  · intro w'
                    go_simp
                    with_reducible rfl
                  rotate_left
                  · simp only [Act.put, List.setIfInBounds_toArray, List.set_cons_zero, List.set_cons_succ, i64_w, i32_w]
                    rfl
                  refine pure_ (i := 3) (N := some 141) (v := ?_) (a' := ?_) #[true, true, true, true, false, false, false, false, false, false, false, false, false, false, false, false] rfl rfl (by kernel_rfl) (fun _ _ _ h => h) (Or.inl ⟨by rfl, ?_⟩) ?_ ?_
                  rotate_left
                  · intro w'
                    go_simp
                    with_reducible rfl
                  rotate_left
                  · simp only [Act.put, List.setIfInBounds_toArray, List.set_cons_zero, List.set_cons_succ, i64_w, i32_w]
                    rfl
                  refine pure_ (i := 4) (N := some 142) (v := ?_) (a' := ?_) #[true, true, true, true, true, false, false, false, false, false, false, false, false, false, false, false] rfl rfl (by kernel_rfl) (fun _ _ _ h => h) (Or.inl ⟨by rfl, ?_⟩) ?_ ?_
                  rotate_left
                  · intro w'
                    go_simp
                    with_reducible rfl
                  rotate_left
                  · simp only [Act.put, List.setIfInBounds_toArray, List.set_cons_zero, List.set_cons_succ, i64_w, i32_w]
                    rfl
                  refine take_ (i := 5) (N := some 143) (v := ?_) (a' := ?_) #[true, true, true, true, true, true, false, false, false, false, false, false, false, false, false, false] rfl rfl (by kernel_rfl) (fun _ _ _ h => h) (Or.inl ⟨by rfl, ?_⟩) hHeld ?_ ?_
                  rotate_left
                  · rintro w' hS
                    obtain ⟨y0, y1, y2⟩ := HS0.out w' hS.1
                    go_simp
                    with_reducible rfl
                  rotate_left
                  · simp only [Act.put, List.setIfInBounds_toArray, List.set_cons_zero, List.set_cons_succ, i64_w, i32_w]
                    rfl
                  refine take_ (i := 7) (N := some 145) (v := ?_) (a' := ?_) #[true, true, true, true, true, true, false, true, false, false, false, false, false, false, false, false] rfl rfl (by kernel_rfl) (fun _ _ _ h => h) (Or.inl ⟨by rfl, ?_⟩) hHeld ?_ ?_
                  rotate_left
                  · rintro w' hS
                    obtain ⟨y0, y1, y2, y3, y4, y5⟩ := c6 hS.2
                    go_simp
                    with_reducible rfl
                  rotate_left
                  · simp only [Act.put, List.setIfInBounds_toArray, List.set_cons_zero, List.set_cons_succ, i64_w, i32_w]
                    rfl
                  refine pure_ (i := 8) (N := some 146) (v := ?_) (a' := ?_) #[true, true, true, true, true, true, false, true, true, false, false, false, false, false, false, false] rfl rfl (by kernel_rfl) (fun _ _ _ h => h) (Or.inl ⟨by rfl, ?_⟩) ?_ ?_
                  rotate_left
                  · intro w'
                    go_simp
                    with_reducible rfl
                  rotate_left
                  · simp only [Act.put, List.setIfInBounds_toArray, List.set_cons_zero, List.set_cons_succ, i64_w, i32_w]
                    rfl
                  refine pure_ (i := 9) (N := some 147) (v := ?_) (a' := ?_) #[true, true, true, true, true, true, false, true, true, true, false, false, false, false, false, false] rfl rfl (by kernel_rfl) (fun _ _ _ h => h) (Or.inl ⟨by rfl, ?_⟩) ?_ ?_
                  rotate_left
                  · intro w'
                    go_simp
                    with_reducible rfl
                  rotate_left
                  · simp only [Act.put, List.setIfInBounds_toArray, List.set_cons_zero, List.set_cons_succ, i64_w, i32_w]
                    rfl
                  refine pure_ (i := 10) (N := some 148) (v := ?_) (a' := ?_) #[true, true, true, true, true, true, false, true, true, true, true, false, false, false, false, false] rfl rfl (by kernel_rfl) (fun _ _ _ h => h) (Or.inl ⟨by rfl, ?_⟩) ?_ ?_
                  rotate_left
                  · intro w'
                    go_simp
                    with_reducible rfl
                  rotate_left
                  · simp only [Act.put, List.setIfInBounds_toArray, List.set_cons_zero, List.set_cons_succ, i64_w, i32_w]
                    rfl
                  refine pure_ (i := 11) (N := some 149) (v := ?_) (a' := ?_) #[true, true, true, true, true, true, false, true, true, true, true, true, false, false, false, false] rfl rfl (by kernel_rfl) (fun _ _ _ h => h) (Or.inl ⟨by rfl, ?_⟩) ?_ ?_
                  rotate_left
                  · intro w'
                    go_simp
                    with_reducible rfl
                  rotate_left
                  · simp only [Act.put, List.setIfInBounds_toArray, List.set_cons_zero, List.set_cons_succ, i64_w, i32_w]
                    rfl
                  refine take_ (i := 12) (N := some 150) (v := ?_) (a' := ?_) #[true, true, true, true, true, true, false, true, true, true, true, true, true, false, false, false] rfl rfl (by kernel_rfl) (fun _ _ _ h => h) (Or.inl ⟨by rfl, ?_⟩) hHeld ?_ ?_
                  rotate_left
                  · rintro w' hS
                    obtain ⟨y0, y1, y2⟩ := HS0.out w' hS.1
                    go_simp
                    with_reducible rfl
                  rotate_left
                  · simp only [Act.put, List.setIfInBounds_toArray, List.set_cons_zero, List.set_cons_succ, i64_w, i32_w]
                    rfl
                  refine one_ (i := 6) (N := some 144) #[true, true, true, true, true, true, true, true, true, true, true, true, true, false, false, false] rfl rfl (by kernel_rfl) (by decide) (fun K hK => ?_)
                  refine goes_ (f := 11) Try.func11 (by kernel_rfl) rfl #[u6, .int .i64 x.f1] (by rfl) rfl rfl (by first | rfl | (simp [Act.eval]; done)) ?_
                  refine (LDO_After (stay_andB (stay_mvr _ _ _ _ _) _ _ _) HQ.out x.f1).mono ?_
                  rintro e w3 ⟨vd2, rfl, hq⟩
                  refine ⟨_, rfl, ?_⟩
                  have HQ2 := Aside0.mk hq
                  clear hq HQ
                  have HQ := HQ2
                  clear HQ2
                  refine hK.out _ _ ⟨HQ.out.below, HQ.out.cells⟩ (fun hHeld2 => ?_)
                  clear hK K hHeld
                  have hHeld := hHeld2
                  clear hHeld2
                  refine norm_ (a' := ?_) ?_ ?_
                  rotate_left
                  · show Act.put _ (some 144) _ = _
                    simp only [Act.put, List.setIfInBounds_toArray, List.set_cons_zero, List.set_cons_succ, i64_w, i32_w]
                    rfl
                  refine one_ (i := 13) (N := some 151) #[true, true, true, true, true, true, true, true, true, true, true, true, true, true, false, false] rfl rfl (by kernel_rfl) (by decide) (fun K hK => ?_)
                  refine goes_ (f := 19) Try.func19 (by kernel_rfl) rfl #[(.agg #[.bool m.nil, x1, x2, x3, x4, .int .i64 m.left]), .int .i64 x.f1] (by rfl) rfl rfl (by first | rfl | (simp [Act.eval]; done)) ?_
                  refine (LDO_made (Q := fun _ => True) HQ.out (m2 := roAfter od m x.f1) (ret := fun y1 y2 y3 y4 => .agg #[.bool (roAfter od m x.f1).nil, y1, y2, y3, y4, .int .i64 (roAfter od m x.f1).left]) (fun oq hmv => roAfter_calls HRel.out hmv x.f1)).mono ?_
                  rintro e w3 ⟨y1, y2, y3, y4, rfl, hq⟩
                  refine ⟨_, rfl, ?_⟩
                  have HQ2 := Aside0.mk hq
                  clear hq HQ
                  have HQ := HQ2
                  clear HQ2
                  refine hK.out _ _ ⟨HQ.out.below, HQ.out.cells⟩ (fun hHeld2 => ?_)
                  clear hK K hHeld
                  have hHeld := hHeld2
                  clear hHeld2
                  refine norm_ (a' := ?_) ?_ ?_
                  rotate_left
                  · show Act.put _ (some 151) _ = _
                    simp only [Act.put, List.setIfInBounds_toArray, List.set_cons_zero, List.set_cons_succ, i64_w, i32_w]
                    rfl
                  refine pure_ (i := 14) (N := some 6) (v := ?_) (a' := ?_) #[true, true, true, true, true, true, true, true, true, true, true, true, true, true, true, false] rfl rfl (by kernel_rfl) (fun _ _ _ h => h) (Or.inl ⟨by rfl, ?_⟩) ?_ ?_
                  rotate_left
                  · intro w'
                    go_simp
                    with_reducible rfl
                  rotate_left
                  · simp only [Act.put, List.setIfInBounds_toArray, List.set_cons_zero, List.set_cons_succ, i64_w, i32_w]
                    rfl
                  obtain ⟨oq, hmv⟩ := HQ.out.mvV
                  obtain ⟨w6, hst, hbox, hgr⟩ := store36' (n := (roAfter od m x.f1).nil) (l := (roAfter od m x.f1).left) HQ.out.cells hmv
                  refine last_ (i := 15) (N := none) #[true, true, true, true, true, true, true, true, true, true, true, true, true, true, true, true] rfl rfl (by kernel_rfl) (by decide) (fun K hK => ?_)
                  refine skip_ (w1 := w6) (by rfl) rfl ?_ ?_
                  · exact exec_store rfl rfl rfl hst
                  have HQ7 := Aside0.mk ((LDO.put (stay_andV (stay_mvr _ _ _ _ _) _ _ _ _ _) HQ.out hgr hbox).toNew1)
                  clear hst hbox hgr HQ hmv hHeld
                  refine hK.out _ _ ?_
                  clear hK K
                  refine done_ (by kernel_rfl) ?_
                  go_wp2
                  go_roundg (l0.length - (k2 + 1))
                  case measure => omega
                  case rel => exact ⟨k2 + 1, _, _, _, _, _, _, by have := HX.out.2; congr 1; unfold wrap64; omega, by omega, HRel2.out, (by rw [log_after]; exact Nat.zero_le _), HQ7.out⟩
                · skip
                  have b0 : (x.f0 == 0) = false := by first | exact beq_iff_eq.mpr e0 | exact beq_eq_false_iff_ne.mpr e0
                  have b1 : (x.f0 == 1) = false := by first | exact beq_iff_eq.mpr e1 | exact beq_eq_false_iff_ne.mpr e1
                  have b2 : (x.f0 == 2) = false := by first | exact beq_iff_eq.mpr e2 | exact beq_eq_false_iff_ne.mpr e2
                  have b3 : (x.f0 == 3) = false := by first | exact beq_iff_eq.mpr e3 | exact beq_eq_false_iff_ne.mpr e3
                  go_wp2_with (first | (go_at_call 14; obtain ⟨oq, hmv⟩ := HQ.out.mv; refine (same_calls (LDO_sames HQ.out HRel.out) hmv (rel_bounds' HRel.out).1).mono ?_; rintro e wz ⟨rfl, hb⟩; have HQ2 := Aside0.mk (LDO.step_below (stay_andB (stay_mvr _ _ _ _ _) _ _ _) HQ.out hb); clear hb HQ hmv q0 q1 q2 q3 q4 q5; have HQ := HQ2; clear HQ2; obtain ⟨q0, q1, q2, q3, q4, q5⟩ := c6 HQ.out.cells; obtain ⟨s0, s1, s2⟩ := HS0.out wz HQ.out.below))
                  have HRel2 := HRel
                  go_wp2
                  go_roundg (l0.length - (k2 + 1))
                  case measure => omega
                  case rel => exact ⟨k2 + 1, _, _, _, _, _, _, by have := HX.out.2; congr 1; unfold wrap64; omega, by omega, HRel2.out, Nat.le_succ_of_le HLog.out, HQ.out⟩
        · have hkb : decide ((k2 : Int) < (l0.length : Int)) = false := decide_eq_false (by omega)
          go_wp2_with (first | (go_at_call 14; obtain ⟨oq, hmv⟩ := HQ.out.mv; refine (same_calls (LDO_sames HQ.out HRel.out) hmv (rel_bounds' HRel.out).1).mono ?_; rintro e wz ⟨rfl, hb⟩; have HQ2 := Aside0.mk (LDO.step_below (stay_andB (stay_mvr _ _ _ _ _) _ _ _) HQ.out hb); clear hb HQ hmv q0 q1 q2 q3 q4 q5; have HQ := HQ2; clear HQ2; obtain ⟨q0, q1, q2, q3, q4, q5⟩ := c6 HQ.out.cells) | (go_at_call 7; refine (lives_after (w := w) HQ.out.below).mono ?_; rintro e wl ⟨rfl, hb⟩; have HB2 := Aside0.mk hb; clear hb))
          go_ret
          exact ⟨by first | rfl | (simp; done), HB2.out⟩
theorem DevicePlays_walk (n : Int) (A0 : Option Addr) (c0 : Nat) (l0 : List S28) (w : World) (hr0 : Kd.C k28 w A0 l0.length l0) (hc0 : l0.length ≤ c0) (hwf : ∀ x ∈ l0, x.f1 ≤ 9223372036854775807) : Calls Try.prog 4 #[.int .i64 n, .slice A0 l0.length c0] w (LawPost w true) := by
  by_cases h1 : n ≤ 16
  · by_cases h2 : (l0.length : Int) ≤ 40
    · exact Plays_main n A0 c0 l0 w hr0 hc0 h1 h2 hwf
    · exact Plays_big n A0 c0 l0 w hc0 (.inr (by omega))
  · exact Plays_big n A0 c0 l0 w hc0 (.inl (by omega))
end Go.Proofs.Ytfinlgckalbfoaa.PAll
