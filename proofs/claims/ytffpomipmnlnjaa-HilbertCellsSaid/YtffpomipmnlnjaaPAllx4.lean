-- Written by a program of this session (wip/tools), over the words that print.sh lays. (slim)
import Derived.Test.YtffpomipmnlnjaaPAllx0
import Derived.Test.YtffpomipmnlnjaaPAllx2
import Derived.Test.YtffpomipmnlnjaaPAllx3
namespace Go.Proofs.Ytffpomipmnlnjaa.PAll
open Go.RowKit Go.Proofs.YtffpomipmnlnjaaW.PrintWords Go.Proofs.YtffpomipmnlnjaaW.PrintLast Go.Proofs.YtffpomipmnlnjaaW.PrintMore
attribute [local go_sem] max2_int min2_int max_two min_two max_three min_three max_four min_four   -- for this text's walks alone
set_option linter.unusedVariables false
set_option linter.unusedSimpArgs false
attribute [local irreducible] Calls

/-! ### hilbert_Index: function 8 -/
def hilbert_Index.l0 : Nat → Int → Int → Int → Int → Option Int
 | 0, _, _, _, _ => none
 | k + 1, x, y, n, s => if s = 0 then none else ((hilbert_quarter.f (wrap64 (Int.tdiv x s)) (wrap64 (Int.tdiv y s))).bind fun q =>
  if q = 0 then (if wrap64 (Int.tdiv s 2) > 0 then hilbert_Index.l0 k y x (wrap64 (wrap64 (4 * n) + q)) (wrap64 (Int.tdiv s 2)) else some (wrap64 (wrap64 (4 * n) + q)))
  else (if q = 1 then (if wrap64 (Int.tdiv s 2) > 0 then hilbert_Index.l0 k x (wrap64 (y - s)) (wrap64 (wrap64 (4 * n) + q)) (wrap64 (Int.tdiv s 2)) else some (wrap64 (wrap64 (4 * n) + q)))
  else (if q = 2 then (if wrap64 (Int.tdiv s 2) > 0 then hilbert_Index.l0 k (wrap64 (x - s)) (wrap64 (y - s)) (wrap64 (wrap64 (4 * n) + q)) (wrap64 (Int.tdiv s 2)) else some (wrap64 (wrap64 (4 * n) + q)))
  else (if wrap64 (Int.tdiv s 2) > 0 then hilbert_Index.l0 k (wrap64 (wrap64 (s - 1) - y)) (wrap64 (wrap64 (wrap64 (2 * s) - 1) - x)) (wrap64 (wrap64 (4 * n) + q)) (wrap64 (Int.tdiv s 2)) else some (wrap64 (wrap64 (4 * n) + q))))))
def hilbert_Index.f (k : Nat) (a0_0 a0_1 : Int) : Option Int := (grid_Valid.f a0_0 a0_1).bind fun t => if t = true then hilbert_Index.l0 k a0_0 a0_1 0 16384 else some (-1)
theorem hilbert_Index.mono_l : ∀ k x y n s, LeO (hilbert_Index.l0 k x y n s) (hilbert_Index.l0 (k + 1) x y n s)
 | 0, _, _, _, _ => LeO.none _
 | k + 1, x, y, n, s => by
  rw [hilbert_Index.l0, hilbert_Index.l0]
  repeat' first
   | exact hilbert_Index.mono_l k _ _ _ _
   | exact LeO.refl _
   | refine LeO.ite ?_ ?_
   | refine LeO.bind ?_ (fun _ => ?_)
theorem hilbert_Index.mono : ∀ a0_0 a0_1 k, LeO (hilbert_Index.f k a0_0 a0_1) (hilbert_Index.f (k + 1) a0_0 a0_1) := by
 intro a0_0 a0_1 k
 unfold hilbert_Index.f
 refine LeO.bind (LeO.refl _) (fun _ => LeO.ite ?_ (LeO.refl _))
 exact hilbert_Index.mono_l k _ _ _ _
def hilbert_Index.side : Value → Nat | .int _ q => q.toNat | _ => 0
set_option maxHeartbeats 4000000 in
set_option maxRecDepth 1000000 in
theorem hilbert_Index.calls (k : Nat) (a0_0 a0_1 : Int) (r : Int) (w : World) (h : hilbert_Index.f k a0_0 a0_1 = some r) :
  Calls Try.prog 8 #[.agg #[.int .i64 a0_0, .int .i64 a0_1]] w fun e w' => e = .returned (.int .i64 r) ∧ Below w.heap.size w w' := by
 unfold hilbert_Index.f at h
 obtain ⟨t, ht, H⟩ := Option.bind_eq_some_iff.1 h
 clear h
 have hu := Try.underlying23
 have HB := Aside0.mk (Below.refl w.heap.size w)
 go_enter Try.func8, Try.ntmps8
 go_wp2_with (first | ((with_reducible refine gate_dst (N := 1) rfl ?_); refine box_event ?hg (N := 1) ?hd (cs := #[.int .i64 a0_0, .int .i64 a0_1]) (t := 23) ?hr ?_; (case hd => rfl); (case hg => rfl); (case hr => first | (go_simp; done) | (go_simp; rfl)); intro g1 hg w2 hbox hb; have n0_ := Aside0.mk (below_step HB.out hb); have BK := Aside0.mk hbox; clear HB; have HB := n0_; clear n0_ hb hbox hg; have hcz_0 : w2.cell? ⟨g1, 0, none⟩ = some (.int .i64 a0_0) := (blk_cell BK.out 0).trans rfl; have hcz_1 : w2.cell? ⟨g1, 1, none⟩ = some (.int .i64 a0_1) := (blk_cell BK.out 1).trans rfl; have hfz_0 := blk_frozen BK.out 0; have hfz_1 := blk_frozen BK.out 1))
 refine wp_scope_jumps 0 (fun a' w' => Below w.heap.size w w' ∧ ∃ (k : Nat) (x y n s : Int) (u0 u1 u2 u7 u8 u9 u10 u11 u12 u13 u14 u15 u16 u17 u18 u19 u20 u21 u22 u23 u24 u25 u26 u27 u28 u29 u30 u31 u32 u33 u34 u35 u36 u37 u38 u39 u40 u41 u42 u43 u44 u45 u46 u47 u48 u49 u50 u51 u52 u53 u54 u55 u56 u57 u58 u59 : Value), a' = { tmps := #[u0, u1, u2, .int .i64 x, .int .i64 y, .int .i64 n, .int .i64 s, u7, u8, u9, u10, u11, u12, u13, u14, u15, u16, u17, u18, u19, u20, u21, u22, u23, u24, u25, u26, u27, u28, u29, u30, u31, u32, u33, u34, u35, u36, u37, u38, u39, u40, u41, u42, u43, u44, u45, u46, u47, u48, u49, u50, u51, u52, u53, u54, u55, u56, u57, u58, u59], defers := [] } ∧ hilbert_Index.l0 k x y n s = some r ∧ 0 < s ∧ s ≤ 16384) (fun a' _ => hilbert_Index.side (a'.tmps.getD 6 undef)) rfl ?_ ?_
 ·by_cases ct : t = true
  ·subst ct
   rw [if_pos rfl] at H
   go_wp2_with (first
    | (go_at_call 13; (with_reducible refine (grid_Valid.calls a0_0 a0_1 true _ ht).mono ?_); rintro e w3 ⟨rfl, hb⟩; have n0_ := Aside0.mk (below_step HB.out hb); have n1_ := Aside0.mk (blk_below BK.out hb); clear HB BK hcz_0 hcz_1 hfz_0 hfz_1; have HB := n0_; have BK := n1_; clear n0_ n1_ hb; have hcz_0 : w3.cell? ⟨g1, 0, none⟩ = some (.int .i64 a0_0) := (blk_cell BK.out 0).trans rfl; have hcz_1 : w3.cell? ⟨g1, 1, none⟩ = some (.int .i64 a0_1) := (blk_cell BK.out 1).trans rfl; have hfz_0 := blk_frozen BK.out 0; have hfz_1 := blk_frozen BK.out 1))
   go_quiet (fail)
   have HW := Aside0.mk (show Below w.heap.size w (w3.drewN nq) by repeat (first | exact HB.out | apply pw_below_drewN | apply below_drew1))
   clear HB BK hcz_0 hcz_1 hfz_0 hfz_1
   generalize w3.drewN nq = W at HW ⊢
   clear nq
   have HB := HW
   clear HW
   go_wp2
   cases k with
   | zero => simp [hilbert_Index.l0] at H
   | succ k =>
    rw [hilbert_Index.l0, if_neg (show ¬ (16384 : Int) = 0 by decide)] at H
    obtain ⟨q, hq, H⟩ := Option.bind_eq_some_iff.1 H
    have hq4 : q = 0 ∨ q = 1 ∨ q = 2 ∨ q = 3 := by unfold hilbert_quarter.f at hq; (repeat' split at hq) <;> simp at hq <;> omega
    rw [show wrap64 (Int.tdiv 16384 2) = 8192 by decide +kernel] at H
    go_step3
    go_wp2
    go_quiet (first | (go_at_call 14; exact Calls.quiet_of_same (hilbert_quarter.calls _ _ q _ hq)))
    rcases hq4 with rfl | hq4
    ·simp only [if_true, if_false, Int.reduceEq, reduceCtorEq] at H
     rw [if_pos (show (8192 : Int) > 0 by decide)] at H
     rw [show wrap64 (wrap64 (4 * 0) + 0) = 0 by decide +kernel] at H
     skip
     go_wp2
     go_step3
     refine ⟨rfl, by repeat (first | exact HB.out | apply pw_below_drewN | apply below_drew1), k, _, _, _, _, _, _, _, _, _, _, _, _, _, _, _, _, _, _, _, _, _, _, _, _, _, _, _, _, _, _, _, _, _, _, _, _, _, _, _, _, _, _, _, _, _, _, _, _, _, _, _, _, _, _, _, _, _, _, _, _, rfl, by first | exact H | simpa using H, by decide, by decide⟩
    rcases hq4 with rfl | hq4
    ·simp only [if_true, if_false, Int.reduceEq, reduceCtorEq] at H
     rw [if_pos (show (8192 : Int) > 0 by decide)] at H
     rw [show wrap64 (wrap64 (4 * 0) + 1) = 1 by decide +kernel] at H
     skip
     go_wp2
     go_step3
     refine ⟨rfl, by repeat (first | exact HB.out | apply pw_below_drewN | apply below_drew1), k, _, _, _, _, _, _, _, _, _, _, _, _, _, _, _, _, _, _, _, _, _, _, _, _, _, _, _, _, _, _, _, _, _, _, _, _, _, _, _, _, _, _, _, _, _, _, _, _, _, _, _, _, _, _, _, _, _, _, _, _, rfl, by first | exact H | simpa using H, by decide, by decide⟩
    rcases hq4 with rfl | hq4
    ·simp only [if_true, if_false, Int.reduceEq, reduceCtorEq] at H
     rw [if_pos (show (8192 : Int) > 0 by decide)] at H
     rw [show wrap64 (wrap64 (4 * 0) + 2) = 2 by decide +kernel] at H
     skip
     go_wp2
     go_step3
     refine ⟨rfl, by repeat (first | exact HB.out | apply pw_below_drewN | apply below_drew1), k, _, _, _, _, _, _, _, _, _, _, _, _, _, _, _, _, _, _, _, _, _, _, _, _, _, _, _, _, _, _, _, _, _, _, _, _, _, _, _, _, _, _, _, _, _, _, _, _, _, _, _, _, _, _, _, _, _, _, _, _, rfl, by first | exact H | simpa using H, by decide, by decide⟩
    subst hq4
    simp only [if_true, if_false, Int.reduceEq, reduceCtorEq] at H
    rw [if_pos (show (8192 : Int) > 0 by decide)] at H
    rw [show wrap64 (wrap64 (4 * 0) + 3) = 3 by decide +kernel] at H
    rw [show wrap64 (16384 - 1) = 16383 by decide +kernel, show wrap64 (wrap64 (2 * 16384) - 1) = 32767 by decide +kernel] at H
    go_wp2
    go_step3
    refine ⟨rfl, by repeat (first | exact HB.out | apply pw_below_drewN | apply below_drew1), k, _, _, _, _, _, _, _, _, _, _, _, _, _, _, _, _, _, _, _, _, _, _, _, _, _, _, _, _, _, _, _, _, _, _, _, _, _, _, _, _, _, _, _, _, _, _, _, _, _, _, _, _, _, _, _, _, _, _, _, _, rfl, by first | exact H | simpa using H, by decide, by decide⟩
  ·rw [if_neg ct] at H
   have ct' : t = false := by simpa using ct
   subst ct'
   obtain rfl := Option.some.inj H
   go_wp2_with (go_at_call 13; (with_reducible refine (grid_Valid.calls a0_0 a0_1 false _ ht).mono ?_); rintro e w3 ⟨rfl, hb⟩; have n0_ := Aside0.mk (below_step HB.out hb); clear HB; have HB := n0_; clear n0_ hb)
   simp only [Exit.jump]
   go_ret
   exact ⟨by first | rfl | simp, HB.out⟩
 ·rintro a' w1 ⟨hb1, k, x, y, n, s, u0, u1, u2, u7, u8, u9, u10, u11, u12, u13, u14, u15, u16, u17, u18, u19, u20, u21, u22, u23, u24, u25, u26, u27, u28, u29, u30, u31, u32, u33, u34, u35, u36, u37, u38, u39, u40, u41, u42, u43, u44, u45, u46, u47, u48, u49, u50, u51, u52, u53, u54, u55, u56, u57, u58, u59, rfl, H, hs, hs'⟩
  cases k with
  | zero => simp [hilbert_Index.l0] at H
  | succ k =>
   rw [hilbert_Index.l0] at H
   rw [if_neg (show ¬ s = 0 by omega)] at H
   obtain ⟨q, hq, H⟩ := Option.bind_eq_some_iff.1 H
   have hs1 : ¬ s = 0 := by omega
   have hs2 : (s == 0) = false := by simpa using hs1
   have hq4 : q = 0 ∨ q = 1 ∨ q = 2 ∨ q = 3 := by unfold hilbert_quarter.f at hq; (repeat' split at hq) <;> simp at hq <;> omega
   have hh : wrap64 (Int.tdiv s 2) = s / 2 := by rw [Int.tdiv_eq_ediv_of_nonneg (by omega)]; unfold wrap64; omega
   rw [hh] at H
   go_wp2
   go_quiet (first | (go_at_call 14; exact Calls.quiet_of_same (hilbert_quarter.calls _ _ q _ hq)))
   rcases hq4 with rfl | hq4
   ·simp only [if_true, if_false, Int.reduceEq, reduceCtorEq] at H
    have e1 : wrap64 (s - 1) = s - 1 := by unfold wrap64; omega
    have e2 : wrap64 (2 * s) = 2 * s := by unfold wrap64; omega
    have e3 : wrap64 (2 * s - 1) = 2 * s - 1 := by unfold wrap64; omega
    clear e1 e2 e3
    by_cases c : s / 2 > 0
    ·rw [if_pos c] at H
     go_wp2
     go_step3
     refine ⟨rfl, ⟨by repeat (first | exact hb1 | apply pw_below_drewN | apply below_drew1), k, _, _, _, _, _, _, _, _, _, _, _, _, _, _, _, _, _, _, _, _, _, _, _, _, _, _, _, _, _, _, _, _, _, _, _, _, _, _, _, _, _, _, _, _, _, _, _, _, _, _, _, _, _, _, _, _, _, _, _, _, rfl, by first | exact H | simpa using H, by omega, by omega⟩, ?_⟩
     show (s / 2).toNat < s.toNat
     omega
    ·rw [if_neg c] at H
     obtain rfl := Option.some.inj H
     go_wp2
     simp only [Exit.jump]
     go_ret
     exact ⟨by first | rfl | simp, by repeat (first | exact hb1 | apply pw_below_drewN | apply below_drew1)⟩
   rcases hq4 with rfl | hq4
   ·simp only [if_true, if_false, Int.reduceEq, reduceCtorEq] at H
    have e1 : wrap64 (s - 1) = s - 1 := by unfold wrap64; omega
    have e2 : wrap64 (2 * s) = 2 * s := by unfold wrap64; omega
    have e3 : wrap64 (2 * s - 1) = 2 * s - 1 := by unfold wrap64; omega
    clear e1 e2 e3
    by_cases c : s / 2 > 0
    ·rw [if_pos c] at H
     go_wp2
     go_step3
     refine ⟨rfl, ⟨by repeat (first | exact hb1 | apply pw_below_drewN | apply below_drew1), k, _, _, _, _, _, _, _, _, _, _, _, _, _, _, _, _, _, _, _, _, _, _, _, _, _, _, _, _, _, _, _, _, _, _, _, _, _, _, _, _, _, _, _, _, _, _, _, _, _, _, _, _, _, _, _, _, _, _, _, _, rfl, by first | exact H | simpa using H, by omega, by omega⟩, ?_⟩
     show (s / 2).toNat < s.toNat
     omega
    ·rw [if_neg c] at H
     obtain rfl := Option.some.inj H
     go_wp2
     simp only [Exit.jump]
     go_ret
     exact ⟨by first | rfl | simp, by repeat (first | exact hb1 | apply pw_below_drewN | apply below_drew1)⟩
   rcases hq4 with rfl | hq4
   ·simp only [if_true, if_false, Int.reduceEq, reduceCtorEq] at H
    have e1 : wrap64 (s - 1) = s - 1 := by unfold wrap64; omega
    have e2 : wrap64 (2 * s) = 2 * s := by unfold wrap64; omega
    have e3 : wrap64 (2 * s - 1) = 2 * s - 1 := by unfold wrap64; omega
    clear e1 e2 e3
    by_cases c : s / 2 > 0
    ·rw [if_pos c] at H
     go_wp2
     go_step3
     refine ⟨rfl, ⟨by repeat (first | exact hb1 | apply pw_below_drewN | apply below_drew1), k, _, _, _, _, _, _, _, _, _, _, _, _, _, _, _, _, _, _, _, _, _, _, _, _, _, _, _, _, _, _, _, _, _, _, _, _, _, _, _, _, _, _, _, _, _, _, _, _, _, _, _, _, _, _, _, _, _, _, _, _, rfl, by first | exact H | simpa using H, by omega, by omega⟩, ?_⟩
     show (s / 2).toNat < s.toNat
     omega
    ·rw [if_neg c] at H
     obtain rfl := Option.some.inj H
     go_wp2
     simp only [Exit.jump]
     go_ret
     exact ⟨by first | rfl | simp, by repeat (first | exact hb1 | apply pw_below_drewN | apply below_drew1)⟩
   subst hq4
   simp only [if_true, if_false, Int.reduceEq, reduceCtorEq] at H
   have e1 : wrap64 (s - 1) = s - 1 := by unfold wrap64; omega
   have e2 : wrap64 (2 * s) = 2 * s := by unfold wrap64; omega
   have e3 : wrap64 (2 * s - 1) = 2 * s - 1 := by unfold wrap64; omega
   simp only [e1, e2, e3] at H
   by_cases c : s / 2 > 0
   ·rw [if_pos c] at H
    go_wp2
    go_step3
    refine ⟨rfl, ⟨by repeat (first | exact hb1 | apply pw_below_drewN | apply below_drew1), k, _, _, _, _, _, _, _, _, _, _, _, _, _, _, _, _, _, _, _, _, _, _, _, _, _, _, _, _, _, _, _, _, _, _, _, _, _, _, _, _, _, _, _, _, _, _, _, _, _, _, _, _, _, _, _, _, _, _, _, _, rfl, by first | exact H | simpa using H, by omega, by omega⟩, ?_⟩
    show (s / 2).toNat < s.toNat
    omega
   ·rw [if_neg c] at H
    obtain rfl := Option.some.inj H
    go_wp2
    simp only [Exit.jump]
    go_ret
    exact ⟨by first | rfl | simp, by repeat (first | exact hb1 | apply pw_below_drewN | apply below_drew1)⟩

end Go.Proofs.Ytffpomipmnlnjaa.PAll
