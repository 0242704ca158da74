import Derived.Test.YtggafoldccikdaaPAllx0
import Derived.Test.YtggafoldccikdaaPAllx1
namespace Go.Proofs.Ytggafoldccikdaa.PAll
open Go.RowKit Go.Proofs.YtggafoldccikdaaW.PrintWords Go.Proofs.YtggafoldccikdaaW.PrintLast Go.Proofs.YtggafoldccikdaaW.PrintMore
attribute [local go_sem] max2_int min2_int max_two min_two max_three min_three max_four min_four
set_option linter.unusedVariables false
set_option linter.unusedSimpArgs false
attribute [local irreducible] Calls

/-! ### poly_Segs: function 15 -/
theorem poly_eqA30 (d : Nat) (w : World) (x0 y0 : Int) (x1 y1 : Int) : (Op.equalIn (d + 2) 30 (.agg #[.int .i64 x0, .int .i64 x1]) (.agg #[.int .i64 y0, .int .i64 y1])).run Try.prog w = .ok (x0 == y0 && (x1 == y1)) w := by
 refine eqA_of Try.underlying30 (by kernel_rfl) ?_
 refine eqf_cons (by rfl) (by go_simp; rfl) (by go_simp; rfl) (by go_simp) ?_
 exact eqf_last (by rfl) (by go_simp; rfl) (by go_simp; rfl) (by go_simp)
def segOne (p q : S30) : Option (S45) := (seg_Of.f p.f0 p.f1 q.f0 q.f1).map fun z => ⟨⟨z.1, z.2.1⟩, ⟨z.2.2.1, z.2.2.2⟩⟩
def segsUpto (l : List (S30)) : Nat → Option (List (S45))
 | 0 => some []
 | i + 1 => (segsUpto l i).bind fun xs => if ((rd_T30 l i).f0 == (rd_T30 l ((i + 1) % l.length : Nat)).f0 && (rd_T30 l i).f1 == (rd_T30 l ((i + 1) % l.length : Nat)).f1) = true then some xs else (segOne (rd_T30 l i) (rd_T30 l ((i + 1) % l.length : Nat))).map fun z => xs ++ [z]
/-- The row in the box g. -/
def SegBox (w0 w : World) (g : Nat) (xs : List (S45)) : Prop := ∃ A c, w.heap[g]? = some (.cells #[.slice A xs.length c] 27 (0, 0)) ∧ Kd.R k45 45 w w0.heap.size (fun _ => True) (.slice A xs.length c) xs ∧ Below w0.heap.size w0 w
theorem SegBox.step {w0 w w' : World} {g : Nat} {xs : List (S45)} (h : SegBox w0 w g xs) (hb : Below w.heap.size w w') : SegBox w0 w' g xs := by
 obtain ⟨A, c, h1, h2, h3⟩ := h
 exact ⟨A, c, blk_below h1 hb, Kd.R_below h2 hb, below_step h3 hb⟩
set_option maxHeartbeats 8000000 in
set_option maxRecDepth 100000 in
theorem poly_seg1_same (a b : Int) (g : Nat) (w : World) :
  Calls Try.prog 34 #[.agg #[.int .i64 a, .int .i64 b], .agg #[.int .i64 a, .int .i64 b], .pointer (some ⟨g, 0, none⟩)] w fun e w' => e = .returned (.bool true) ∧ Below w.heap.size w w' := by
 have heq := poly_eqA30
 go_enter Try.func34, Try.ntmps34
 go_wp2_with (first
  | ((with_reducible refine gate_dst (N := 3) rfl ?_); refine box_event ?hgg1 (N := 3) ?hdg1 (cs := #[.int .i64 a, .int .i64 b]) (t := 30) ?hrg1 ?_; (case hdg1 => rfl); (case hgg1 => rfl); (case hrg1 => first | (go_simp; done) | (go_simp; rfl)); intro g1 hg_ w1 hbox_ hb_; have HB1 := Aside0.mk hb_; have BK1 := Aside0.mk hbox_; clear hbox_ hb_ hg_)
  | ((with_reducible refine gate_dst (N := 4) rfl ?_); refine box_event ?hgg2 (N := 4) ?hdg2 (cs := #[.int .i64 a, .int .i64 b]) (t := 30) ?hrg2 ?_; (case hdg2 => rfl); (case hgg2 => rfl); (case hrg2 => first | (go_simp; done) | (go_simp; rfl)); intro g2 hg_ w2 hbox_ hb_; have HB2 := Aside0.mk (below_step HB1.out hb_); have e0 := (blk_cell (blk_below BK1.out hb_) 0).trans rfl; have e1 := (blk_cell (blk_below BK1.out hb_) 1).trans rfl; have e2 := (blk_cell hbox_ 0).trans rfl; have e3 := (blk_cell hbox_ 1).trans rfl; clear hbox_ hb_ hg_))
 go_ret
 exact ⟨by first | rfl | (simp; done), HB2.out⟩
set_option maxHeartbeats 8000000 in
set_option maxRecDepth 100000 in
theorem poly_seg1 (a b c d : Int) (z : S45) (xs : List (S45)) (g : Nat) (w0 w : World) (hne : (a == c && b == d) = false) (hz : segOne ⟨a, b⟩ ⟨c, d⟩ = some z) (hg : w0.heap.size ≤ g) (hlen : xs.length ≤ 1000000) (hS : SegBox w0 w g xs) :
  Calls Try.prog 34 #[.agg #[.int .i64 a, .int .i64 b], .agg #[.int .i64 c, .int .i64 d], .pointer (some ⟨g, 0, none⟩)] w fun e w' => e = .returned (.bool true) ∧ SegBox w0 w' g (xs ++ [z]) := by
 obtain ⟨⟨s1, s2, s3, s4⟩, hs, rfl⟩ := Option.map_eq_some_iff.1 hz
 have HOf := Aside0.mk (fun w2 => seg_Of.calls a b c d s1 s2 s3 s4 w2 hs)
 clear hz hs
 have HNe := Aside0.mk hne
 have HG := Aside0.mk hg
 have HLen := Aside0.mk hlen
 have HS := Aside0.mk hS
 clear hg hlen hS
 have heq := poly_eqA30
 go_enter Try.func34, Try.ntmps34
 go_wp2_with (first
  | ((with_reducible refine gate_dst (N := 3) rfl ?_); refine box_event ?hgg1 (N := 3) ?hdg1 (cs := #[.int .i64 a, .int .i64 b]) (t := 30) ?hrg1 ?_; (case hdg1 => rfl); (case hgg1 => rfl); (case hrg1 => first | (go_simp; done) | (go_simp; rfl)); intro g1 hg_ w1 hbox_ hb_; have HS1 := Aside0.mk (HS.out.step hb_); have BK1 := Aside0.mk hbox_; clear hbox_ hb_ hg_)
  | ((with_reducible refine gate_dst (N := 4) rfl ?_); refine box_event ?hgg2 (N := 4) ?hdg2 (cs := #[.int .i64 c, .int .i64 d]) (t := 30) ?hrg2 ?_; (case hdg2 => rfl); (case hgg2 => rfl); (case hrg2 => first | (go_simp; done) | (go_simp; rfl)); intro g2 hg_ w2 hbox_ hb_; have HS2 := Aside0.mk (HS1.out.step hb_); have BK1b := Aside0.mk (blk_below BK1.out hb_); have BK2 := Aside0.mk hbox_; have e0 := (blk_cell BK1b.out 0).trans rfl; have e1 := (blk_cell BK1b.out 1).trans rfl; have e2 := (blk_cell hbox_ 0).trans rfl; have e3 := (blk_cell hbox_ 1).trans rfl; clear hbox_ hb_ hg_))
 clear e0 e1 e2 e3 hne
 have n1_ := Aside0.mk (HS2.out.step (below_drew (Below.refl _ _)))
 have n2_ := Aside0.mk (blk_drew BK1b.out)
 have n3_ := Aside0.mk (blk_drew BK2.out)
 clear HS2 BK1b BK2
 have HS2 := n1_; have BK1 := n2_; have BK2 := n3_
 clear n1_ n2_ n3_
 refine start_ (n := 7) (S := fun w' => Below w2.drew.heap.size w2.drew w') (ds := [5, 6]) #[F, F, F, F, F, F, F] (by kernel_rfl) rfl rfl (Below.refl _ _) (fun hHeld => ?_)
 generalize w2.drew = wq at HS2 BK1 BK2 hHeld ⊢
 obtain ⟨A, c0, hc, hr, hb⟩ := HS2.out
 have HC := Aside0.mk hc
 have HR := Aside0.mk hr
 have HB := Aside0.mk hb
 clear hc hr hb
 refine take_ (i := 0) (N := some 9) (v := ?_) (a' := ?_) #[T, F, F, F, F, F, F] rfl rfl (by kernel_rfl) (fun _ _ _ h => h) (Or.inl ⟨by rfl, ?_⟩) hHeld ?_ ?_
 rotate_left
 ·rintro w' hS
  have y0 := (blk_cell (blk_below HC.out hS) 0).trans rfl
  go_simp
  with_reducible rfl
 rotate_left
 ·simp only [Act.put, List.setIfInBounds_toArray, List.set_cons_zero, List.set_cons_succ, i64_w, i32_w]
  rfl
 refine take_ (i := 1) (N := some 10) (v := ?_) (a' := ?_) #[T, T, F, F, F, F, F] rfl rfl (by kernel_rfl) (fun _ _ _ h => h) (Or.inl ⟨by rfl, ?_⟩) hHeld ?_ ?_
 rotate_left
 ·rintro w' hS
  have y0 := (blk_cell (blk_below BK1.out hS) 0).trans rfl; have y1 := (blk_cell (blk_below BK1.out hS) 1).trans rfl
  go_simp
  with_reducible rfl
 rotate_left
 ·simp only [Act.put, List.setIfInBounds_toArray, List.set_cons_zero, List.set_cons_succ, i64_w, i32_w]
  rfl
 refine take_ (i := 2) (N := some 11) (v := ?_) (a' := ?_) #[T, T, T, F, F, F, F] rfl rfl (by kernel_rfl) (fun _ _ _ h => h) (Or.inl ⟨by rfl, ?_⟩) hHeld ?_ ?_
 rotate_left
 ·rintro w' hS
  have y0 := (blk_cell (blk_below BK2.out hS) 0).trans rfl; have y1 := (blk_cell (blk_below BK2.out hS) 1).trans rfl
  go_simp
  with_reducible rfl
 rotate_left
 ·simp only [Act.put, List.setIfInBounds_toArray, List.set_cons_zero, List.set_cons_succ, i64_w, i32_w]
  rfl
 refine one_ (i := 3) (N := some 12) #[T, T, T, T, F, F, F] rfl rfl (by kernel_rfl) (by decide) (fun K hK => ?_)
 refine call_ 35 #[.agg #[.int .i64 a, .int .i64 b], .agg #[.int .i64 c, .int .i64 d]] rfl rfl ?hrun1 ?_
 case hrun1 => first | rfl | (go_simp; done) | (go_simp; rfl)
 refine (HOf.out _).mono ?_
 rintro e wa ⟨rfl, hS⟩
 refine ⟨_, rfl, ?_⟩
 have n1_ := Aside0.mk (blk_below HC.out hS)
 have n2_ := Aside0.mk (Kd.R_below HR.out hS)
 have n3_ := Aside0.mk (below_step HB.out hS)
 clear HC HR HB
 have HC := n1_; have HR := n2_; have HB := n3_
 clear n1_ n2_ n3_ hHeld
 refine hK.out _ _ hS (fun hHeld => ?_)
 clear hK K
 refine norm_ (a' := ?_) ?_ ?_
 rotate_left
 ·show Act.put _ (some 12) _ = _
  simp only [Act.put, List.setIfInBounds_toArray, List.set_cons_zero, List.set_cons_succ, i64_w, i32_w]
  rfl
 refine one_ (i := 4) (N := some 13) #[T, T, T, T, T, F, F] rfl rfl (by kernel_rfl) (by decide) (fun K hK => ?_)
 refine value_ (v := .slice (some ⟨wa.heap.size, 0, none⟩) 1 1) (w1 := wa.alloc (.cells #[.int .i64 s1, .int .i64 s2, .int .i64 s3, .int .i64 s4] 45 (0, 0))) (by rfl) rfl ?_ ?_
 ·go_simp
 refine hK.out _ _ (below_step hHeld (below_alloc (Below.refl _ _) _)) (fun hHeld2 => ?_)
 clear hK K
 refine norm_ (a' := ?_) ?_ ?_
 rotate_left
 ·show Act.put _ (some 13) _ = _
  simp only [Act.put, List.setIfInBounds_toArray, List.set_cons_zero, List.set_cons_succ, i64_w, i32_w]
  rfl
 refine last_ (i := 5) (N := some 14) #[T, T, T, T, T, T, F] rfl rfl (by kernel_rfl) (by decide) (fun K hK => ?_)
 refine Kd.R_append_step k45 (w0 := w0) w0.heap.size (by rfl) (.tmp 9) (.tmp 13) 27 45 (.agg #[(.int .i64 0), (.int .i64 0), (.int .i64 0), (.int .i64 0)]) 32 rfl Try.underlying27 info45 rfl (by decide) (by omega) (.slice A xs.length c0) xs (⟨⟨s1, s2⟩, ⟨s3, s4⟩⟩ : S45) [.int .i64 s1, .int .i64 s2, .int .i64 s3, .int .i64 s4] (fun _ => True) (fun _ => False) rfl rfl (k45_mkM _ _ _ (⟨⟨s1, s2⟩, ⟨s3, s4⟩⟩ : S45)) (fun _ hk => hk.elim) (fun _ _ => trivial) HR.out HB.out HB.out.size (by have := HLen.out; omega) ?_
 intro v5 w5 ho5 hb5 hg5 hat5
 obtain ⟨A5, c5, e5⟩ := Kd.R_slice ho5
 subst e5
 have HC5 := Aside0.mk (blk_grown HC.out hg5 (Kd.R_ne HR.out HC.out (by decide)))
 have HR5 := Aside0.mk ho5
 have HB5 := Aside0.mk hb5
 clear ho5 hb5 hg5 hat5 hHeld hHeld2
 refine hK.out _ _ ?_
 clear hK K
 refine norm_ (a' := ?_) ?_ ?_
 rotate_left
 ·show Act.put _ (some 14) _ = _
  simp only [Act.put, List.setIfInBounds_toArray, List.set_cons_zero, List.set_cons_succ, i64_w, i32_w]
  rfl
 refine last_ (i := 6) (N := none) #[T, T, T, T, T, T, T] rfl rfl (by kernel_rfl) (by decide) (fun K hK => ?_)
 have y0 := (blk_cell HC5.out 0).trans rfl
 have y1 := blk_frozen HC5.out 0
 refine skip_ (w1 := w5.setCell ⟨g, 0, none⟩ (.slice A5 (xs ++ [(⟨⟨s1, s2⟩, ⟨s3, s4⟩⟩ : S45)]).length c5)) (by rfl) rfl ?_ ?_
 ·first | (go_simp; done) | (go_simp; rfl)
 have HS6 := Aside0.mk (show SegBox w0 (w5.setCell ⟨g, 0, none⟩ (.slice A5 (xs ++ [(⟨⟨s1, s2⟩, ⟨s3, s4⟩⟩ : S45)]).length c5)) g (xs ++ [(⟨⟨s1, s2⟩, ⟨s3, s4⟩⟩ : S45)]) from ⟨A5, c5, blk_set HC5.out 0 _, Kd.R_mono (Kd.R_far (p := ⟨g, 0, none⟩) (Kd.R_types HR5.out HC5.out (by decide)) (fun _ hk => hk.2) _) (fun _ _ => trivial), below_set HB5.out HG.out⟩)
 clear y0 y1
 refine hK.out _ _ ?_
 clear hK K
 refine done_ (by kernel_rfl) ?_

 generalize (w5.setCell ⟨g, 0, none⟩ (.slice A5 (xs ++ [(⟨⟨s1, s2⟩, ⟨s3, s4⟩⟩ : S45)]).length c5)) = w6 at HS6 ⊢
 go_wp2
 go_ret
 exact ⟨by first | rfl | (simp; done), HS6.out⟩
theorem upto_some {l : List (S30)} {r : List (S45)} : ∀ {n : Nat}, segsUpto l n = some r → ∀ {i : Nat}, i ≤ n → ∃ ys, segsUpto l i = some ys := by
 intro n
 induction n generalizing r with
 | zero =>
  intro h i hi
  obtain rfl : i = 0 := by omega
  exact ⟨_, h⟩
 | succ n ih =>
  intro h i hi
  by_cases e : i = n + 1
  ·rw [e]
   exact ⟨_, h⟩
  ·rw [segsUpto] at h
   obtain ⟨xs, hx, _⟩ := Option.bind_eq_some_iff.1 h
   exact ih hx (by omega)
set_option maxHeartbeats 8000000 in
set_option maxRecDepth 100000 in
theorem poly_visit_segs (A0 : Option Addr) (c0 : Nat) (l0 : List (S30)) (g : Nat) (w0 w : World) (r : List (S45)) (hr0 : Kd.C k30 w0 A0 l0.length l0) (hlen : l0.length ≤ 1000000) (hg : w0.heap.size ≤ g) (hS : SegBox w0 w g []) (hr : segsUpto l0 l0.length = some r) :
  Calls Try.prog 29 #[.slice A0 l0.length c0, .func (.func 34) #[] #[.pointer (some ⟨g, 0, none⟩)]] w fun e w' => e = .returned (.tuple #[]) ∧ SegBox w0 w' g r := by
 have HR := Aside0.mk hr0
 have HLen := Aside0.mk hlen
 have HG := Aside0.mk hg
 have HS0 := Aside0.mk hS
 have HRes := Aside0.mk hr
 clear hr0 hlen hg hS hr
 go_enter Try.func29, Try.ntmps29
 go_wp2
 go_loopg [7] l0.length (fun gk vi wr => ∃ (k : Nat) (xs : List (S45)), vi = .int .i64 (k : Int) ∧ k + gk = l0.length ∧ segsUpto l0 k = some xs ∧ xs.length ≤ k ∧ SegBox w0 wr g xs)
 case atStart => exact ⟨0, [], rfl, by omega, rfl, by simp, HS0.out⟩
 case round =>
  clear HS0
  obtain ⟨k, xs, rfl, hkg, hxs, hxl, hsb⟩ := hrel
  have HB := Aside0.mk (show Below w0.heap.size w0 wr from by obtain ⟨_, _, _, _, h⟩ := hsb; exact h)
  have HC := Aside0.mk hsb
  have HXs := Aside0.mk hxs
  clear hsb hxs
  by_cases c : k < l0.length
  ·skip
   have ik0 : (0 : Int) ≤ (k : Int) := Int.natCast_nonneg _
   have ik1 : (k : Int) < (l0.length : Int) := by omega
   have hn : (l0.length : Int) ≤ 1000000 := by have := HLen.out; omega
   have n0 : 0 ≤ ((k : Int) + 1) % (l0.length : Int) := Int.emod_nonneg _ (by omega)
   have n1 : ((k : Int) + 1) % (l0.length : Int) < (l0.length : Int) := Int.emod_lt_of_pos _ (by omega)
   have HT := Aside0.mk (show Int.tmod ((k : Int) + 1) (l0.length : Int) = ((k : Int) + 1) % (l0.length : Int) from Int.tmod_eq_emod_of_nonneg (by omega))
   have hne : ¬ (l0 = []) := fun e => by rw [e] at c; simp at c
   have HW := Aside0.mk (show wrap64 ((k : Int) + 1) = (k : Int) + 1 from by unfold wrap64; omega)
   obtain ⟨ad, e, hx0, hx1⟩ := at_T30 (Kd.C_below HR.out HB.out) k ik0 ik1
   subst e
   clear hx0 hx1
   have HX := Aside0.mk (fun (w2 : World) (hb : Below w0.heap.size w0 w2) => (by
    obtain ⟨ad2, e2, h1, h2⟩ := at_T30 (Kd.C_below HR.out hb) k ik0 ik1
    injection e2 with e2
    subst e2
    simp only [Int.toNat_natCast] at h1 h2
    exact ⟨h1, h2⟩ : w2.cell? (ad.add (k * 2)) = some (.int .i64 (rd_T30 l0 k).f0) ∧ w2.cell? ⟨(ad.add (k * 2)).block, (ad.add (k * 2)).off + 1, none⟩ = some (.int .i64 (rd_T30 l0 k).f1)))
   have HY := Aside0.mk (fun (w2 : World) (hb : Below w0.heap.size w0 w2) => (by
    obtain ⟨ad2, e2, h1, h2⟩ := at_T30 (Kd.C_below HR.out hb) (((k : Int) + 1) % (l0.length : Int)) n0 n1
    injection e2 with e2
    subst e2
    exact ⟨h1, h2⟩ : w2.cell? (ad.add ((((k : Int) + 1) % (l0.length : Int)).toNat * 2)) = some (.int .i64 (rd_T30 l0 (((k : Int) + 1) % (l0.length : Int))).f0) ∧ w2.cell? ⟨(ad.add ((((k : Int) + 1) % (l0.length : Int)).toNat * 2)).block, (ad.add ((((k : Int) + 1) % (l0.length : Int)).toNat * 2)).off + 1, none⟩ = some (.int .i64 (rd_T30 l0 (((k : Int) + 1) % (l0.length : Int))).f1)))
   obtain ⟨ys, hys⟩ : ∃ ys, segsUpto l0 (k + 1) = some ys := upto_some HRes.out (by omega)
   have HYs := Aside0.mk hys
   rw [segsUpto, HXs.out, Option.bind_some, poly_next] at hys
   have hxl2 : xs.length ≤ 1000000 := by omega
   cases he : ((rd_T30 l0 k).f0 == (rd_T30 l0 (((k : Int) + 1) % (l0.length : Int))).f0 && (rd_T30 l0 k).f1 == (rd_T30 l0 (((k : Int) + 1) % (l0.length : Int))).f1) with
   | true =>
    rw [he, if_pos rfl] at hys
    obtain rfl := Option.some.inj hys
    have HE := Aside0.mk (show (rd_T30 l0 k).f0 = (rd_T30 l0 (((k : Int) + 1) % (l0.length : Int))).f0 ∧ (rd_T30 l0 k).f1 = (rd_T30 l0 (((k : Int) + 1) % (l0.length : Int))).f1 by simpa using he)
    clear he hys
    go_wp2_with fail
    have n1_ := Aside0.mk (below_drew1 HB.out)
    have n2_ := Aside0.mk (SegBox.step HC.out (below_drew (Below.refl _ _)))
    clear HB HC
    have HB := n1_; have HC := n2_
    clear n1_ n2_
    refine start_ (n := 15) (S := fun w' => Below w0.heap.size w0 w') (ds := []) #[F, F, F, F, F, F, F, F, F, F, F, F, F, F, F] (by kernel_rfl) rfl rfl (HB.out) (fun hHeld => ?_)
    generalize wr.drew = wq at HB HC hHeld ⊢
    refine pure_ (i := 0) (N := some 10) (v := ?_) (a' := ?_) #[T, F, F, F, F, F, F, F, F, F, F, F, F, F, F] rfl rfl (by kernel_rfl) (fun _ _ _ h => h) (Or.inl ⟨by rfl, ?_⟩) ?_ ?_
    rotate_left
    ·intro w'
     go_simp
     with_reducible rfl
    rotate_left
    ·simp only [Act.put, List.setIfInBounds_toArray, List.set_cons_zero, List.set_cons_succ, i64_w, i32_w]
     rfl
    refine pure_ (i := 1) (N := some 11) (v := ?_) (a' := ?_) #[T, T, F, F, F, F, F, F, F, F, F, F, F, F, F] rfl rfl (by kernel_rfl) (fun _ _ _ h => h) (Or.inl ⟨by rfl, ?_⟩) ?_ ?_
    rotate_left
    ·intro w'
     go_simp
     with_reducible rfl
    rotate_left
    ·simp only [Act.put, List.setIfInBounds_toArray, List.set_cons_zero, List.set_cons_succ, i64_w, i32_w]
     rfl
    refine pure_ (i := 2) (N := some 12) (v := ?_) (a' := ?_) #[T, T, T, F, F, F, F, F, F, F, F, F, F, F, F] rfl rfl (by kernel_rfl) (fun _ _ _ h => h) (Or.inl ⟨by rfl, ?_⟩) ?_ ?_
    rotate_left
    ·intro w'
     go_simp
     with_reducible rfl
    rotate_left
    ·simp only [Act.put, List.setIfInBounds_toArray, List.set_cons_zero, List.set_cons_succ, i64_w, i32_w]
     rfl
    refine pure_ (i := 3) (N := some 13) (v := ?_) (a' := ?_) #[T, T, T, T, F, F, F, F, F, F, F, F, F, F, F] rfl rfl (by kernel_rfl) (fun _ _ _ h => h) (Or.inl ⟨by rfl, ?_⟩) ?_ ?_
    rotate_left
    ·intro w'
     go_simp
     with_reducible rfl
    rotate_left
    ·simp only [Act.put, List.setIfInBounds_toArray, List.set_cons_zero, List.set_cons_succ, i64_w, i32_w]
     rfl
    refine take_ (i := 4) (N := some 14) (v := ?_) (a' := ?_) #[T, T, T, T, T, F, F, F, F, F, F, F, F, F, F] rfl rfl (by kernel_rfl) (fun _ _ _ h => h) (Or.inl ⟨by rfl, ?_⟩) hHeld ?_ ?_
    rotate_left
    ·rintro w' hS
     obtain ⟨hx0, hx1⟩ := HX.out w' hS
     go_simp
     with_reducible rfl
    rotate_left
    ·simp only [Act.put, List.setIfInBounds_toArray, List.set_cons_zero, List.set_cons_succ, i64_w, i32_w]
     rfl
    refine pure_ (i := 5) (N := some 15) (v := ?_) (a' := ?_) #[T, T, T, T, T, T, F, F, F, F, F, F, F, F, F] rfl rfl (by kernel_rfl) (fun _ _ _ h => h) (Or.inl ⟨by rfl, ?_⟩) ?_ ?_
    rotate_left
    ·intro w'
     go_simp
     with_reducible rfl
    rotate_left
    ·simp only [Act.put, List.setIfInBounds_toArray, List.set_cons_zero, List.set_cons_succ, i64_w, i32_w]
     rfl
    refine pure_ (i := 6) (N := some 16) (v := ?_) (a' := ?_) #[T, T, T, T, T, T, T, F, F, F, F, F, F, F, F] rfl rfl (by kernel_rfl) (fun _ _ _ h => h) (Or.inl ⟨by rfl, ?_⟩) ?_ ?_
    rotate_left
    ·intro w'
     go_simp
     with_reducible rfl
    rotate_left
    ·simp only [Act.put, List.setIfInBounds_toArray, List.set_cons_zero, List.set_cons_succ, i64_w, i32_w]
     rfl
    refine pure_ (i := 7) (N := some 17) (v := ?_) (a' := ?_) #[T, T, T, T, T, T, T, T, F, F, F, F, F, F, F] rfl rfl (by kernel_rfl) (fun _ _ _ h => h) (Or.inl ⟨by rfl, ?_⟩) ?_ ?_
    rotate_left
    ·intro w'
     go_simp
     with_reducible rfl
    rotate_left
    ·simp only [Act.put, List.setIfInBounds_toArray, List.set_cons_zero, List.set_cons_succ, i64_w, i32_w]
     rfl
    rw [HW.out]
    refine pure_ (i := 8) (N := some 18) (v := ?_) (a' := ?_) #[T, T, T, T, T, T, T, T, T, F, F, F, F, F, F] rfl rfl (by kernel_rfl) (fun _ _ _ h => h) (Or.inl ⟨by rfl, ?_⟩) ?_ ?_
    rotate_left
    ·intro w'
     go_simp
     with_reducible rfl
    rotate_left
    ·simp only [Act.put, List.setIfInBounds_toArray, List.set_cons_zero, List.set_cons_succ, i64_w, i32_w]
     rfl
    refine pure_ (i := 9) (N := some 19) (v := ?_) (a' := ?_) #[T, T, T, T, T, T, T, T, T, T, F, F, F, F, F] rfl rfl (by kernel_rfl) (fun _ _ _ h => h) (Or.inl ⟨by rfl, ?_⟩) ?_ ?_
    rotate_left
    ·intro w'
     go_simp
     with_reducible rfl
    rotate_left
    ·simp only [Act.put, List.setIfInBounds_toArray, List.set_cons_zero, List.set_cons_succ, i64_w, i32_w]
     rfl
    refine pure_ (i := 10) (N := some 20) (v := ?_) (a' := ?_) #[T, T, T, T, T, T, T, T, T, T, T, F, F, F, F] rfl rfl (by kernel_rfl) (fun _ _ _ h => h) (Or.inl ⟨by rfl, ?_⟩) ?_ ?_
    rotate_left
    ·intro w'
     go_simp
     with_reducible rfl
    rotate_left
    ·simp only [Act.put, List.setIfInBounds_toArray, List.set_cons_zero, List.set_cons_succ, i64_w, i32_w]
     rfl
    rw [HT.out]
    refine pure_ (i := 11) (N := some 21) (v := ?_) (a' := ?_) #[T, T, T, T, T, T, T, T, T, T, T, T, F, F, F] rfl rfl (by kernel_rfl) (fun _ _ _ h => h) (Or.inl ⟨by rfl, ?_⟩) ?_ ?_
    rotate_left
    ·intro w'
     go_simp
     with_reducible rfl
    rotate_left
    ·simp only [Act.put, List.setIfInBounds_toArray, List.set_cons_zero, List.set_cons_succ, i64_w, i32_w]
     rfl
    refine take_ (i := 12) (N := some 22) (v := ?_) (a' := ?_) #[T, T, T, T, T, T, T, T, T, T, T, T, T, F, F] rfl rfl (by kernel_rfl) (fun _ _ _ h => h) (Or.inl ⟨by rfl, ?_⟩) hHeld ?_ ?_
    rotate_left
    ·rintro w' hS
     obtain ⟨hy0, hy1⟩ := HY.out w' hS
     go_simp
     with_reducible rfl
    rotate_left
    ·simp only [Act.put, List.setIfInBounds_toArray, List.set_cons_zero, List.set_cons_succ, i64_w, i32_w]
     rfl
    refine one_ (i := 13) (N := some 23) #[T, T, T, T, T, T, T, T, T, T, T, T, T, T, F] rfl rfl (by kernel_rfl) (by decide) (fun K hK => ?_)
    refine call_ 34 #[.agg #[.int .i64 (rd_T30 l0 k).f0, .int .i64 (rd_T30 l0 k).f1], .agg #[.int .i64 (rd_T30 l0 (((k : Int) + 1) % (l0.length : Int))).f0, .int .i64 (rd_T30 l0 (((k : Int) + 1) % (l0.length : Int))).f1], .pointer (some ⟨g, 0, none⟩)] rfl rfl ?hrunE ?_
    case hrunE => first | rfl | (go_simp; done) | (go_simp; rfl)
    have hcl := poly_seg1_same (rd_T30 l0 k).f0 (rd_T30 l0 k).f1 g wq
    rw [← HE.out.1, ← HE.out.2]
    refine hcl.mono ?_
    rintro e wa ⟨rfl, hS⟩
    refine ⟨_, rfl, ?_⟩
    have n1_ := Aside0.mk (below_step HB.out hS)
    have n2_ := Aside0.mk (HC.out.step hS)
    clear hHeld HB HC hcl
    have HB := n1_; have HC := n2_
    clear n1_ n2_
    refine hK.out _ _ HB.out (fun hHeld => ?_)
    clear hS hK K
    refine norm_ (a' := ?_) ?_ ?_
    rotate_left
    ·show Act.put _ (some 23) _ = _
     simp only [Act.put, List.setIfInBounds_toArray, List.set_cons_zero, List.set_cons_succ, i64_w, i32_w]
     rfl
    refine pure_ (i := 14) (N := some 24) (v := ?_) (a' := ?_) #[T, T, T, T, T, T, T, T, T, T, T, T, T, T, T] rfl rfl (by kernel_rfl) (fun _ _ _ h => h) (Or.inl ⟨by rfl, ?_⟩) ?_ ?_
    rotate_left
    ·intro w'
     go_simp
     with_reducible rfl
    rotate_left
    ·simp only [Act.put, List.setIfInBounds_toArray, List.set_cons_zero, List.set_cons_succ, i64_w, i32_w]
     rfl
    refine done_ (by kernel_rfl) ?_
    go_wp2
    go_roundg (l0.length - (k + 1))
    case measure => omega
    case rel => exact ⟨k + 1, xs, by first | rfl | go_num, by omega, HYs.out, by omega, HC.out⟩
   | false =>
    rw [he, if_neg (by decide)] at hys
    obtain ⟨z, hz, rfl⟩ := Option.map_eq_some_iff.1 hys
    have HZ := Aside0.mk hz
    have HE := Aside0.mk he
    clear he hys hz
    go_wp2_with fail
    have n1_ := Aside0.mk (below_drew1 HB.out)
    have n2_ := Aside0.mk (SegBox.step HC.out (below_drew (Below.refl _ _)))
    clear HB HC
    have HB := n1_; have HC := n2_
    clear n1_ n2_
    refine start_ (n := 15) (S := fun w' => Below w0.heap.size w0 w') (ds := []) #[F, F, F, F, F, F, F, F, F, F, F, F, F, F, F] (by kernel_rfl) rfl rfl (HB.out) (fun hHeld => ?_)
    generalize wr.drew = wq at HB HC hHeld ⊢
    refine pure_ (i := 0) (N := some 10) (v := ?_) (a' := ?_) #[T, F, F, F, F, F, F, F, F, F, F, F, F, F, F] rfl rfl (by kernel_rfl) (fun _ _ _ h => h) (Or.inl ⟨by rfl, ?_⟩) ?_ ?_
    rotate_left
    ·intro w'
     go_simp
     with_reducible rfl
    rotate_left
    ·simp only [Act.put, List.setIfInBounds_toArray, List.set_cons_zero, List.set_cons_succ, i64_w, i32_w]
     rfl
    refine pure_ (i := 1) (N := some 11) (v := ?_) (a' := ?_) #[T, T, F, F, F, F, F, F, F, F, F, F, F, F, F] rfl rfl (by kernel_rfl) (fun _ _ _ h => h) (Or.inl ⟨by rfl, ?_⟩) ?_ ?_
    rotate_left
    ·intro w'
     go_simp
     with_reducible rfl
    rotate_left
    ·simp only [Act.put, List.setIfInBounds_toArray, List.set_cons_zero, List.set_cons_succ, i64_w, i32_w]
     rfl
    refine pure_ (i := 2) (N := some 12) (v := ?_) (a' := ?_) #[T, T, T, F, F, F, F, F, F, F, F, F, F, F, F] rfl rfl (by kernel_rfl) (fun _ _ _ h => h) (Or.inl ⟨by rfl, ?_⟩) ?_ ?_
    rotate_left
    ·intro w'
     go_simp
     with_reducible rfl
    rotate_left
    ·simp only [Act.put, List.setIfInBounds_toArray, List.set_cons_zero, List.set_cons_succ, i64_w, i32_w]
     rfl
    refine pure_ (i := 3) (N := some 13) (v := ?_) (a' := ?_) #[T, T, T, T, F, F, F, F, F, F, F, F, F, F, F] rfl rfl (by kernel_rfl) (fun _ _ _ h => h) (Or.inl ⟨by rfl, ?_⟩) ?_ ?_
    rotate_left
    ·intro w'
     go_simp
     with_reducible rfl
    rotate_left
    ·simp only [Act.put, List.setIfInBounds_toArray, List.set_cons_zero, List.set_cons_succ, i64_w, i32_w]
     rfl
    refine take_ (i := 4) (N := some 14) (v := ?_) (a' := ?_) #[T, T, T, T, T, F, F, F, F, F, F, F, F, F, F] rfl rfl (by kernel_rfl) (fun _ _ _ h => h) (Or.inl ⟨by rfl, ?_⟩) hHeld ?_ ?_
    rotate_left
    ·rintro w' hS
     obtain ⟨hx0, hx1⟩ := HX.out w' hS
     go_simp
     with_reducible rfl
    rotate_left
    ·simp only [Act.put, List.setIfInBounds_toArray, List.set_cons_zero, List.set_cons_succ, i64_w, i32_w]
     rfl
    refine pure_ (i := 5) (N := some 15) (v := ?_) (a' := ?_) #[T, T, T, T, T, T, F, F, F, F, F, F, F, F, F] rfl rfl (by kernel_rfl) (fun _ _ _ h => h) (Or.inl ⟨by rfl, ?_⟩) ?_ ?_
    rotate_left
    ·intro w'
     go_simp
     with_reducible rfl
    rotate_left
    ·simp only [Act.put, List.setIfInBounds_toArray, List.set_cons_zero, List.set_cons_succ, i64_w, i32_w]
     rfl
    refine pure_ (i := 6) (N := some 16) (v := ?_) (a' := ?_) #[T, T, T, T, T, T, T, F, F, F, F, F, F, F, F] rfl rfl (by kernel_rfl) (fun _ _ _ h => h) (Or.inl ⟨by rfl, ?_⟩) ?_ ?_
    rotate_left
    ·intro w'
     go_simp
     with_reducible rfl
    rotate_left
    ·simp only [Act.put, List.setIfInBounds_toArray, List.set_cons_zero, List.set_cons_succ, i64_w, i32_w]
     rfl
    refine pure_ (i := 7) (N := some 17) (v := ?_) (a' := ?_) #[T, T, T, T, T, T, T, T, F, F, F, F, F, F, F] rfl rfl (by kernel_rfl) (fun _ _ _ h => h) (Or.inl ⟨by rfl, ?_⟩) ?_ ?_
    rotate_left
    ·intro w'
     go_simp
     with_reducible rfl
    rotate_left
    ·simp only [Act.put, List.setIfInBounds_toArray, List.set_cons_zero, List.set_cons_succ, i64_w, i32_w]
     rfl
    rw [HW.out]
    refine pure_ (i := 8) (N := some 18) (v := ?_) (a' := ?_) #[T, T, T, T, T, T, T, T, T, F, F, F, F, F, F] rfl rfl (by kernel_rfl) (fun _ _ _ h => h) (Or.inl ⟨by rfl, ?_⟩) ?_ ?_
    rotate_left
    ·intro w'
     go_simp
     with_reducible rfl
    rotate_left
    ·simp only [Act.put, List.setIfInBounds_toArray, List.set_cons_zero, List.set_cons_succ, i64_w, i32_w]
     rfl
    refine pure_ (i := 9) (N := some 19) (v := ?_) (a' := ?_) #[T, T, T, T, T, T, T, T, T, T, F, F, F, F, F] rfl rfl (by kernel_rfl) (fun _ _ _ h => h) (Or.inl ⟨by rfl, ?_⟩) ?_ ?_
    rotate_left
    ·intro w'
     go_simp
     with_reducible rfl
    rotate_left
    ·simp only [Act.put, List.setIfInBounds_toArray, List.set_cons_zero, List.set_cons_succ, i64_w, i32_w]
     rfl
    refine pure_ (i := 10) (N := some 20) (v := ?_) (a' := ?_) #[T, T, T, T, T, T, T, T, T, T, T, F, F, F, F] rfl rfl (by kernel_rfl) (fun _ _ _ h => h) (Or.inl ⟨by rfl, ?_⟩) ?_ ?_
    rotate_left
    ·intro w'
     go_simp
     with_reducible rfl
    rotate_left
    ·simp only [Act.put, List.setIfInBounds_toArray, List.set_cons_zero, List.set_cons_succ, i64_w, i32_w]
     rfl
    rw [HT.out]
    refine pure_ (i := 11) (N := some 21) (v := ?_) (a' := ?_) #[T, T, T, T, T, T, T, T, T, T, T, T, F, F, F] rfl rfl (by kernel_rfl) (fun _ _ _ h => h) (Or.inl ⟨by rfl, ?_⟩) ?_ ?_
    rotate_left
    ·intro w'
     go_simp
     with_reducible rfl
    rotate_left
    ·simp only [Act.put, List.setIfInBounds_toArray, List.set_cons_zero, List.set_cons_succ, i64_w, i32_w]
     rfl
    refine take_ (i := 12) (N := some 22) (v := ?_) (a' := ?_) #[T, T, T, T, T, T, T, T, T, T, T, T, T, F, F] rfl rfl (by kernel_rfl) (fun _ _ _ h => h) (Or.inl ⟨by rfl, ?_⟩) hHeld ?_ ?_
    rotate_left
    ·rintro w' hS
     obtain ⟨hy0, hy1⟩ := HY.out w' hS
     go_simp
     with_reducible rfl
    rotate_left
    ·simp only [Act.put, List.setIfInBounds_toArray, List.set_cons_zero, List.set_cons_succ, i64_w, i32_w]
     rfl
    refine one_ (i := 13) (N := some 23) #[T, T, T, T, T, T, T, T, T, T, T, T, T, T, F] rfl rfl (by kernel_rfl) (by decide) (fun K hK => ?_)
    refine call_ 34 #[.agg #[.int .i64 (rd_T30 l0 k).f0, .int .i64 (rd_T30 l0 k).f1], .agg #[.int .i64 (rd_T30 l0 (((k : Int) + 1) % (l0.length : Int))).f0, .int .i64 (rd_T30 l0 (((k : Int) + 1) % (l0.length : Int))).f1], .pointer (some ⟨g, 0, none⟩)] rfl rfl ?hrunN ?_
    case hrunN => first | rfl | (go_simp; done) | (go_simp; rfl)
    refine (poly_seg1 _ _ _ _ z xs g w0 wq HE.out HZ.out HG.out hxl2 HC.out).mono ?_
    rintro e wa ⟨rfl, hS⟩
    refine ⟨_, rfl, ?_⟩
    have n1_ := Aside0.mk (show Below w0.heap.size w0 wa from by obtain ⟨_, _, _, _, h⟩ := hS; exact h)
    have n2_ := Aside0.mk hS
    clear hHeld HB HC
    have HB := n1_; have HC := n2_
    clear n1_ n2_
    refine hK.out _ _ HB.out (fun hHeld => ?_)
    clear hS hK K
    refine norm_ (a' := ?_) ?_ ?_
    rotate_left
    ·show Act.put _ (some 23) _ = _
     simp only [Act.put, List.setIfInBounds_toArray, List.set_cons_zero, List.set_cons_succ, i64_w, i32_w]
     rfl
    refine pure_ (i := 14) (N := some 24) (v := ?_) (a' := ?_) #[T, T, T, T, T, T, T, T, T, T, T, T, T, T, T] rfl rfl (by kernel_rfl) (fun _ _ _ h => h) (Or.inl ⟨by rfl, ?_⟩) ?_ ?_
    rotate_left
    ·intro w'
     go_simp
     with_reducible rfl
    rotate_left
    ·simp only [Act.put, List.setIfInBounds_toArray, List.set_cons_zero, List.set_cons_succ, i64_w, i32_w]
     rfl
    refine done_ (by kernel_rfl) ?_
    go_wp2
    go_roundg (l0.length - (k + 1))
    case measure => omega
    case rel => exact ⟨k + 1, _, by first | rfl | go_num, by omega, HYs.out, by simp; omega, HC.out⟩
  ·have c' : decide ((k : Int) < (l0.length : Int)) = false := decide_eq_false (by omega)
   have hk : k = l0.length := by omega
   have HF := Aside0.mk (show SegBox w0 wr g r from by
    have h := HXs.out
    rw [hk, HRes.out] at h
    cases h
    exact HC.out)
   go_wp2
   go_end0
   exact ⟨rfl, HF.out⟩
def poly_Segs.f (l0 : List (S30)) : Option (List (S45)) := (poly_valid.f l0).bind fun v => if v = true then segsUpto l0 l0.length else some []
set_option maxHeartbeats 8000000 in
set_option maxRecDepth 100000 in
theorem poly_Segs.calls (A0 : Option Addr) (c0 : Nat) (l0 : List (S30)) (r : List (S45)) (w : World) (hr0 : Kd.C k30 w A0 l0.length l0) (hc0 : l0.length ≤ c0) (h : poly_Segs.f l0 = some r) :
  Calls Try.prog 15 #[.slice A0 l0.length c0] w fun e w' => ∃ v0_ : Value, e = .returned (v0_) ∧ Kd.R k45 45 w' w.heap.size (fun _ => True) v0_ r ∧ Below w.heap.size w w' := by
 obtain ⟨v, hv, h⟩ := Option.bind_eq_some_iff.1 h; have HV := Aside0.mk (poly_valid.calls A0 c0 l0 v w hr0 hc0 hv)
 have hlen : l0.length ≤ 1000000 := by
  unfold poly_valid.f at hv; split at hv
  ·assumption
  ·cases hv
 cases v with
 | false =>
  rw [if_neg (by decide)] at h; obtain rfl := Option.some.inj h; clear h hv hr0 hc0 hlen
  go_enter Try.func15, Try.ntmps15
  go_wp2_with (first
   | (go_at_call 28; refine (HV.out).mono ?_; rintro e w2 ⟨rfl, hb⟩; have HB2 := Aside0.mk hb; clear hb))
  go_ret
  exact ⟨_, rfl, Kd.R_nil _ _ _ _ _, HB2.out⟩
 | true =>
  rw [if_pos rfl] at h; have HVis := Aside0.mk (fun g w2 h1 h2 => poly_visit_segs A0 c0 l0 g w w2 r hr0 hlen h1 h2 h); clear h hv hr0 hc0 hlen; have hmf : ∀ (fn : Fn) (first cap : Array Value) (w : World), (Instr.makeFunc fn first cap).run Try.prog w = .ok (.func fn first cap) w := fun _ _ _ _ => rfl
  go_enter Try.func15, Try.ntmps15
  go_wp2_with (first
   | (go_at_call 28; refine (HV.out).mono ?_; rintro e w2 ⟨rfl, hb⟩; have HB2 := Aside0.mk hb; clear hb)
   | ((with_reducible refine gate_dst (N := 3) rfl ?_); refine box_event ?hgg1 (N := 3) ?hdg1 (cs := #[.slice none 0 0]) (t := 27) ?hrg1 ?_; (case hdg1 => rfl); (case hgg1 => rfl); (case hrg1 => first | (go_simp; done) | (go_simp; rfl)); intro g1 hg_ w3 hbox_ hb_; have HB3 := Aside0.mk (below_step HB2.out hb_); have BK3 := Aside0.mk hbox_; have HG3 := Aside0.mk (show w.heap.size ≤ g1 from by rw [hg_]; exact HB2.out.size); clear hbox_ hb_ hg_)
   | (go_at_call 29; refine (HVis.out g1 _ HG3.out ⟨none, 0, BK3.out, Kd.R_nil _ _ _ _ _, HB3.out⟩).mono ?_; rintro e w5 ⟨rfl, A5, c5, hc, hr, hb⟩; have HB5 := Aside0.mk hb; have HR5 := Aside0.mk hr; have e0 := (blk_cell hc 0).trans rfl; clear hb hc hr))
  go_ret
  exact ⟨_, rfl, HR5.out, HB5.out⟩

end Go.Proofs.Ytggafoldccikdaa.PAll
