-- Written by a program of this session (wip/tools), over the words that print.sh lays. (slim)
import Derived.Test.YtofhgmdehglhgaaPAllx0
import Derived.Test.YtofhgmdehglhgaaPAllx4
namespace Go.Proofs.Ytofhgmdehglhgaa.PAll
open Go.RowKit Go.Proofs.YtofhgmdehglhgaaW.PrintWords Go.Proofs.YtofhgmdehglhgaaW.PrintLast Go.Proofs.YtofhgmdehglhgaaW.PrintMore
attribute [local go_sem] max2_int min2_int max_two min_two max_three min_three max_four min_four   -- for this text's walks alone
set_option linter.unusedVariables false
set_option linter.unusedSimpArgs false
attribute [local irreducible] Calls

/-! ### graph_Reverse: function 36 -/
def sw40 (x : S40) : S40 := ⟨x.f1, x.f0⟩
def c40 (x : S40) : List Value := [.int .i64 x.f0, .int .i64 x.f1]
theorem one40 (x : S40) : ∀ u ∈ c40 x, u.oneCell' = true := by
 intro u hu
 simp only [c40, List.mem_cons, List.not_mem_nil, or_false] at hu
 rcases hu with rfl | rfl <;> rfl
theorem store_arc {w : World} {base : Nat} {ok : Nat → Prop} {g n c : Nat} {xs : List (S40)} (h : Kd.R k40 40 w base ok (.slice (some ⟨g, 0, none⟩) n c) xs) (i : Nat) (h1 : i < n) (x : S40) :
  ∃ w1, (Instr.storeAt 40 (.pointer (some ⟨g, i * 2, none⟩)) (.agg #[.int .i64 x.f0, .int .i64 x.f1])).run Try.prog w = .ok () w1 ∧ Kd.R k40 40 w1 base ok (.slice (some ⟨g, 0, none⟩) n c) (xs.set i x) ∧ w.grownBy w1 (some g) := by
 obtain ⟨cs, hl, hM, hcc, hfz⟩ := Kd.R_elem h z40 (i : Int) (Int.natCast_nonneg _) (by omega)
 obtain ⟨kk1_, kk2_⟩ := Kd.R_seg h (i : Int) (Int.natCast_nonneg _) (by omega) (c := cs) (seg := c40 x) (j := 0) hl hcc (by show 0 + 2 ≤ 2; omega) (x' := x) (okp := fun _ => False) (by
  rw [List.take_zero, List.nil_append, Nat.zero_add, List.drop_of_length_le (by rw [hl]; show 2 ≤ 2; omega), List.append_nil]
  exact k40_mkM _ _ _ x) (fun _ h => h.elim)
 simp only [Int.toNat_natCast] at kk1_ kk2_
 refine ⟨w.setCells g (i * 2) (c40 x), ?_, kk1_, kk2_⟩
 obtain ⟨_, inner, ho, hr⟩ := h
 rcases ho.2 with ⟨hv, _⟩ | ⟨g', cap', cur, hv, hbb, hh, hnc, hcm, hcs, _⟩
 ·cases hv
 injection hv with ha hn' hc'
 injection ha with ha
 injection ha with hg'
 subst hg'
 subst hc'
 refine run_store_run 40 _ (c40 x) hh (by simp [Value.cells, c40]) (by kernel_rfl) ?_ (one40 x)
 rw [hcs]
 show i * 2 + 2 ≤ c * 2
 omega
theorem arcs_cells {w : World} {A : Option Addr} {n : Nat} {xs : List (S40)} (h : Kd.C k40 w A n xs) : ∃ cs : List Value, Reps (k40.K w) 2 xs cs ∧ ∀ c' : Nat, (Builtin.firstCells 2 n (.slice A n c')).run Try.prog w = .ok cs.toArray w := by
 have hn : xs.length = n := h.1
 cases A with
 | none =>
  have h0 : n = 0 := by
   rcases Nat.eq_zero_or_pos n with h0 | h0
   ·exact h0
   ·obtain ⟨ad, e, _⟩ := h.2.2 h0
    cases e
  have hx : xs = [] := List.eq_nil_of_length_eq_zero (by omega)
  rw [hx]
  exact ⟨[], Reps.none _ _, fun c' => run_firstCells_none (P := Try.prog) (w := w) 2 n n c'⟩
 | some ad =>
  obtain ⟨inner, hr, hc⟩ := ReadsRow.inner_ h
  exact ⟨inner, hr, fun c' => run_firstCells_some w 2 n ad n c' inner (by have e : inner.length = xs.length * 2 := hr.1; rw [e, hn]) hc⟩
theorem reps_one40 {w : World} {xs : List (S40)} {cs : List Value} (h : Reps (k40.K w) 2 xs cs) : ∀ u ∈ cs, u.oneCell' = true := by
 intro u hu
 obtain ⟨j, hj, rfl⟩ := List.mem_iff_getElem.1 hu
 have hq : j / 2 < xs.length := by have := h.1; omega
 have h2 := h.2 (j / 2) _ (List.getElem?_eq_getElem hq)
 have : cs[j] ∈ (cs.drop (j / 2 * 2)).take 2 := by
  rw [List.mem_iff_getElem?]
  refine ⟨j % 2, ?_⟩
  rw [List.getElem?_take, if_pos (Nat.mod_lt _ (by decide)), List.getElem?_drop, show j / 2 * 2 + j % 2 = j by omega, List.getElem?_eq_getElem hj]
 exact k40.K_one h2 _ this
theorem copy_arcs {w : World} {base : Nat} {ok : Nat → Prop} {g n c c' : Nat} {A : Option Addr} {xs zs : List (S40)} (ty : TypeId) (hd : Kd.R k40 40 w base ok (.slice (some ⟨g, 0, none⟩) n c) zs) (hs : Kd.C k40 w A n xs) :
  ∃ w1, (Builtin.copy_ #[22, 22] ty #[.slice (some ⟨g, 0, none⟩) n c, .slice A n c']).run Try.prog w = .ok (goInt n) w1 ∧ Kd.R k40 40 w1 base ok (.slice (some ⟨g, 0, none⟩) n c) xs ∧ w.grownBy w1 (some g) := by
 obtain ⟨cs, hr, hf⟩ := arcs_cells hs
 have hnx : xs.length = n := hs.1
 have hnz := (Kd.R_reads' hd).1
 have hl : cs.length = n * 2 := by rw [hr.1, hnx]
 obtain ⟨hok, inner, ho, _⟩ := hd
 rcases ho.2 with ⟨hv, _⟩ | ⟨g2, cap, cur, hv, hb, hh, hnc, hcm, hsz, htk⟩
 ·cases hv
 injection hv with hv1 hv2 hv3
 injection hv1 with hv1
 injection hv1 with hv1
 subst hv1
 subst hv3
 rw [← hnz] at hnc
 have hfit : cs.length ≤ cur.size := by rw [hl, hsz]; exact Nat.mul_le_mul_right _ hnc
 have h1 := reps_one40 hr
 obtain ⟨cur', kk1_, kk2_, kk3_⟩ := setCells_row cs 0 w cur hh (by omega)
 obtain ⟨ss_1, ss_2, ss_3, ss_4⟩ := setCells_same g cs 0 w
 refine ⟨w.setCells g 0 cs, ?_, ⟨hok, cs, ⟨by rw [hl, hnx]; rfl, .inr ⟨g, c, cur', by rw [hnx], hb, kk1_, by rw [hnx]; exact hnc, hcm, by rw [kk2_]; exact hsz, ?_⟩⟩, ⟨hr.1, fun j p hj => by
  have e := k40_open (hr.2 j p hj)
  show k40.M _ _ _ p ((cs.drop (j * 2)).take 2)
  rw [e]
  exact k40_mkM _ _ _ p⟩⟩, ⟨ss_1, ss_2, ss_3, by rw [ss_4]; exact Nat.le_refl _, fun k _ hk => setCells_far _ _ k (fun he => hk (by rw [he]))⟩⟩
 ·have hst := run_storeCells_cells (P := Try.prog) g 0 cs 0 w (fun j hj => by rw [cell_of_row w g _ cur 40 (0, 0) hh]; simp; omega) (fun j _ => blk_frozen hh _) h1
  have hi : (Try.prog.info? 40).map (·.size) = some 2 := by kernel_rfl
  obtain ⟨i, hi1, hi2⟩ := Option.map_eq_some_iff.1 hi
  have hmin : Nat.min n n = n := Nat.min_self n
  have hf' := hf c'
  simp only [Nat.add_zero] at hst
  simp only [Builtin.copy_, List.getElem?_toArray, run_underlying Try.underlying22]
  simp [run_underlying Try.underlying22, Builtin.lenOf, sizeOf, typeInfo, hi1, hi2, hf', hst, hmin]
 ·rw [kk3_, List.take_zero, List.nil_append, hnx, List.take_append, hl]
  show cs.take (n * 2) ++ List.take (n * 2 - n * 2) _ = _
  rw [List.take_of_length_le (by omega), Nat.sub_self, List.take_zero, List.append_nil]
def revUpto (l : List (S40)) (i : Nat) : List (S40) := (l.take i).map sw40 ++ l.drop i
theorem revUpto_length (l : List (S40)) (i : Nat) : (revUpto l i).length = l.length := by
 unfold revUpto
 rw [List.length_append, List.length_map, List.length_take, List.length_drop]
 omega
theorem revUpto_get {l : List (S40)} {i : Nat} (h : i < l.length) : rd_T40 (revUpto l i) i = rd_T40 l i := by
 unfold rd_T40 revUpto
 rw [Int.toNat_natCast, List.getD_eq_getElem?_getD, List.getD_eq_getElem?_getD, List.getElem?_append_right (by rw [List.length_map, List.length_take]; omega), List.length_map, List.length_take, Nat.min_eq_left (by omega), Nat.sub_self, List.getElem?_drop, Nat.add_zero]
theorem revUpto_step {l : List (S40)} {i : Nat} (h : i < l.length) : (revUpto l i).set i (sw40 (rd_T40 l i)) = revUpto l (i + 1) := by
 have e : rd_T40 l i = l[i] := by
  unfold rd_T40
  rw [Int.toNat_natCast, List.getD_eq_getElem?_getD, List.getElem?_eq_getElem h]
  rfl
 unfold revUpto
 rw [e, List.set_append_right _ _ (by rw [List.length_map, List.length_take]; omega), List.length_map, List.length_take, Nat.min_eq_left (by omega), Nat.sub_self, List.drop_eq_getElem_cons h, List.set_cons_zero, List.take_succ_eq_append_getElem h, List.map_append]
 simp
def graph_Reverse.f (a0_0 : Int) (l0_1 : List (S40)) : Option (Int × (List (S40))) := some (if gchk a0_0 l0_1 = 0 then (a0_0, l0_1.map sw40) else (0, []))
theorem store_agg {w : World} {g t ty : Nat} {cur seg : List Value} (hg : w.heap[g]? = some (.cells cur.toArray t (0, 0))) (hl : cur.length = seg.length) (hi : (Try.prog.info? ty).map (·.size) = some seg.length) (h1 : ∀ u ∈ seg, u.oneCell' = true) :
  ∃ w1, (Instr.storeAt ty (.pointer (some ⟨g, 0, none⟩)) (.agg seg.toArray)).run Try.prog w = .ok () w1 ∧ w1.heap[g]? = some (.cells seg.toArray t (0, 0)) ∧ w.grownBy w1 (some g) := by
 obtain ⟨cur', kk1_, kk2_, kk3_⟩ := setCells_row seg 0 w _ hg (by rw [List.size_toArray]; omega)
 obtain ⟨ss_1, ss_2, ss_3, ss_4⟩ := setCells_same g seg 0 w
 refine ⟨w.setCells g 0 seg, run_store_run ty _ seg hg (by simp [Value.cells]) hi (by rw [List.size_toArray]; omega) h1, ?_, ⟨ss_1, ss_2, ss_3, by rw [ss_4]; exact Nat.le_refl _, fun k _ hk => setCells_far _ _ k (fun he => hk (by rw [he]))⟩⟩
 rw [kk1_, show cur' = seg.toArray from by
  apply Array.ext'
  rw [kk3_, List.take_zero, List.nil_append, Nat.zero_add, List.drop_of_length_le (by simp [hl]), List.append_nil]]
theorem exec_store {ev : Operand → Value} {o : Oper} {ty : TypeId} {x y : Operand} {pv v : Value} {w w1 : World} (ho : o.op = .store ty x y) (hx : ev x = pv) (hy : ev y = v) (h : (Instr.storeAt ty pv v).run Try.prog w = .ok () w1) : (execOp ev o).run Try.prog w = .ok .skip w1 := by
 unfold execOp
 simp only [ho, hx, hy, Sem.run_bind, Sem.run_pure, Result.andThen_ok, h]
theorem store40 {w : World} {g : Nat} {a b a' b' : Value} (hg : w.heap[g]? = some (.cells #[a, b] 40 (0, 0))) (h1 : ∀ u ∈ [a', b'], u.oneCell' = true) :
  ∃ w1, (Instr.storeAt 40 (.pointer (some ⟨g, 0, none⟩)) (.agg #[a', b'])).run Try.prog w = .ok () w1 ∧ w1.heap[g]? = some (.cells #[a', b'] 40 (0, 0)) ∧ w.grownBy w1 (some g) :=
 store_agg (cur := [a, b]) (seg := [a', b']) hg rfl (by kernel_rfl) h1
theorem store24 {w : World} {g : Nat} {a b a' b' : Value} (hg : w.heap[g]? = some (.cells #[a, b] 24 (0, 0))) (h1 : ∀ u ∈ [a', b'], u.oneCell' = true) :
  ∃ w1, (Instr.storeAt 24 (.pointer (some ⟨g, 0, none⟩)) (.agg #[a', b'])).run Try.prog w = .ok () w1 ∧ w1.heap[g]? = some (.cells #[a', b'] 24 (0, 0)) ∧ w.grownBy w1 (some g) :=
 store_agg (cur := [a, b]) (seg := [a', b']) hg rfl (by kernel_rfl) h1
theorem below_grow {w w1 w2 : World} {g : Nat} (h : Below w.heap.size w w1) (hg : w1.grownBy w2 (some g)) (hb : w.heap.size ≤ g) : Below w.heap.size w w2 := h.grown hg h.size (fun k e => by cases e; exact hb)
theorem made_row {w w1 : World} {base n : Nat} {v : Value} {xs : List (S40)} (h : Kd.R k40 40 w1 base (fun _ => True) v xs) (hat : ∃ b, v.ownBlock = some b ∧ w.heap.size ≤ b) (hn : xs.length = n) : ∃ g c, v = .slice (some ⟨g, 0, none⟩) n c ∧ w.heap.size ≤ g ∧ Kd.R k40 40 w1 base (fun _ => True) (.slice (some ⟨g, 0, none⟩) n c) xs := by
 subst hn
 obtain ⟨A, c, rfl⟩ := Kd.R_slice h
 obtain ⟨b, hb, hle⟩ := hat
 cases A with
 | none => simp [Value.ownBlock] at hb
 | some ad =>
  obtain ⟨g, rfl⟩ := Kd.R_head h
  simp [Value.ownBlock] at hb
  subst hb
  exact ⟨_, c, rfl, hle, h⟩
theorem row_lt {w : World} {base n c g : Nat} {ok : Nat → Prop} {xs : List (S40)} (h : Kd.R k40 40 w base ok (.slice (some ⟨g, 0, none⟩) n c) xs) : g < w.heap.size := by
 have := (Kd.R_bound h).1 g rfl
 exact this.2.2.1
set_option maxHeartbeats 16000000 in
set_option maxRecDepth 1000000 in
theorem graph_Reverse.calls (a0_0 : Int) (A0_1 : Option Addr) (c0_1 : Nat) (l0_1 : List (S40)) (r1 : Int) (r2 : List (S40)) (w : World) (hr0_1 : Kd.C k40 w A0_1 l0_1.length l0_1) (hc0_1 : l0_1.length ≤ c0_1) (h : graph_Reverse.f a0_0 l0_1 = some (r1, r2)) :
  Calls Try.prog 36 #[.agg #[.int .i64 a0_0, .slice A0_1 l0_1.length c0_1]] w fun e w' => ∃ v1_ : Value, e = .returned (.agg #[.int .i64 r1, v1_]) ∧ Kd.R k40 40 w' w.heap.size (fun _ => True) v1_ r2 ∧ Below w.heap.size w w' := by
 have hu24 := Try.underlying24
 have hu40 := Try.underlying40
 have hf := Option.some.inj h
 clear h
 have HR := Aside0.mk hr0_1
 have HC := Aside0.mk hc0_1
 have HG := Aside0.mk (fun w2 (hb : Below w.heap.size w w2) => graph_Check_walk a0_0 A0_1 c0_1 l0_1 w2 (Kd.C_below hr0_1 hb) hc0_1)
 clear hr0_1 hc0_1
 by_cases c1 : gchk a0_0 l0_1 = 0
 ·rw [if_pos c1, Prod.mk.injEq] at hf
  obtain ⟨rfl, rfl⟩ := hf
  have HL := Aside0.mk (show l0_1.length ≤ 4194304 from by
   unfold gchk at c1
   split at c1
   ·cases c1
   ·omega)
  rw [c1] at HG
  clear c1
  go_enter Try.func36, Try.ntmps36
  go_wp2_with (first
   | ((with_reducible refine gate_dst (N := 1) rfl ?_); refine box_event ?hg (N := 1) ?hd (cs := #[.int .i64 a0_0, .slice A0_1 l0_1.length c0_1]) (t := 24) ?hr ?_; (case hd => rfl); (case hg => rfl); (case hr => first | (go_simp; done) | (go_simp; rfl)); intro g1 hg1 w1 hbox hb; have HB := Aside0.mk hb; have B1 := Aside0.mk hbox; have G1 := Aside0.mk (show w.heap.size ≤ g1 by omega); clear hb hbox hg1)
   | ((with_reducible refine gate_dst (N := 2) rfl ?_); refine box_event ?hg' (N := 2) ?hd' (cs := #[.int .i64 0, .slice none 0 0]) (t := 24) ?hr' ?_; (case hd' => rfl); (case hg' => rfl); (case hr' => first | (go_simp; done) | (go_simp; rfl)); intro g2 hg2 w2 hbox hb; have N12 := Aside0.mk (show g1 < g2 from by rw [hg2]; exact blk_lt B1.out); have B1' := Aside0.mk (blk_below B1.out hb); have B2 := Aside0.mk hbox; have HB2 := Aside0.mk (below_step HB.out hb); have G2 := Aside0.mk (show w.heap.size ≤ g2 from by rw [hg2]; exact HB.out.size); clear hb hbox hg2 B1 HB; have B1 := B1'; clear B1'; have q0 : w2.cell? ⟨g1, 0, none⟩ = some (.int .i64 a0_0) := (blk_cell B1.out 0).trans rfl; have q1 : w2.cell? ⟨g1, 1, none⟩ = some (.slice A0_1 l0_1.length c0_1) := (blk_cell B1.out 1).trans rfl)
   | (go_at_call 24; refine (HG.out _ HB2.out).mono ?_; rintro e w3 ⟨rfl, hb⟩; have n1_ := Aside0.mk (blk_below B1.out hb); have n2_ := Aside0.mk (blk_below B2.out hb); have n3_ := Aside0.mk (below_step HB2.out hb); clear hb B1 B2 HB2 q0 q1; have B1 := n1_; have B2 := n2_; have HB := n3_; clear n1_ n2_ n3_; have q0 : w3.cell? ⟨g1, 0, none⟩ = some (.int .i64 a0_0) := (blk_cell B1.out 0).trans rfl; have q1 : w3.cell? ⟨g1, 1, none⟩ = some (.slice A0_1 l0_1.length c0_1) := (blk_cell B1.out 1).trans rfl)
   | ((with_reducible refine gate_dst (N := 13) rfl ?_); refine Kd.R_make k40 (w0 := w) w.heap.size 40 ?mg (N := 13) ?md 22 (.tmp 12) (.tmp 12) ?mo (l0_1.length : Int) ?mx ?my Try.underlying22 (.agg #[(.int .i64 0), (.int .i64 0)]) 16 info40 ?m1 ?m2 ?m3 z40 (ok := fun _ => True) (okp := fun _ => True) ?m4 ?m5 ?m6 ?m7 ?m8 HB.out HB.out.size ?m9; (case mg => rfl); (case md => rfl); (case mo => rfl); (case mx => rfl); (case my => rfl); (case m1 => rfl); (case m2 => decide); (case m3 => decide); (case m4 => exact k40_mkM _ _ _ z40); (case m5 => exact fun _ hk => hk); (case m6 => trivial); (case m7 => exact Int.natCast_nonneg _); (case m8 => have := HL.out; omega); intro v1 w4 ho hb hg hat; (obtain ⟨gr, cr, e1, hgr, ho'⟩ := made_row ho hat (n := l0_1.length) (by rw [List.length_replicate, Int.toNat_natCast])); have n1_ := Aside0.mk (blk_grown B1.out hg (by simp)); have n2_ := Aside0.mk (blk_grown B2.out hg (by simp)); have NR1 := Aside0.mk (show g1 < gr from Nat.lt_of_lt_of_le (blk_lt B1.out) hgr); have NR2 := Aside0.mk (show g2 < gr from Nat.lt_of_lt_of_le (blk_lt B2.out) hgr); have HB4 := Aside0.mk hb; have GR := Aside0.mk (Nat.le_trans HB.out.size hgr); have HO := Aside0.mk ho'; clear ho ho' hb hg hat hgr B1 B2 HB q0 q1; subst e1; have B1 := n1_; have B2 := n2_; clear n1_ n2_; have q0 : w4.cell? ⟨g1, 0, none⟩ = some (.int .i64 a0_0) := (blk_cell B1.out 0).trans rfl; have q1 : w4.cell? ⟨g1, 1, none⟩ = some (.slice A0_1 l0_1.length c0_1) := (blk_cell B1.out 1).trans rfl)
   | ((with_reducible refine gate_builtin (b := .copy) (xs := #[.tmp 14, .tmp 16]) rfl ?_); go_loud (obtain ⟨w5, hrun, hr, hgr⟩ := copy_arcs (c' := c0_1) 3 HO.out (Kd.C_below HR.out HB4.out); refine Kd.event_run rfl (w1 := w5) (v := goInt l0_1.length) ?hrun ?_; (case hrun => (unfold execOp; simp only [resolve, invoke, builtin, Sem.run_bind, Sem.run_pure, Result.andThen_ok, List.map_toArray, List.map_cons, List.map_nil]; show Result.andThen (Sem.run Try.prog (Builtin.copy_ #[22, 22] 3 #[.slice (some ⟨gr, 0, none⟩) l0_1.length cr, .slice A0_1 l0_1.length c0_1]) w4) _ = _; rw [hrun]; rfl)); have HO2 := Aside0.mk hr; have n1_ := Aside0.mk (blk_grown B1.out hgr (by have := NR1.out; simp; omega)); have n2_ := Aside0.mk (blk_grown B2.out hgr (by have := NR2.out; simp; omega)); have HB5 := Aside0.mk (HB4.out.grown hgr HB4.out.size (fun k e => by cases e; exact GR.out)); clear hr hgr hrun HO HB4 B1 B2 q0 q1; have B1 := n1_; have B2 := n2_; clear n1_ n2_)))
  go_loopg [20] l0_1.length (fun g v20 wr => ∃ i : Nat, v20 = .int .i64 (i : Int) ∧ i + g = l0_1.length ∧ Kd.R k40 40 wr w.heap.size (fun _ => True) (.slice (some ⟨gr, 0, none⟩) l0_1.length cr) (revUpto l0_1 i) ∧ wr.heap[g1]? = some (.cells #[.int .i64 a0_0, .slice A0_1 l0_1.length c0_1] 24 (0, 0)) ∧ wr.heap[g2]? = some (.cells #[.int .i64 0, .slice none 0 0] 24 (0, 0)) ∧ Below w.heap.size w wr)
  case atStart => exact ⟨0, rfl, by omega, by rw [show revUpto l0_1 0 = l0_1 from rfl]; exact HO2.out, B1.out, B2.out, HB5.out⟩
  case round =>
   clear HO2 B1 B2 HB5
   obtain ⟨i, rfl, hig, ho, b1, b2, hb⟩ := hrel
   have HO := Aside0.mk ho
   have B1 := Aside0.mk b1
   have B2 := Aside0.mk b2
   have HB := Aside0.mk hb
   clear ho b1 b2 hb
   by_cases ci : i < l0_1.length
   ·have cb : decide ((i : Int) < (l0_1.length : Int)) = true := decide_eq_true (by omega)
    have i0 : (0 : Int) ≤ (i : Int) := Int.natCast_nonneg _
    have i1 : (i : Int) < (l0_1.length : Int) := by omega
    obtain ⟨cc, hl, hM, hcc, hfz⟩ := Kd.R_elem HO.out z40 (i : Int) i0 i1
    obtain rfl := k40_openM hM
    have r0 := hcc 0 _ rfl
    have r1 := hcc 1 _ rfl
    clear hl hM hcc hfz
    rw [show (revUpto l0_1 i).getD (i : Int).toNat z40 = rd_T40 (revUpto l0_1 i) i from rfl, revUpto_get ci] at r0 r1
    simp only [Int.toNat_natCast, show k40.sz = 2 from rfl, Nat.add_zero] at r0 r1
    have HS := Aside0.mk (revUpto_step ci)
    generalize rd_T40 l0_1 i = x at r0 r1 HS
    have ns0 : ∀ w2 : World, w2 = w2 := fun _ => rfl
    go_wp2_with (first
     | ((with_reducible refine gate_dst (N := 5) rfl ?_); (try (refine gate_guard (by rfl) ?_; dsimp only)); refine box_event ?hg5 (N := 5) ?hd5 (cs := #[.int .i64 0, .int .i64 0]) (t := 40) ?hr5 ?_; (case hd5 => rfl); (case hg5 => rfl); (case hr5 => first | (go_simp; done) | (go_simp; rfl)); intro g5 hg5 w6 hbox hb; have n1_ := Aside0.mk (blk_below B1.out hb); have n2_ := Aside0.mk (blk_below B2.out hb); have n3_ := Aside0.mk (Kd.R_below HO.out hb); have n4_ := Aside0.mk (below_step HB.out hb); have N5 := Aside0.mk (show w.heap.size ≤ g5 ∧ gr < g5 ∧ g1 < g5 ∧ g2 < g5 from by rw [hg5]; exact ⟨HB.out.size, row_lt HO.out, blk_lt B1.out, blk_lt B2.out⟩); have B5 := Aside0.mk hbox; clear hb hbox hg5 B1 B2 HO HB r0 r1; have B1 := n1_; have B2 := n2_; have HO := n3_; have HB := n4_; clear n1_ n2_ n3_ n4_; have p0 : w6.cell? ⟨g5, 0, none⟩ = some (.int .i64 0) := (blk_cell B5.out 0).trans rfl; have p1 : w6.cell? ⟨g5, 1, none⟩ = some (.int .i64 0) := (blk_cell B5.out 1).trans rfl; have f0 := blk_frozen B5.out 0; have f1 := blk_frozen B5.out 1)
     | ((with_reducible refine gate_store (t := 40) (p := 5) rfl ?_); go_loud (obtain ⟨w7, hst, hbox, hgr⟩ := store40 (a' := .int .i64 x.f0) (b' := .int .i64 x.f1) B5.out (one40 x); refine store_event rfl (t := 40) (p := 5) (v := .tmp 24) (w1 := w7) rfl rfl (exec_store rfl rfl rfl hst) ?_; intro wt hwt; subst hwt; have n1_ := Aside0.mk (blk_grown B1.out hgr (by have := N5.out; simp; omega)); have n2_ := Aside0.mk (blk_grown B2.out hgr (by have := N5.out; simp; omega)); have n3_ := Aside0.mk (Kd.R_grown2 HO.out rfl hgr (fun k e => by cases e; have := N5.out; simp [Value.ownBlock]; omega)); have n4_ := Aside0.mk (below_grow HB.out hgr N5.out.1); have n5_ := Aside0.mk hbox; clear hst hbox hgr B1 B2 HO HB B5 p0 p1 f0 f1; have B1 := n1_; have B2 := n2_; have HO := n3_; have HB := n4_; have B5 := n5_; clear n1_ n2_ n3_ n4_ n5_; have p0 : wt.cell? ⟨g5, 0, none⟩ = some (.int .i64 x.f0) := (blk_cell B5.out 0).trans rfl; have p1 : wt.cell? ⟨g5, 1, none⟩ = some (.int .i64 x.f1) := (blk_cell B5.out 1).trans rfl))
     | ((with_reducible refine gate_store (t := 40) (p := 32) rfl ?_); go_loud (obtain ⟨w8, hst, hr, hgr⟩ := store_arc HO.out i ci (sw40 x); refine store_event rfl (t := 40) (p := 32) (v := .tmp 31) (w1 := w8) rfl rfl (exec_store rfl rfl rfl hst) ?_; intro wu hwu; subst hwu; have n1_ := Aside0.mk (blk_grown B1.out hgr (by have := NR1.out; simp; omega)); have n2_ := Aside0.mk (blk_grown B2.out hgr (by have := NR2.out; simp; omega)); have n3_ := Aside0.mk hr; have n4_ := Aside0.mk (below_grow HB.out hgr GR.out); clear hst hr hgr B1 B2 HO HB B5 p0 p1; have B1 := n1_; have B2 := n2_; have HO := n3_; have HB := n4_; clear n1_ n2_ n3_ n4_)))
    go_roundg (l0_1.length - (i + 1))
    case measure => omega
    case rel => exact ⟨i + 1, by have := HL.out; congr 1; unfold wrap64; omega, by omega, by rw [← HS.out]; exact HO.out, B1.out, B2.out, HB.out⟩
   ·have cb : decide ((i : Int) < (l0_1.length : Int)) = false := decide_eq_false (by omega)
    obtain rfl : i = l0_1.length := by omega
    have q0 : wr.cell? ⟨g1, 0, none⟩ = some (.int .i64 a0_0) := (blk_cell B1.out 0).trans rfl
    have hx : revUpto l0_1 l0_1.length = l0_1.map sw40 := by unfold revUpto; rw [List.take_length, List.drop_length, List.append_nil]
    rw [hx] at HO
    clear hx
    go_wp2_with (first
     | ((with_reducible refine gate_store (t := 24) (p := 2) rfl ?_); go_loud (obtain ⟨w7, hst, hbox, hgr⟩ := store24 (a' := .int .i64 a0_0) (b' := .slice (some ⟨gr, 0, none⟩) l0_1.length cr) B2.out (by intro u hu; simp only [List.mem_cons, List.not_mem_nil, or_false] at hu; rcases hu with rfl | rfl <;> rfl); refine store_event rfl (t := 24) (p := 2) (v := .tmp 37) (w1 := w7) rfl rfl (exec_store rfl rfl rfl hst) ?_; intro wt hwt; subst hwt; have n3_ := Aside0.mk (Kd.R_grown2 HO.out rfl hgr (fun k e => by cases e; have := NR2.out; simp [Value.ownBlock]; omega)); have n4_ := Aside0.mk (below_grow HB.out hgr G2.out); have B3 := Aside0.mk hbox; clear hst hbox hgr B1 B2 HO HB q0; have HO := n3_; have HB := n4_; clear n3_ n4_)))
    refine bodyPost_ret (results_cell_row rfl _ _ g2 24 #[.int .i64 a0_0, .slice (some ⟨gr, 0, none⟩) l0_1.length cr] (0, 0) _ rfl B3.out Try.underlying24 rfl (by kernel_rfl)) rfl ?_
    exact ⟨_, rfl, HO.out, HB.out⟩
 ·rw [if_neg c1, Prod.mk.injEq] at hf
  obtain ⟨rfl, rfl⟩ := hf
  have HN := Aside0.mk (show (gchk a0_0 l0_1 != 0) = true from bne_iff_ne.mpr c1)
  generalize gchk a0_0 l0_1 = e0 at HG HN
  have en := HN.out
  clear c1
  go_enter Try.func36, Try.ntmps36
  go_wp2_with (first
   | ((with_reducible refine gate_dst (N := 1) rfl ?_); refine box_event ?hg (N := 1) ?hd (cs := #[.int .i64 a0_0, .slice A0_1 l0_1.length c0_1]) (t := 24) ?hr ?_; (case hd => rfl); (case hg => rfl); (case hr => first | (go_simp; done) | (go_simp; rfl)); intro g1 hg1 w1 hbox hb; have HB := Aside0.mk hb; have B1 := Aside0.mk hbox; have G1 := Aside0.mk (show w.heap.size ≤ g1 by omega); clear hb hbox hg1)
   | ((with_reducible refine gate_dst (N := 2) rfl ?_); refine box_event ?hg' (N := 2) ?hd' (cs := #[.int .i64 0, .slice none 0 0]) (t := 24) ?hr' ?_; (case hd' => rfl); (case hg' => rfl); (case hr' => first | (go_simp; done) | (go_simp; rfl)); intro g2 hg2 w2 hbox hb; have N12 := Aside0.mk (show g1 < g2 from by rw [hg2]; exact blk_lt B1.out); have B1' := Aside0.mk (blk_below B1.out hb); have B2 := Aside0.mk hbox; have HB2 := Aside0.mk (below_step HB.out hb); have G2 := Aside0.mk (show w.heap.size ≤ g2 from by rw [hg2]; exact HB.out.size); clear hb hbox hg2 B1 HB; have B1 := B1'; clear B1'; have q0 : w2.cell? ⟨g1, 0, none⟩ = some (.int .i64 a0_0) := (blk_cell B1.out 0).trans rfl; have q1 : w2.cell? ⟨g1, 1, none⟩ = some (.slice A0_1 l0_1.length c0_1) := (blk_cell B1.out 1).trans rfl)
   | (go_at_call 24; refine (HG.out _ HB2.out).mono ?_; rintro e w3 ⟨rfl, hb⟩; have n1_ := Aside0.mk (blk_below B1.out hb); have n2_ := Aside0.mk (blk_below B2.out hb); have n3_ := Aside0.mk (below_step HB2.out hb); clear hb B1 B2 HB2 q0 q1; have B1 := n1_; have B2 := n2_; have HB := n3_; clear n1_ n2_ n3_; have q0 : w3.cell? ⟨g1, 0, none⟩ = some (.int .i64 a0_0) := (blk_cell B1.out 0).trans rfl; have q1 : w3.cell? ⟨g1, 1, none⟩ = some (.slice A0_1 l0_1.length c0_1) := (blk_cell B1.out 1).trans rfl)
   | ((with_reducible refine gate_store (t := 24) (p := 2) rfl ?_); go_loud (obtain ⟨w7, hst, hbox, hgr⟩ := store24 (a' := .int .i64 0) (b' := .slice none 0 0) B2.out (by intro u hu; simp only [List.mem_cons, List.not_mem_nil, or_false] at hu; rcases hu with rfl | rfl <;> rfl); refine store_event rfl (t := 24) (p := 2) (v := .tmp 9) (w1 := w7) rfl rfl (exec_store rfl rfl rfl hst) ?_; intro wt hwt; subst hwt; have n4_ := Aside0.mk (below_grow HB.out hgr G2.out); have B3 := Aside0.mk hbox; clear hst hbox hgr B1 B2 HB q0 q1; have HB := n4_; clear n4_)))
  refine bodyPost_ret (results_cell_row rfl _ _ g2 24 #[.int .i64 0, .slice none 0 0] (0, 0) _ rfl B3.out Try.underlying24 rfl (by kernel_rfl)) rfl ?_
  exact ⟨_, rfl, Kd.R_nil _ _ _ _ _, HB.out⟩

end Go.Proofs.Ytofhgmdehglhgaa.PAll
