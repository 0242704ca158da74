/- The walk of a successful Write (package device). -/
import Derived.Test.YtfinlgckalbfoaaDw
namespace Go.Proofs.Ytfinlgckalbfoaa.PAll
open Go.RowKit Go.Proofs.YtfinlgckalbfoaaW.PrintWords Go.Proofs.YtfinlgckalbfoaaW.PrintLast Go.Proofs.YtfinlgckalbfoaaW.PrintMore
set_option linter.unusedVariables false
set_option linter.unusedSimpArgs false
attribute [local irreducible] Calls

theorem DC.fresh_step {w w1 w2 : World} {base : Nat} {ok : Nat → Prop} {p gb : Nat} {sf sl sn : Value} {d : Dv} (h : DC w base ok p sf sl sn d) (hb : Below w.heap.size w w1) (hg : w1.grownBy w2 (some gb)) (hgb : gb = w.heap.size) : DC w2 base ok p sf sl sn d :=
  (h.bound.step (fun k hk hl => (hg.block k (Nat.lt_of_lt_of_le hl hb.size) (fun e => by cases e; omega)).trans (hb.block k hl))).mono (fun k hk => hk.1)
theorem load_block {w : World} {g : Nat} {b : ByteArray} (hs : b.size = 64) (hg : w.heap[g]? = some (.cells (bcs b).toArray 54 (0, 0))) : (Instr.loadAt 54 (.pointer (some ⟨g, 0, none⟩))).run Try.prog w = .ok (.agg (bcs b).toArray) w :=
  run_loadAt_mid w g 0 54 (bcs b) _ (fun j v hv => by rw [Nat.zero_add, cell_of_row w g _ _ 54 (0, 0) hg]; simpa using hv) Try.underlying54 rfl (by rw [bcs_length, hs]; kernel_rfl)
theorem store_block {w : World} {base : Nat} {ok : Nat → Prop} {g n c : Nat} {xs : List ByteArray} {b : ByteArray} (hs : b.size = 64) (h : Kd.R kB 54 w base ok (.slice (some ⟨g, 0, none⟩) n c) xs) (i : Int) (h0 : 0 ≤ i) (h1 : i < n) :
    ∃ w1, (Instr.storeAt 54 (.pointer (some ⟨g, i.toNat * 64, none⟩)) (.agg (bcs b).toArray)).run Try.prog w = .ok () w1 ∧ Kd.R kB 54 w1 base ok (.slice (some ⟨g, 0, none⟩) n c) (xs.set i.toNat b) ∧ w.grownBy w1 (some g) := by
  obtain ⟨cs, hl, hM, hcc, hfz⟩ := Kd.R_elem h (⟨#[]⟩ : ByteArray) i h0 h1
  have hb : (bcs b).length = 64 := by rw [bcs_length]; exact hs
  obtain ⟨k1, k2⟩ := Kd.R_seg h i h0 h1 (c := cs) (seg := bcs b) (j := 0) hl hcc (by rw [hb]; decide) (x' := b) (okp := fun _ => False) (by
    rw [List.take_zero, List.nil_append, Nat.zero_add, List.drop_of_length_le (by rw [hl, hb]; decide), List.append_nil]
    exact ⟨hs, rfl⟩) (fun _ h => h.elim)
  refine ⟨w.setCells g (i.toNat * 64) (bcs b), ?_, k1, k2⟩
  obtain ⟨_, inner, ho, hr⟩ := h
  rcases ho.2 with ⟨hv, _⟩ | ⟨g', cap', cur, hv, hbb, hh, hnc, hcm, hcs, _⟩
  · cases hv
  injection hv with ha hn' hc'
  injection ha with ha
  injection ha with hg'
  subst hg'
  subst hc'
  refine run_store_run 54 _ (bcs b) hh (by simp [Value.cells]) (by rw [hb]; kernel_rfl) ?_ (bcs_one b)
  have : i.toNat < c := by omega
  rw [hb, hcs]
  show i.toNat * 64 + 64 ≤ c * 64
  omega
theorem list_range {α : Type} {n : Nat} (l : List α) (d : α) (h : l.length = n) : ∃ f : Nat → α, l = (List.range n).map f := by
  refine ⟨fun j => l.getD j d, ?_⟩
  apply List.ext_getElem
  · simp [h]
  · intro j h1 h2
    simp [List.getD_eq_getElem?_getD, List.getElem?_eq_getElem h1]
theorem build_write (w : World) (i : Int) (b : ByteArray) (hb : b.size = 64) : (Instr.build 56 #[(0, .int .i64 i), (1, .agg (bcs b).toArray)]).run Try.prog w = .ok (.agg (wcs (i, b)).toArray) w := by
  unfold wcs
  show (Instr.build 56 #[(0, .int .i64 i), (1, .agg (bcs b).toArray)]).run Try.prog w = .ok (.agg (.int .i64 i :: bcs b).toArray) w
  obtain ⟨f, hf⟩ := list_range (bcs b) undef ((bcs_length b).trans hb)
  rw [hf]
  kernel_rfl
theorem slice_write (w : World) (x : Int × ByteArray) (hb : x.2.size = 64) : (Instr.buildSlice 50 1 #[(0, .agg (wcs x).toArray)]).run Try.prog w = .ok (.slice (some ⟨w.heap.size, 0, none⟩) 1 1) (w.alloc (.cells (wcs x).toArray 56 (0, 0))) := by
  obtain ⟨f, hf⟩ := list_range (wcs x) undef (n := 65) (by simp only [wcs, List.length_cons, bcs_length]; omega)
  rw [hf]
  kernel_rfl
theorem exec_load {ev : Operand → Value} {o : Oper} {ty : TypeId} {x : Operand} {pv v : Value} {w w1 : World} (ho : o.op = .load ty x) (hx : ev x = pv) (h : (Instr.loadAt ty pv).run Try.prog w = .ok v w1) : (execOp ev o).run Try.prog w = .ok (.value v) w1 := by
  unfold execOp
  simp only [ho, hx, Sem.run_bind, Sem.run_pure, Result.andThen_ok, h]
theorem exec_store {ev : Operand → Value} {o : Oper} {ty : TypeId} {x y : Operand} {pv v : Value} {w w1 : World} (ho : o.op = .store ty x y) (hx : ev x = pv) (hy : ev y = v) (h : (Instr.storeAt ty pv v).run Try.prog w = .ok () w1) : (execOp ev o).run Try.prog w = .ok .skip w1 := by
  unfold execOp
  simp only [ho, hx, hy, Sem.run_bind, Sem.run_pure, Result.andThen_ok, h]
theorem exec_build {ev : Operand → Value} {o : Oper} {ty : TypeId} {x : Array (Nat × Operand)} {ps : Array (Nat × Value)} {v : Value} {w w1 : World} (ho : o.op = .build ty x) (hx : x.map (fun p => (p.1, ev p.2)) = ps) (h : (Instr.build ty ps).run Try.prog w = .ok v w1) : (execOp ev o).run Try.prog w = .ok (.value v) w1 := by
  unfold execOp
  simp only [ho, hx, Sem.run_bind, Sem.run_pure, Result.andThen_ok, h]
theorem exec_buildSlice {ev : Operand → Value} {o : Oper} {ty : TypeId} {n : Nat} {x : Array (Nat × Operand)} {ps : Array (Nat × Value)} {v : Value} {w w1 : World} (ho : o.op = .buildSlice ty n x) (hx : x.map (fun p => (p.1, ev p.2)) = ps) (h : (Instr.buildSlice ty n ps).run Try.prog w = .ok v w1) : (execOp ev o).run Try.prog w = .ok (.value v) w1 := by
  unfold execOp
  simp only [ho, hx, Sem.run_bind, Sem.run_pure, Result.andThen_ok, h]
theorem DC.set_now {w w1 : World} {base : Nat} {ok : Nat → Prop} {p gn n c : Nat} {sf sl : Value} {d : Dv} {xs : List ByteArray} (h : DC w base ok p sf sl (.slice (some ⟨gn, 0, none⟩) n c) d) (hr : Kd.R kB 54 w1 base ok (.slice (some ⟨gn, 0, none⟩) n c) xs) (hg : w.grownBy w1 (some gn)) : DC w1 base ok p sf sl (.slice (some ⟨gn, 0, none⟩) n c) { d with now := xs } :=
  ⟨h.bp, h.op, blk_grown h.cells hg h.npn, Kd.R_mono (ok := fun k => ok k ∧ some k ≠ some gn) (Kd.R_grown (Kd.R_flat (ok' := fun k => ok k ∧ some k ≠ some gn) (fun h => h) h.F (fun k e hk => ⟨hk, fun e2 => by cases e2; exact h.ap gn e rfl⟩)) hg (fun k hk => hk.2)) (fun k hk => hk.1), Kd.R_over h.L h.N (by decide) hg, hr, h.ap⟩
theorem DC.grown_log {w w1 : World} {base : Nat} {ok : Nat → Prop} {p : Nat} {sf sl sn sl2 : Value} {d : Dv} {xs : List (Int × ByteArray)} (h : DC w base ok p sf sl sn d) (hg : w.grownBy w1 sl.ownBlock) (hr : Kd.R kW 56 w1 base ok sl2 xs) : DC (w1.setCell ⟨p, 1, none⟩ sl2) base ok p sf sl2 sn { d with log := xs } :=
  have hc := blk_grown h.cells hg h.npl
  ⟨h.bp, h.op, blk_set hc 1 sl2, Kd.R_set (Kd.R_over h.F h.L (by decide) hg) hc (by decide) 1 sl2, Kd.R_set hr hc (by decide) 1 sl2, Kd.R_set (Kd.R_over h.N h.L (by decide) hg) hc (by decide) 1 sl2, h.ap⟩
theorem good_write {d : Dv} (h : DGood d) {i : Int} {s : ByteArray} (c1 : 0 ≤ i) (c2 : i < (d.now.length : Int)) (c3 : s.size ≤ 64) (hll : d.log.length < 1000000) : DGood (dvWrite d i s).2 := by
  unfold dvWrite
  rw [if_neg (by omega), if_neg (by omega)]
  split
  · exact h
  · refine ⟨by simpa using h.n1, by simpa using h.n2, by simpa using h.nf, by simp; omega, fun x hx => ?_⟩
    rcases List.mem_append.1 hx with hx | hx
    · simpa using h.at_ x hx
    · rw [List.mem_singleton] at hx
      subst hx
      simpa using ⟨c1, c2⟩
theorem DC.set_left {w : World} {base : Nat} {ok : Nat → Prop} {p : Nat} {sf sl sn : Value} {d : Dv} (h : DC w base ok p sf sl sn d) (n : Int) : DC (w.setCell ⟨p, 4, none⟩ (.int .i64 n)) base ok p sf sl sn { d with left := n } :=
  ⟨h.bp, h.op, blk_set h.cells 4 _, Kd.R_set h.F h.cells (by decide) 4 _, Kd.R_set h.L h.cells (by decide) 4 _, Kd.R_set h.N h.cells (by decide) 4 _, h.ap⟩
section
variable {w : World} {base : Nat} {ok : Nat → Prop} {v : Value} {d : Dv}
set_option maxHeartbeats 16000000 in
set_option maxRecDepth 1000000 in
theorem dev_Write_free (h : DR w base ok v d) (hz : base ≤ w.heap.size) (hfresh : ∀ k, w.heap.size ≤ k → ok k) (hll : d.log.length < 1000000) (i : Int) (s : ByteArray) (c1 : 0 ≤ i) (c2 : i < (d.now.length : Int)) (c3 : s.size ≤ 64) (c4 : d.lim = false) :
    Calls Try.prog 10 #[v, .int .i64 i, .string s] w fun e w' => e = .returned (.int .i64 0) ∧ DR w' base ok v (dvWrite d i s).2 ∧ Tr base ok w w' := by
  obtain ⟨g, p, sf, sl, sn, rfl, hc⟩ := h
  obtain ⟨gn, cn, rfl, _⟩ := Kd.R_form hc.N g.n1
  obtain ⟨Al, cl, rfl⟩ := Kd.R_slice hc.L
  have e2 := hc.c2
  have e3 := hc.c3
  have e4 := hc.c4
  have c1b : decide (i < 0) = false := decide_eq_false (by omega)
  have c2b : decide ((d.now.length : Int) ≤ i) = false := decide_eq_false (by omega)
  have c3b : decide ((64 : Int) < s.size) = false := decide_eq_false (by omega)
  rw [c4] at e3
  have HC := Aside0.mk hc
  have HG := Aside0.mk g
  have HS := Aside0.mk c3
  clear hc g
  go_enter Try.func10, Try.ntmps10
  go_wp2_with (first
    | ((with_reducible refine gate_dst (N := 7) rfl ?_); refine box_event rfl (N := 7) rfl (cs := (bcs zB).toArray) (t := 54) rfl ?_; intro gb hgb w1 hbox hb; have HBX := Aside0.mk hbox; have HGB := Aside0.mk hgb; have HBB := Aside0.mk hb; clear hbox hgb hb)
    | ((with_reducible refine gate_builtin (b := .copy) (xs := #[.tmp 39, .tmp 40]) rfl ?_); obtain ⟨w2, hrun, hr, hgr⟩ := copy_str 3 HS.out HBX.out; refine Kd.event_run rfl (w1 := w2) (v := goInt s.size) ?hrun ?_; (case hrun => (unfold execOp; simp only [resolve, invoke, builtin, Sem.run_bind, Sem.run_pure, Result.andThen_ok, List.map_toArray, List.map_cons, List.map_nil]; show Result.andThen (Sem.run Try.prog (Builtin.copy_ #[47, 9] 3 #[.slice (some ⟨gb, 0, none⟩) 64 64, .string s]) w1) _ = _; rw [hrun]; rfl)); have HC2 := Aside0.mk (HC.out.fresh_step HBB.out hgr HGB.out); have HT2 := Aside0.mk (((Tr.refl base ok w).below HBB.out hz).grown hgr (fun k e => by cases e; have := HGB.out; exact ⟨by omega, hfresh _ (by omega)⟩) (Nat.le_trans hz HBB.out.size)); have HZ2 := Aside0.mk (Nat.le_trans HBB.out.size hgr.size); have HBY := Aside0.mk hr; clear hr hgr hrun e2 e3 e4 HBX))
  have n1_ := Aside0.mk (show DC w2.drew base ok p sf (.slice Al d.log.length cl) (.slice (some ⟨gn, 0, none⟩) d.now.length cn) d from HC2.out.step (fun _ _ _ => rfl))
  have n2_ := Aside0.mk HT2.out.drew
  have n3_ := Aside0.mk (show w.heap.size ≤ w2.drew.heap.size from HZ2.out)
  have n4_ := Aside0.mk (blk_drew HBY.out)
  clear HC2 HT2 HZ2 HBY
  have HC2 := n1_
  have HT2 := n2_
  have HZ2 := n3_
  have HBY := n4_
  clear n1_ n2_ n3_ n4_
  refine start_ (n := 8) (S := fun w' => w'.cell? ⟨p, 2, none⟩ = some (.slice (some ⟨gn, 0, none⟩) d.now.length cn) ∧ w'.heap[gb]? = some (.cells (bcs (padB s)).toArray 54 (0, 0))) (ds := [7]) #[false, false, false, false, false, false, false, false] (by kernel_rfl) rfl rfl (⟨HC2.out.c2, HBY.out⟩) (fun hHeld => ?_)
  generalize w2.drew = w3 at HC2 HT2 HZ2 HBY hHeld ⊢
  refine pure_ (i := 0) (N := some 42) (v := ?_) (a' := ?_) #[true, false, false, false, false, false, false, false] rfl rfl (by kernel_rfl) (fun _ _ _ h => h) (Or.inl ⟨by rfl, ?_⟩) ?_ ?_
  rotate_left
  · intro w'
    go_simp
    with_reducible rfl
  rotate_left
  · simp only [Act.put, List.setIfInBounds_toArray, List.set_cons_zero, List.set_cons_succ, i64_w, i32_w]
    rfl
  refine pure_ (i := 1) (N := some 43) (v := ?_) (a' := ?_) #[true, true, false, false, false, false, false, false] rfl rfl (by kernel_rfl) (fun _ _ _ h => h) (Or.inl ⟨by rfl, ?_⟩) ?_ ?_
  rotate_left
  · intro w'
    go_simp
    with_reducible rfl
  rotate_left
  · simp only [Act.put, List.setIfInBounds_toArray, List.set_cons_zero, List.set_cons_succ, i64_w, i32_w]
    rfl
  refine pure_ (i := 2) (N := some 44) (v := ?_) (a' := ?_) #[true, true, true, false, false, false, false, false] rfl rfl (by kernel_rfl) (fun _ _ _ h => h) (Or.inl ⟨by rfl, ?_⟩) ?_ ?_
  rotate_left
  · intro w'
    go_simp
    with_reducible rfl
  rotate_left
  · simp only [Act.put, List.setIfInBounds_toArray, List.set_cons_zero, List.set_cons_succ, i64_w, i32_w]
    rfl
  refine take_ (i := 3) (N := some 45) (v := ?_) (a' := ?_) #[true, true, true, true, false, false, false, false] rfl rfl (by kernel_rfl) (fun _ _ _ h => h) (Or.inl ⟨by rfl, ?_⟩) hHeld ?_ ?_
  rotate_left
  · rintro w' hS
    have hx0 := hS.1
    go_simp
    with_reducible rfl
  rotate_left
  · simp only [Act.put, List.setIfInBounds_toArray, List.set_cons_zero, List.set_cons_succ, i64_w, i32_w]
    rfl
  refine pure_ (i := 4) (N := some 46) (v := ?_) (a' := ?_) #[true, true, true, true, true, false, false, false] rfl rfl (by kernel_rfl) (fun _ _ _ h => h) (Or.inl ⟨by rfl, ?_⟩) ?_ ?_
  rotate_left
  · intro w'
    go_simp
    with_reducible rfl
  rotate_left
  · simp only [Act.put, List.setIfInBounds_toArray, List.set_cons_zero, List.set_cons_succ, i64_w, i32_w]
    rfl
  refine take_ (i := 5) (N := some 47) (v := .agg (bcs (padB s)).toArray) (a' := ?_) #[true, true, true, true, true, true, false, false] rfl rfl (by kernel_rfl) (fun _ _ _ h => h) (Or.inl ⟨by rfl, ?_⟩) hHeld ?_ ?_
  · rintro w' hS
    exact exec_load rfl rfl (load_block (padB_size HS.out) hS.2)
  rotate_left
  · simp only [Act.put, List.setIfInBounds_toArray, List.set_cons_zero, List.set_cons_succ, i64_w, i32_w]
    rfl
  refine pure_ (i := 6) (N := some 48) (v := ?_) (a' := ?_) #[true, true, true, true, true, true, true, false] rfl rfl (by kernel_rfl) (fun _ _ _ h => h) (Or.inl ⟨by rfl, ?_⟩) ?_ ?_
  rotate_left
  · intro w'
    go_simp
    with_reducible rfl
  rotate_left
  · simp only [Act.put, List.setIfInBounds_toArray, List.set_cons_zero, List.set_cons_succ, i64_w, i32_w]
    rfl
  obtain ⟨w4, hst, hrow, hgr⟩ := store_block (padB_size HS.out) HC2.out.N i c1 c2
  refine last_ (i := 7) (N := none) #[true, true, true, true, true, true, true, true] rfl rfl (by kernel_rfl) (by decide) (fun K hK => ?_)
  refine skip_ (w1 := w4) (by rfl) rfl ?_ ?_
  · exact exec_store rfl rfl rfl hst
  have n1_ := Aside0.mk (HC2.out.set_now hrow hgr)
  have n2_ := Aside0.mk (HT2.out.grown hgr (fun k e => by cases e; exact ⟨Kd.R_base HC2.out.N gn rfl, HC2.out.N.1 gn rfl⟩) (Nat.le_trans hz HZ2.out))
  have n3_ := Aside0.mk (Nat.le_trans HZ2.out hgr.size)
  have n4_ := Aside0.mk (show w4.heap[gb]? = some (.cells (bcs (padB s)).toArray 54 (0, 0)) from blk_grown HBY.out hgr (fun e => by cases e; have := HGB.out; omega))
  clear HC2 HT2 HZ2 HBY hrow hgr hst
  have HC2 := n1_
  have HT2 := n2_
  have HZ2 := n3_
  have HBY := n4_
  clear n1_ n2_ n3_ n4_ hHeld
  refine hK.out _ _ ?_
  clear hK K
  refine done_ (by kernel_rfl) ?_
  go_wp2
  have n1_ := Aside0.mk (show DC w4.drew base ok p sf (.slice Al d.log.length cl) (.slice (some ⟨gn, 0, none⟩) d.now.length cn) { d with now := d.now.set i.toNat (padB s) } from HC2.out.step (fun _ _ _ => rfl))
  have n2_ := Aside0.mk HT2.out.drew
  have n3_ := Aside0.mk (show w.heap.size ≤ w4.drew.heap.size from HZ2.out)
  have n4_ := Aside0.mk (blk_drew HBY.out)
  clear HC2 HT2 HZ2 HBY
  have HC2 := n1_
  have HT2 := n2_
  have HZ2 := n3_
  have HBY := n4_
  clear n1_ n2_ n3_ n4_
  refine start_ (n := 13) (S := fun w' => w'.cell? ⟨p, 1, none⟩ = some (.slice Al d.log.length cl) ∧ w'.heap[gb]? = some (.cells (bcs (padB s)).toArray 54 (0, 0))) (ds := [12]) #[false, false, false, false, false, false, false, false, false, false, false, false, false] (by kernel_rfl) rfl rfl (⟨HC2.out.c1, HBY.out⟩) (fun hHeld => ?_)
  generalize w4.drew = w5 at HC2 HT2 HZ2 HBY hHeld ⊢
  refine pure_ (i := 0) (N := some 49) (v := ?_) (a' := ?_) #[true, false, false, false, false, false, false, false, false, false, false, false, false] rfl rfl (by kernel_rfl) (fun _ _ _ h => h) (Or.inl ⟨by rfl, ?_⟩) ?_ ?_
  rotate_left
  · intro w'
    go_simp
    with_reducible rfl
  rotate_left
  · simp only [Act.put, List.setIfInBounds_toArray, List.set_cons_zero, List.set_cons_succ, i64_w, i32_w]
    rfl
  refine pure_ (i := 1) (N := some 50) (v := ?_) (a' := ?_) #[true, true, false, false, false, false, false, false, false, false, false, false, false] rfl rfl (by kernel_rfl) (fun _ _ _ h => h) (Or.inl ⟨by rfl, ?_⟩) ?_ ?_
  rotate_left
  · intro w'
    go_simp
    with_reducible rfl
  rotate_left
  · simp only [Act.put, List.setIfInBounds_toArray, List.set_cons_zero, List.set_cons_succ, i64_w, i32_w]
    rfl
  refine pure_ (i := 2) (N := some 51) (v := ?_) (a' := ?_) #[true, true, true, false, false, false, false, false, false, false, false, false, false] rfl rfl (by kernel_rfl) (fun _ _ _ h => h) (Or.inl ⟨by rfl, ?_⟩) ?_ ?_
  rotate_left
  · intro w'
    go_simp
    with_reducible rfl
  rotate_left
  · simp only [Act.put, List.setIfInBounds_toArray, List.set_cons_zero, List.set_cons_succ, i64_w, i32_w]
    rfl
  refine pure_ (i := 3) (N := some 52) (v := ?_) (a' := ?_) #[true, true, true, true, false, false, false, false, false, false, false, false, false] rfl rfl (by kernel_rfl) (fun _ _ _ h => h) (Or.inl ⟨by rfl, ?_⟩) ?_ ?_
  rotate_left
  · intro w'
    go_simp
    with_reducible rfl
  rotate_left
  · simp only [Act.put, List.setIfInBounds_toArray, List.set_cons_zero, List.set_cons_succ, i64_w, i32_w]
    rfl
  refine take_ (i := 4) (N := some 53) (v := ?_) (a' := ?_) #[true, true, true, true, true, false, false, false, false, false, false, false, false] rfl rfl (by kernel_rfl) (fun _ _ _ h => h) (Or.inl ⟨by rfl, ?_⟩) hHeld ?_ ?_
  rotate_left
  · rintro w' hS
    have hx0 := hS.1
    go_simp
    with_reducible rfl
  rotate_left
  · simp only [Act.put, List.setIfInBounds_toArray, List.set_cons_zero, List.set_cons_succ, i64_w, i32_w]
    rfl
  refine pure_ (i := 5) (N := some 54) (v := ?_) (a' := ?_) #[true, true, true, true, true, true, false, false, false, false, false, false, false] rfl rfl (by kernel_rfl) (fun _ _ _ h => h) (Or.inl ⟨by rfl, ?_⟩) ?_ ?_
  rotate_left
  · intro w'
    go_simp
    with_reducible rfl
  rotate_left
  · simp only [Act.put, List.setIfInBounds_toArray, List.set_cons_zero, List.set_cons_succ, i64_w, i32_w]
    rfl
  refine take_ (i := 6) (N := some 55) (v := .agg (bcs (padB s)).toArray) (a' := ?_) #[true, true, true, true, true, true, true, false, false, false, false, false, false] rfl rfl (by kernel_rfl) (fun _ _ _ h => h) (Or.inl ⟨by rfl, ?_⟩) hHeld ?_ ?_
  · rintro w' hS
    exact exec_load rfl rfl (load_block (padB_size HS.out) hS.2)
  rotate_left
  · simp only [Act.put, List.setIfInBounds_toArray, List.set_cons_zero, List.set_cons_succ, i64_w, i32_w]
    rfl
  refine pure_ (i := 7) (N := some 56) (v := .agg (wcs (i, padB s)).toArray) (a' := ?_) #[true, true, true, true, true, true, true, true, false, false, false, false, false] rfl rfl (by kernel_rfl) (fun _ _ _ h => h) (Or.inl ⟨by rfl, ?_⟩) ?_ ?_
  · intro w'
    exact exec_build (ps := #[(0, .int .i64 i), (1, .agg (bcs (padB s)).toArray)]) rfl (by first | rfl | (simp [Act.eval]; done)) (build_write w' i (padB s) (padB_size HS.out))
  rotate_left
  · simp only [Act.put, List.setIfInBounds_toArray, List.set_cons_zero, List.set_cons_succ, i64_w, i32_w]
    rfl
  refine one_ (i := 8) (N := some 57) #[true, true, true, true, true, true, true, true, true, false, false, false, false] rfl rfl (by kernel_rfl) (by decide) (fun K hK => ?_)
  refine value_ (v := .slice (some ⟨w5.heap.size, 0, none⟩) 1 1) (w1 := w5.alloc (.cells (wcs (i, padB s)).toArray 56 (0, 0))) (by rfl) rfl (exec_buildSlice (ps := #[(0, .agg (wcs (i, padB s)).toArray)]) rfl (by first | rfl | (simp [Act.eval]; done)) (slice_write w5 (i, padB s) (padB_size HS.out))) ?_
  refine hK.out _ _ ⟨(blk_cell (blk_alloc HC2.out.cells _) 1).trans rfl, blk_alloc HBY.out _⟩ (fun hHeld => ?_)
  clear hK K
  refine norm_ (a' := ?_) ?_ ?_
  rotate_left
  · show Act.put _ (some 57) _ = _
    simp only [Act.put, List.setIfInBounds_toArray, List.set_cons_zero, List.set_cons_succ, i64_w, i32_w]
    rfl
  refine one_ (i := 9) (N := some 58) #[true, true, true, true, true, true, true, true, true, true, false, false, false] rfl rfl (by kernel_rfl) (by decide) (fun K hK => ?_)
  refine Kd.R_append_step kW (w0 := w5) base (by rfl) (.tmp 53) (.tmp 57) 50 56 (.agg (wcs (0, zB)).toArray) 72 rfl Try.underlying50 info56 (by show (wcs (0, zB)).toArray.size = 65; rw [List.size_toArray]; simp only [wcs, List.length_cons, bcs_length]; rfl) (by decide) (by omega) (.slice Al d.log.length cl) d.log (i, padB s) (wcs (i, padB s)) ok (fun _ => False) rfl rfl ⟨padB_size HS.out, rfl⟩ (fun _ h => h.elim) (fun k hk => hfresh k (Nat.le_trans HZ2.out hk)) HC2.out.L (Below.refl _ _) (Nat.le_trans hz HZ2.out) (by omega) ?_
  intro v1 w6 ho hb hg hat
  obtain ⟨A2, c2', ev1⟩ := Kd.R_slice ho
  subst ev1
  have hp6 := blk_grown HC2.out.cells hg HC2.out.npl
  have n1_ := Aside0.mk (HC2.out.grown_log hg ho)
  have n2_ := Aside0.mk (HT2.out.grown hg (fun k e => ⟨Kd.R_base HC2.out.L k e.symm.symm, HC2.out.L.1 k e⟩) (Nat.le_trans hz HZ2.out))
  have n5_ := Aside0.mk (show base ≤ p ∧ ok p from ⟨HC2.out.bp, HC2.out.op⟩)
  have e1 : w6.cell? ⟨p, 1, none⟩ = some (.slice Al d.log.length cl) := (blk_cell hp6 1).trans rfl
  have f1 : w6.frozen? ⟨p, 1, none⟩ = false := blk_frozen hp6 1
  have n4_ := blk_grown HBY.out hg (Kd.R_ne HC2.out.L HBY.out (by decide))
  clear HC2 HT2 HZ2 HBY hb hat ho hp6 hHeld
  refine hK.out _ _ ⟨e1, n4_⟩ (fun hHeld => ?_)
  clear hK K
  refine norm_ (a' := ?_) ?_ ?_
  rotate_left
  · show Act.put _ (some 58) _ = _
    simp only [Act.put, List.setIfInBounds_toArray, List.set_cons_zero, List.set_cons_succ, i64_w, i32_w]
    rfl
  refine pure_ (i := 10) (N := some 59) (v := ?_) (a' := ?_) #[true, true, true, true, true, true, true, true, true, true, true, false, false] rfl rfl (by kernel_rfl) (fun _ _ _ h => h) (Or.inl ⟨by rfl, ?_⟩) ?_ ?_
  rotate_left
  · intro w'
    go_simp
    with_reducible rfl
  rotate_left
  · simp only [Act.put, List.setIfInBounds_toArray, List.set_cons_zero, List.set_cons_succ, i64_w, i32_w]
    rfl
  refine pure_ (i := 11) (N := some 60) (v := ?_) (a' := ?_) #[true, true, true, true, true, true, true, true, true, true, true, true, false] rfl rfl (by kernel_rfl) (fun _ _ _ h => h) (Or.inl ⟨by rfl, ?_⟩) ?_ ?_
  rotate_left
  · intro w'
    go_simp
    with_reducible rfl
  rotate_left
  · simp only [Act.put, List.setIfInBounds_toArray, List.set_cons_zero, List.set_cons_succ, i64_w, i32_w]
    rfl
  refine last_ (i := 12) (N := none) #[true, true, true, true, true, true, true, true, true, true, true, true, true] rfl rfl (by kernel_rfl) (by decide) (fun K hK => ?_)
  refine skip_ (w1 := w6.setCell ⟨p, 1, none⟩ (.slice A2 (d.log ++ [(i, padB s)]).length c2')) (by rfl) rfl ?_ ?_
  · first | (go_simp; done) | (go_simp; rfl)
  refine hK.out _ _ ?_
  clear hK K
  have HC2 := n1_
  have HT2 := Aside0.mk (n2_.out.set n5_.out.1 n5_.out.2 1 (.slice A2 (d.log ++ [(i, padB s)]).length c2'))
  generalize w6.setCell ⟨p, 1, none⟩ (.slice A2 (d.log ++ [(i, padB s)]).length c2') = w7 at *
  clear n1_ n2_ n4_ e1 f1 hHeld hg
  refine done_ (by kernel_rfl) ?_
  have e3 := HC2.out.c3
  have e4 := HC2.out.c4
  have f4 := HC2.out.fz 4
  rw [c4] at e3
  go_wp2
  go_ret
  refine ⟨by first | rfl | (simp; done), ⟨?_, p, sf, .slice A2 (d.log ++ [(i, padB s)]).length c2', .slice (some ⟨gn, 0, none⟩) d.now.length cn, rfl, ?_⟩, HT2.out⟩
  · exact good_write HG.out c1 c2 c3 hll
  · unfold dvWrite
    rw [if_neg (by omega), if_neg (by omega), if_neg (by simp [c4]), if_neg (by simp [c4])]
    exact HC2.out

end
section
variable {w : World} {base : Nat} {ok : Nat → Prop} {v : Value} {d : Dv}
set_option maxHeartbeats 16000000 in
set_option maxRecDepth 1000000 in
theorem dev_Write_lim (h : DR w base ok v d) (hz : base ≤ w.heap.size) (hfresh : ∀ k, w.heap.size ≤ k → ok k) (hll : d.log.length < 1000000) (i : Int) (s : ByteArray) (c1 : 0 ≤ i) (c2 : i < (d.now.length : Int)) (c3 : s.size ≤ 64) (c4 : d.lim = true) (c5 : d.left ≠ 0) :
    Calls Try.prog 10 #[v, .int .i64 i, .string s] w fun e w' => e = .returned (.int .i64 0) ∧ DR w' base ok v (dvWrite d i s).2 ∧ Tr base ok w w' := by
  obtain ⟨g, p, sf, sl, sn, rfl, hc⟩ := h
  obtain ⟨gn, cn, rfl, _⟩ := Kd.R_form hc.N g.n1
  obtain ⟨Al, cl, rfl⟩ := Kd.R_slice hc.L
  have e2 := hc.c2
  have e3 := hc.c3
  have e4 := hc.c4
  have c1b : decide (i < 0) = false := decide_eq_false (by omega)
  have c2b : decide ((d.now.length : Int) ≤ i) = false := decide_eq_false (by omega)
  have c3b : decide ((64 : Int) < s.size) = false := decide_eq_false (by omega)
  rw [c4] at e3
  have c5b : (d.left == 0) = false := by simpa using c5
  have HC := Aside0.mk hc
  have HG := Aside0.mk g
  have HS := Aside0.mk c3
  clear hc g
  go_enter Try.func10, Try.ntmps10
  go_wp2_with (first
    | ((with_reducible refine gate_dst (N := 7) rfl ?_); refine box_event rfl (N := 7) rfl (cs := (bcs zB).toArray) (t := 54) rfl ?_; intro gb hgb w1 hbox hb; have HBX := Aside0.mk hbox; have HGB := Aside0.mk hgb; have HBB := Aside0.mk hb; clear hbox hgb hb)
    | ((with_reducible refine gate_builtin (b := .copy) (xs := #[.tmp 39, .tmp 40]) rfl ?_); obtain ⟨w2, hrun, hr, hgr⟩ := copy_str 3 HS.out HBX.out; refine Kd.event_run rfl (w1 := w2) (v := goInt s.size) ?hrun ?_; (case hrun => (unfold execOp; simp only [resolve, invoke, builtin, Sem.run_bind, Sem.run_pure, Result.andThen_ok, List.map_toArray, List.map_cons, List.map_nil]; show Result.andThen (Sem.run Try.prog (Builtin.copy_ #[47, 9] 3 #[.slice (some ⟨gb, 0, none⟩) 64 64, .string s]) w1) _ = _; rw [hrun]; rfl)); have HC2 := Aside0.mk (HC.out.fresh_step HBB.out hgr HGB.out); have HT2 := Aside0.mk (((Tr.refl base ok w).below HBB.out hz).grown hgr (fun k e => by cases e; have := HGB.out; exact ⟨by omega, hfresh _ (by omega)⟩) (Nat.le_trans hz HBB.out.size)); have HZ2 := Aside0.mk (Nat.le_trans HBB.out.size hgr.size); have HBY := Aside0.mk hr; clear hr hgr hrun e2 e3 e4 HBX))
  have n1_ := Aside0.mk (show DC w2.drew base ok p sf (.slice Al d.log.length cl) (.slice (some ⟨gn, 0, none⟩) d.now.length cn) d from HC2.out.step (fun _ _ _ => rfl))
  have n2_ := Aside0.mk HT2.out.drew
  have n3_ := Aside0.mk (show w.heap.size ≤ w2.drew.heap.size from HZ2.out)
  have n4_ := Aside0.mk (blk_drew HBY.out)
  clear HC2 HT2 HZ2 HBY
  have HC2 := n1_
  have HT2 := n2_
  have HZ2 := n3_
  have HBY := n4_
  clear n1_ n2_ n3_ n4_
  refine start_ (n := 8) (S := fun w' => w'.cell? ⟨p, 2, none⟩ = some (.slice (some ⟨gn, 0, none⟩) d.now.length cn) ∧ w'.heap[gb]? = some (.cells (bcs (padB s)).toArray 54 (0, 0))) (ds := [7]) #[false, false, false, false, false, false, false, false] (by kernel_rfl) rfl rfl (⟨HC2.out.c2, HBY.out⟩) (fun hHeld => ?_)
  generalize w2.drew = w3 at HC2 HT2 HZ2 HBY hHeld ⊢
  refine pure_ (i := 0) (N := some 42) (v := ?_) (a' := ?_) #[true, false, false, false, false, false, false, false] rfl rfl (by kernel_rfl) (fun _ _ _ h => h) (Or.inl ⟨by rfl, ?_⟩) ?_ ?_
  rotate_left
  · intro w'
    go_simp
    with_reducible rfl
  rotate_left
  · simp only [Act.put, List.setIfInBounds_toArray, List.set_cons_zero, List.set_cons_succ, i64_w, i32_w]
    rfl
  refine pure_ (i := 1) (N := some 43) (v := ?_) (a' := ?_) #[true, true, false, false, false, false, false, false] rfl rfl (by kernel_rfl) (fun _ _ _ h => h) (Or.inl ⟨by rfl, ?_⟩) ?_ ?_
  rotate_left
  · intro w'
    go_simp
    with_reducible rfl
  rotate_left
  · simp only [Act.put, List.setIfInBounds_toArray, List.set_cons_zero, List.set_cons_succ, i64_w, i32_w]
    rfl
  refine pure_ (i := 2) (N := some 44) (v := ?_) (a' := ?_) #[true, true, true, false, false, false, false, false] rfl rfl (by kernel_rfl) (fun _ _ _ h => h) (Or.inl ⟨by rfl, ?_⟩) ?_ ?_
  rotate_left
  · intro w'
    go_simp
    with_reducible rfl
  rotate_left
  · simp only [Act.put, List.setIfInBounds_toArray, List.set_cons_zero, List.set_cons_succ, i64_w, i32_w]
    rfl
  refine take_ (i := 3) (N := some 45) (v := ?_) (a' := ?_) #[true, true, true, true, false, false, false, false] rfl rfl (by kernel_rfl) (fun _ _ _ h => h) (Or.inl ⟨by rfl, ?_⟩) hHeld ?_ ?_
  rotate_left
  · rintro w' hS
    have hx0 := hS.1
    go_simp
    with_reducible rfl
  rotate_left
  · simp only [Act.put, List.setIfInBounds_toArray, List.set_cons_zero, List.set_cons_succ, i64_w, i32_w]
    rfl
  refine pure_ (i := 4) (N := some 46) (v := ?_) (a' := ?_) #[true, true, true, true, true, false, false, false] rfl rfl (by kernel_rfl) (fun _ _ _ h => h) (Or.inl ⟨by rfl, ?_⟩) ?_ ?_
  rotate_left
  · intro w'
    go_simp
    with_reducible rfl
  rotate_left
  · simp only [Act.put, List.setIfInBounds_toArray, List.set_cons_zero, List.set_cons_succ, i64_w, i32_w]
    rfl
  refine take_ (i := 5) (N := some 47) (v := .agg (bcs (padB s)).toArray) (a' := ?_) #[true, true, true, true, true, true, false, false] rfl rfl (by kernel_rfl) (fun _ _ _ h => h) (Or.inl ⟨by rfl, ?_⟩) hHeld ?_ ?_
  · rintro w' hS
    exact exec_load rfl rfl (load_block (padB_size HS.out) hS.2)
  rotate_left
  · simp only [Act.put, List.setIfInBounds_toArray, List.set_cons_zero, List.set_cons_succ, i64_w, i32_w]
    rfl
  refine pure_ (i := 6) (N := some 48) (v := ?_) (a' := ?_) #[true, true, true, true, true, true, true, false] rfl rfl (by kernel_rfl) (fun _ _ _ h => h) (Or.inl ⟨by rfl, ?_⟩) ?_ ?_
  rotate_left
  · intro w'
    go_simp
    with_reducible rfl
  rotate_left
  · simp only [Act.put, List.setIfInBounds_toArray, List.set_cons_zero, List.set_cons_succ, i64_w, i32_w]
    rfl
  obtain ⟨w4, hst, hrow, hgr⟩ := store_block (padB_size HS.out) HC2.out.N i c1 c2
  refine last_ (i := 7) (N := none) #[true, true, true, true, true, true, true, true] rfl rfl (by kernel_rfl) (by decide) (fun K hK => ?_)
  refine skip_ (w1 := w4) (by rfl) rfl ?_ ?_
  · exact exec_store rfl rfl rfl hst
  have n1_ := Aside0.mk (HC2.out.set_now hrow hgr)
  have n2_ := Aside0.mk (HT2.out.grown hgr (fun k e => by cases e; exact ⟨Kd.R_base HC2.out.N gn rfl, HC2.out.N.1 gn rfl⟩) (Nat.le_trans hz HZ2.out))
  have n3_ := Aside0.mk (Nat.le_trans HZ2.out hgr.size)
  have n4_ := Aside0.mk (show w4.heap[gb]? = some (.cells (bcs (padB s)).toArray 54 (0, 0)) from blk_grown HBY.out hgr (fun e => by cases e; have := HGB.out; omega))
  clear HC2 HT2 HZ2 HBY hrow hgr hst
  have HC2 := n1_
  have HT2 := n2_
  have HZ2 := n3_
  have HBY := n4_
  clear n1_ n2_ n3_ n4_ hHeld
  refine hK.out _ _ ?_
  clear hK K
  refine done_ (by kernel_rfl) ?_
  go_wp2
  have n1_ := Aside0.mk (show DC w4.drew base ok p sf (.slice Al d.log.length cl) (.slice (some ⟨gn, 0, none⟩) d.now.length cn) { d with now := d.now.set i.toNat (padB s) } from HC2.out.step (fun _ _ _ => rfl))
  have n2_ := Aside0.mk HT2.out.drew
  have n3_ := Aside0.mk (show w.heap.size ≤ w4.drew.heap.size from HZ2.out)
  have n4_ := Aside0.mk (blk_drew HBY.out)
  clear HC2 HT2 HZ2 HBY
  have HC2 := n1_
  have HT2 := n2_
  have HZ2 := n3_
  have HBY := n4_
  clear n1_ n2_ n3_ n4_
  refine start_ (n := 13) (S := fun w' => w'.cell? ⟨p, 1, none⟩ = some (.slice Al d.log.length cl) ∧ w'.heap[gb]? = some (.cells (bcs (padB s)).toArray 54 (0, 0))) (ds := [12]) #[false, false, false, false, false, false, false, false, false, false, false, false, false] (by kernel_rfl) rfl rfl (⟨HC2.out.c1, HBY.out⟩) (fun hHeld => ?_)
  generalize w4.drew = w5 at HC2 HT2 HZ2 HBY hHeld ⊢
  refine pure_ (i := 0) (N := some 49) (v := ?_) (a' := ?_) #[true, false, false, false, false, false, false, false, false, false, false, false, false] rfl rfl (by kernel_rfl) (fun _ _ _ h => h) (Or.inl ⟨by rfl, ?_⟩) ?_ ?_
  rotate_left
  · intro w'
    go_simp
    with_reducible rfl
  rotate_left
  · simp only [Act.put, List.setIfInBounds_toArray, List.set_cons_zero, List.set_cons_succ, i64_w, i32_w]
    rfl
  refine pure_ (i := 1) (N := some 50) (v := ?_) (a' := ?_) #[true, true, false, false, false, false, false, false, false, false, false, false, false] rfl rfl (by kernel_rfl) (fun _ _ _ h => h) (Or.inl ⟨by rfl, ?_⟩) ?_ ?_
  rotate_left
  · intro w'
    go_simp
    with_reducible rfl
  rotate_left
  · simp only [Act.put, List.setIfInBounds_toArray, List.set_cons_zero, List.set_cons_succ, i64_w, i32_w]
    rfl
  refine pure_ (i := 2) (N := some 51) (v := ?_) (a' := ?_) #[true, true, true, false, false, false, false, false, false, false, false, false, false] rfl rfl (by kernel_rfl) (fun _ _ _ h => h) (Or.inl ⟨by rfl, ?_⟩) ?_ ?_
  rotate_left
  · intro w'
    go_simp
    with_reducible rfl
  rotate_left
  · simp only [Act.put, List.setIfInBounds_toArray, List.set_cons_zero, List.set_cons_succ, i64_w, i32_w]
    rfl
  refine pure_ (i := 3) (N := some 52) (v := ?_) (a' := ?_) #[true, true, true, true, false, false, false, false, false, false, false, false, false] rfl rfl (by kernel_rfl) (fun _ _ _ h => h) (Or.inl ⟨by rfl, ?_⟩) ?_ ?_
  rotate_left
  · intro w'
    go_simp
    with_reducible rfl
  rotate_left
  · simp only [Act.put, List.setIfInBounds_toArray, List.set_cons_zero, List.set_cons_succ, i64_w, i32_w]
    rfl
  refine take_ (i := 4) (N := some 53) (v := ?_) (a' := ?_) #[true, true, true, true, true, false, false, false, false, false, false, false, false] rfl rfl (by kernel_rfl) (fun _ _ _ h => h) (Or.inl ⟨by rfl, ?_⟩) hHeld ?_ ?_
  rotate_left
  · rintro w' hS
    have hx0 := hS.1
    go_simp
    with_reducible rfl
  rotate_left
  · simp only [Act.put, List.setIfInBounds_toArray, List.set_cons_zero, List.set_cons_succ, i64_w, i32_w]
    rfl
  refine pure_ (i := 5) (N := some 54) (v := ?_) (a' := ?_) #[true, true, true, true, true, true, false, false, false, false, false, false, false] rfl rfl (by kernel_rfl) (fun _ _ _ h => h) (Or.inl ⟨by rfl, ?_⟩) ?_ ?_
  rotate_left
  · intro w'
    go_simp
    with_reducible rfl
  rotate_left
  · simp only [Act.put, List.setIfInBounds_toArray, List.set_cons_zero, List.set_cons_succ, i64_w, i32_w]
    rfl
  refine take_ (i := 6) (N := some 55) (v := .agg (bcs (padB s)).toArray) (a' := ?_) #[true, true, true, true, true, true, true, false, false, false, false, false, false] rfl rfl (by kernel_rfl) (fun _ _ _ h => h) (Or.inl ⟨by rfl, ?_⟩) hHeld ?_ ?_
  · rintro w' hS
    exact exec_load rfl rfl (load_block (padB_size HS.out) hS.2)
  rotate_left
  · simp only [Act.put, List.setIfInBounds_toArray, List.set_cons_zero, List.set_cons_succ, i64_w, i32_w]
    rfl
  refine pure_ (i := 7) (N := some 56) (v := .agg (wcs (i, padB s)).toArray) (a' := ?_) #[true, true, true, true, true, true, true, true, false, false, false, false, false] rfl rfl (by kernel_rfl) (fun _ _ _ h => h) (Or.inl ⟨by rfl, ?_⟩) ?_ ?_
  · intro w'
    exact exec_build (ps := #[(0, .int .i64 i), (1, .agg (bcs (padB s)).toArray)]) rfl (by first | rfl | (simp [Act.eval]; done)) (build_write w' i (padB s) (padB_size HS.out))
  rotate_left
  · simp only [Act.put, List.setIfInBounds_toArray, List.set_cons_zero, List.set_cons_succ, i64_w, i32_w]
    rfl
  refine one_ (i := 8) (N := some 57) #[true, true, true, true, true, true, true, true, true, false, false, false, false] rfl rfl (by kernel_rfl) (by decide) (fun K hK => ?_)
  refine value_ (v := .slice (some ⟨w5.heap.size, 0, none⟩) 1 1) (w1 := w5.alloc (.cells (wcs (i, padB s)).toArray 56 (0, 0))) (by rfl) rfl (exec_buildSlice (ps := #[(0, .agg (wcs (i, padB s)).toArray)]) rfl (by first | rfl | (simp [Act.eval]; done)) (slice_write w5 (i, padB s) (padB_size HS.out))) ?_
  refine hK.out _ _ ⟨(blk_cell (blk_alloc HC2.out.cells _) 1).trans rfl, blk_alloc HBY.out _⟩ (fun hHeld => ?_)
  clear hK K
  refine norm_ (a' := ?_) ?_ ?_
  rotate_left
  · show Act.put _ (some 57) _ = _
    simp only [Act.put, List.setIfInBounds_toArray, List.set_cons_zero, List.set_cons_succ, i64_w, i32_w]
    rfl
  refine one_ (i := 9) (N := some 58) #[true, true, true, true, true, true, true, true, true, true, false, false, false] rfl rfl (by kernel_rfl) (by decide) (fun K hK => ?_)
  refine Kd.R_append_step kW (w0 := w5) base (by rfl) (.tmp 53) (.tmp 57) 50 56 (.agg (wcs (0, zB)).toArray) 72 rfl Try.underlying50 info56 (by show (wcs (0, zB)).toArray.size = 65; rw [List.size_toArray]; simp only [wcs, List.length_cons, bcs_length]; rfl) (by decide) (by omega) (.slice Al d.log.length cl) d.log (i, padB s) (wcs (i, padB s)) ok (fun _ => False) rfl rfl ⟨padB_size HS.out, rfl⟩ (fun _ h => h.elim) (fun k hk => hfresh k (Nat.le_trans HZ2.out hk)) HC2.out.L (Below.refl _ _) (Nat.le_trans hz HZ2.out) (by omega) ?_
  intro v1 w6 ho hb hg hat
  obtain ⟨A2, c2', ev1⟩ := Kd.R_slice ho
  subst ev1
  have hp6 := blk_grown HC2.out.cells hg HC2.out.npl
  have n1_ := Aside0.mk (HC2.out.grown_log hg ho)
  have n2_ := Aside0.mk (HT2.out.grown hg (fun k e => ⟨Kd.R_base HC2.out.L k e.symm.symm, HC2.out.L.1 k e⟩) (Nat.le_trans hz HZ2.out))
  have n5_ := Aside0.mk (show base ≤ p ∧ ok p from ⟨HC2.out.bp, HC2.out.op⟩)
  have e1 : w6.cell? ⟨p, 1, none⟩ = some (.slice Al d.log.length cl) := (blk_cell hp6 1).trans rfl
  have f1 : w6.frozen? ⟨p, 1, none⟩ = false := blk_frozen hp6 1
  have n4_ := blk_grown HBY.out hg (Kd.R_ne HC2.out.L HBY.out (by decide))
  clear HC2 HT2 HZ2 HBY hb hat ho hp6 hHeld
  refine hK.out _ _ ⟨e1, n4_⟩ (fun hHeld => ?_)
  clear hK K
  refine norm_ (a' := ?_) ?_ ?_
  rotate_left
  · show Act.put _ (some 58) _ = _
    simp only [Act.put, List.setIfInBounds_toArray, List.set_cons_zero, List.set_cons_succ, i64_w, i32_w]
    rfl
  refine pure_ (i := 10) (N := some 59) (v := ?_) (a' := ?_) #[true, true, true, true, true, true, true, true, true, true, true, false, false] rfl rfl (by kernel_rfl) (fun _ _ _ h => h) (Or.inl ⟨by rfl, ?_⟩) ?_ ?_
  rotate_left
  · intro w'
    go_simp
    with_reducible rfl
  rotate_left
  · simp only [Act.put, List.setIfInBounds_toArray, List.set_cons_zero, List.set_cons_succ, i64_w, i32_w]
    rfl
  refine pure_ (i := 11) (N := some 60) (v := ?_) (a' := ?_) #[true, true, true, true, true, true, true, true, true, true, true, true, false] rfl rfl (by kernel_rfl) (fun _ _ _ h => h) (Or.inl ⟨by rfl, ?_⟩) ?_ ?_
  rotate_left
  · intro w'
    go_simp
    with_reducible rfl
  rotate_left
  · simp only [Act.put, List.setIfInBounds_toArray, List.set_cons_zero, List.set_cons_succ, i64_w, i32_w]
    rfl
  refine last_ (i := 12) (N := none) #[true, true, true, true, true, true, true, true, true, true, true, true, true] rfl rfl (by kernel_rfl) (by decide) (fun K hK => ?_)
  refine skip_ (w1 := w6.setCell ⟨p, 1, none⟩ (.slice A2 (d.log ++ [(i, padB s)]).length c2')) (by rfl) rfl ?_ ?_
  · first | (go_simp; done) | (go_simp; rfl)
  refine hK.out _ _ ?_
  clear hK K
  have HC2 := n1_
  have HT2 := Aside0.mk (n2_.out.set n5_.out.1 n5_.out.2 1 (.slice A2 (d.log ++ [(i, padB s)]).length c2'))
  generalize w6.setCell ⟨p, 1, none⟩ (.slice A2 (d.log ++ [(i, padB s)]).length c2') = w7 at *
  clear n1_ n2_ n4_ e1 f1 hHeld hg
  refine done_ (by kernel_rfl) ?_
  have e3 := HC2.out.c3
  have e4 := HC2.out.c4
  have f4 := HC2.out.fz 4
  rw [c4] at e3
  go_wp2
  go_ret
  have hfin : DC (w7.setCell ⟨p, 4, none⟩ (.int .i64 (wrap64 (d.left - 1)))) base ok p sf (.slice A2 (d.log ++ [(i, padB s)]).length c2') (.slice (some ⟨gn, 0, none⟩) d.now.length cn) { first := d.first, log := d.log ++ [(i, padB s)], now := d.now.set i.toNat (padB s), lim := d.lim, left := wrap64 (d.left - 1) } := HC2.out.set_left _
  refine ⟨by first | rfl | (simp; done), ⟨?_, p, sf, .slice A2 (d.log ++ [(i, padB s)]).length c2', .slice (some ⟨gn, 0, none⟩) d.now.length cn, rfl, ?_⟩, HT2.out.set HC2.out.bp HC2.out.op _ _⟩
  · exact good_write HG.out c1 c2 c3 hll
  · unfold dvWrite
    rw [if_neg (by omega), if_neg (by omega), if_neg (fun h => c5 h.2), if_pos c4]
    exact hfin

end
/-- Write. -/
theorem dev_Write {w w0 : World} {P : Nat → Prop} {v : Value} {d : Dv} (hB : Below w0.heap.size w0 w) (h : DR w w0.heap.size P v d) (hll : d.log.length < 1000000) (i : Int) (s : ByteArray) (r : Int) (d2 : Dv) (hr : dvWrite d i s = (r, d2)) :
    Calls Try.prog 10 #[v, .int .i64 i, .string s] w fun e w' => e = .returned (.int .i64 r) ∧ DR w' w0.heap.size (fun k => P k ∨ w.heap.size ≤ k) v d2 ∧ Below w0.heap.size w0 w' ∧ Kept w w' P := by
  have hall := DR_mono (ok' := fun k => P k ∨ w.heap.size ≤ k) h (fun _ hk => .inl hk)
  have fin : ∀ (e : Ending) (w' : World), (e = .returned (.int .i64 0) ∧ DR w' w0.heap.size (fun k => P k ∨ w.heap.size ≤ k) v (dvWrite d i s).2 ∧ Tr w0.heap.size (fun k => P k ∨ w.heap.size ≤ k) w w') → dvWrite d i s = (0, (dvWrite d i s).2) → e = .returned (.int .i64 r) ∧ DR w' w0.heap.size (fun k => P k ∨ w.heap.size ≤ k) v d2 ∧ Below w0.heap.size w0 w' ∧ Kept w w' P := by
    rintro e w' ⟨g1, g2, g3⟩ he
    obtain ⟨g4, g5⟩ := g3 w0 w P rfl (fun k hk => hk)
    rw [hr] at he g2
    simp only [Prod.mk.injEq, and_true] at he
    subst he
    exact ⟨g1, g2, g4 hB, g5 (Kept.refl _ _)⟩
  have err : d2 = d → r ≠ 0 → Calls Try.prog 10 #[v, .int .i64 i, .string s] w fun e w' => e = .returned (.int .i64 r) ∧ DR w' w0.heap.size (fun k => P k ∨ w.heap.size ≤ k) v d2 ∧ Below w0.heap.size w0 w' ∧ Kept w w' P := by
    rintro rfl h0
    refine (dev_Write_err h i s r hr h0).mono ?_
    rintro e w' ⟨g1, g2⟩
    obtain ⟨n, rfl⟩ := g2.out
    exact ⟨g1, DR_drewN hall n, pw_below_drewN hB n, (Kept.refl w P).drewN n⟩
  by_cases c1 : i < 0 ∨ (d.now.length : Int) ≤ i
  · have := hr
    unfold dvWrite at this
    rw [if_pos c1] at this
    simp only [Prod.mk.injEq] at this
    exact err this.2.symm (by omega)
  · by_cases c3 : (64 : Int) < s.size
    · have := hr
      unfold dvWrite at this
      rw [if_neg c1, if_pos c3] at this
      simp only [Prod.mk.injEq] at this
      exact err this.2.symm (by omega)
    · by_cases c4 : d.lim = true ∧ d.left = 0
      · have := hr
        unfold dvWrite at this
        rw [if_neg c1, if_neg c3, if_pos c4] at this
        simp only [Prod.mk.injEq] at this
        exact err this.2.symm (by omega)
      · have he : dvWrite d i s = (0, (dvWrite d i s).2) := by
          unfold dvWrite
          rw [if_neg c1, if_neg c3, if_neg c4]
        cases hl : d.lim
        · exact (dev_Write_free hall hB.size (fun k hk => .inr hk) hll i s (by omega) (by omega) (by omega) hl).mono fun e w' q => fin e w' q he
        · exact (dev_Write_lim hall hB.size (fun k hk => .inr hk) hll i s (by omega) (by omega) (by omega) hl (fun e => c4 ⟨hl, e⟩)).mono fun e w' q => fin e w' q he
end Go.Proofs.Ytfinlgckalbfoaa.PAll
