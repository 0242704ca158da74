/- The walks of New and copied (package device). -/
import Derived.Test.YtfinlgckalbfoaaDm
namespace Go.Proofs.Ytfinlgckalbfoaa.PAll
open Go.RowKit Go.Proofs.YtfinlgckalbfoaaW.PrintWords Go.Proofs.YtfinlgckalbfoaaW.PrintLast Go.Proofs.YtfinlgckalbfoaaW.PrintMore
set_option linter.unusedVariables false
set_option linter.unusedSimpArgs false
attribute [local irreducible] Calls

/-- A block of zero bytes. -/
def zB : ByteArray := ⟨Array.replicate 64 0⟩
theorem zB_size : zB.size = 64 := by decide
theorem info54 : (Try.prog.info? 54).map (fun i => (i.zero, i.size, i.bytes)) = some (some (.agg (bcs zB).toArray), 64, 64) := by kernel_rfl
theorem info56 : (Try.prog.info? 56).map (fun i => (i.zero, i.size, i.bytes)) = some (some (.agg (wcs (0, zB)).toArray), 65, 72) := by kernel_rfl
def dvNew (n : Nat) : Dv := ⟨List.replicate n zB, [], List.replicate n zB, false, 0⟩
set_option maxHeartbeats 16000000 in
set_option maxRecDepth 1000000 in
theorem dev_New (n : Nat) (h1 : 1 ≤ n) (h2 : n ≤ 65536) (w : World) : Calls Try.prog 8 #[.int .i64 n] w fun e w' => ∃ v, e = .returned v ∧ DR w' w.heap.size (fun _ => True) v (dvNew n) ∧ Below w.heap.size w w' := by
  have HB := Aside0.mk (Below.refl w.heap.size w)
  have c1 : decide ((n : Int) < 1) = false := decide_eq_false (by omega)
  have c2 : decide ((n : Int) > 65536) = false := decide_eq_false (by omega)
  go_enter Try.func8, Try.ntmps8
  go_wp2
  have n1_ := Aside0.mk (below_drew1 HB.out)
  clear HB
  have HB := n1_
  clear n1_
  refine start_ (n := 7) (S := fun w' => True) (ds := []) #[false, false, false, false, false, false, false] (by kernel_rfl) rfl rfl trivial (fun hHeld => ?_)
  generalize w.drew = w6 at HB hHeld ⊢
  refine pure_ (i := 0) (N := some 9) (v := ?_) (a' := ?_) #[true, false, false, false, false, false, false] rfl rfl (by kernel_rfl) (fun _ _ _ h => h) (Or.inl ⟨by rfl, ?_⟩) ?_ ?_
  rotate_left
  · intro w'
    go_simp
    with_reducible rfl
  rotate_left
  · simp only [Act.put, List.setIfInBounds_toArray, List.set_cons_zero, List.set_cons_succ, i64_w, i32_w]
    rfl
  refine pure_ (i := 2) (N := some 11) (v := ?_) (a' := ?_) #[true, false, true, false, false, false, false] rfl rfl (by kernel_rfl) (fun _ _ _ h => h) (Or.inl ⟨by rfl, ?_⟩) ?_ ?_
  rotate_left
  · intro w'
    go_simp
    with_reducible rfl
  rotate_left
  · simp only [Act.put, List.setIfInBounds_toArray, List.set_cons_zero, List.set_cons_succ, i64_w, i32_w]
    rfl
  refine join_ (σ := Value × Value) 3 #[true, true, true, true, false, false, false] (fun s_ => [(10, s_.1), (12, s_.2)]) (fun s_ w' => Kd.R kB 54 w' w.heap.size (fun _ => True) s_.1 (List.replicate n zB) ∧ Kd.R kB 54 w' w.heap.size (fun _ => True) s_.2 (List.replicate n zB) ∧ (∀ k, s_.1.ownBlock = some k → s_.2.ownBlock ≠ some k) ∧ Below w.heap.size w w') ?_ ?_
  rotate_left
  · intro hCont
    refine two_ (i := 1) (j := 3) (Ni := some 10) (Nj := some 12) #[true, true, true, false, false, false, false] #[true, false, true, true, false, false, false] rfl rfl rfl rfl (by kernel_rfl) (by decide) (by decide) (fun K hK => ?_) (fun K hK => ?_)
    · skip
      refine Kd.R_make_step kB _ 54 (by rfl) (N := 10) rfl 49 _ _ rfl (n : Int) rfl rfl Try.underlying49 (.agg (bcs zB).toArray) 64 info54 (by show (bcs zB).toArray.size = 64; rw [List.size_toArray, bcs_length]; rfl) (by decide) (by omega) zB (ok := fun _ => True) (okp := fun _ => True) ⟨zB_size, by simp [Value.cells]⟩ (fun _ hk => hk) trivial (Int.natCast_nonneg _) (by rw [Int.toNat_natCast]; omega) (Below.refl _ _) (Nat.le_refl _) ?_
      intro v1 w7 ho8 hb hg_ hnew_
      have HB1 := Aside0.mk (below_step HB.out hb)
      have HR1 := Aside0.mk (Kd.R_lower ho8 HB.out.size)
      clear hg_ hb ho8 hnew_
      refine hK.out _ _ trivial (fun hHeld => ?_)
      clear hK K
      refine norm_ (a' := ?_) ?_ ?_
      rotate_left
      · show Act.put _ (some 10) _ = _
        simp only [Act.put, List.setIfInBounds_toArray, List.set_cons_zero, List.set_cons_succ, i64_w, i32_w]
        rfl
      refine one_ (i := 3) (N := some 12) #[true, true, true, true, false, false, false] rfl rfl (by kernel_rfl) (by decide) (fun K hK => ?_)
      refine Kd.R_make_step kB _ 54 (by rfl) (N := 12) rfl 49 _ _ rfl (n : Int) rfl rfl Try.underlying49 (.agg (bcs zB).toArray) 64 info54 (by show (bcs zB).toArray.size = 64; rw [List.size_toArray, bcs_length]; rfl) (by decide) (by omega) zB (ok := fun _ => True) (okp := fun _ => True) ⟨zB_size, by simp [Value.cells]⟩ (fun _ hk => hk) trivial (Int.natCast_nonneg _) (by rw [Int.toNat_natCast]; omega) (Below.refl _ _) (Nat.le_refl _) ?_
      intro v2 w9 ho10 hb hg_ hnew_
      have HB2 := Aside0.mk (below_step HB1.out hb)
      have HR2 := Aside0.mk (Kd.R_lower ho10 HB1.out.size)
      have hne : ∀ k, v1.ownBlock = some k → v2.ownBlock ≠ some k := fun k e1 e2 => by
        have := Kd.R_lt HR1.out k e1
        obtain ⟨b, hb1, hb2⟩ := hnew_
        rw [hb1] at e2
        cases e2
        omega
      have HN := Aside0.mk hne
      have HR3 := Aside0.mk (Kd.R_below HR1.out hb)
      clear hg_ hb ho10 hnew_ hne
      obtain ⟨A1, c1, e1⟩ := Kd.R_slice HR3.out
      subst e1
      obtain ⟨A2, c2, e2⟩ := Kd.R_slice HR2.out
      subst e2
      refine hK.out _ _ trivial (fun hHeld => ?_)
      clear hK K
      refine norm_ (a' := ?_) ?_ ?_
      rotate_left
      · show Act.put _ (some 12) _ = _
        simp only [Act.put, List.setIfInBounds_toArray, List.set_cons_zero, List.set_cons_succ, i64_w, i32_w]
        rfl
      exact norm_ (by simp only [putAll, Act.put, List.setIfInBounds_toArray, List.set_cons_zero, List.set_cons_succ]) (hCont (.slice A1 _ c1, .slice A2 _ c2) _ ⟨HR3.out, HR2.out, HN.out, HB2.out⟩)
    · skip
      refine Kd.R_make_step kB _ 54 (by rfl) (N := 12) rfl 49 _ _ rfl (n : Int) rfl rfl Try.underlying49 (.agg (bcs zB).toArray) 64 info54 (by show (bcs zB).toArray.size = 64; rw [List.size_toArray, bcs_length]; rfl) (by decide) (by omega) zB (ok := fun _ => True) (okp := fun _ => True) ⟨zB_size, by simp [Value.cells]⟩ (fun _ hk => hk) trivial (Int.natCast_nonneg _) (by rw [Int.toNat_natCast]; omega) (Below.refl _ _) (Nat.le_refl _) ?_
      intro v1 w7 ho8 hb hg_ hnew_
      have HB1 := Aside0.mk (below_step HB.out hb)
      have HR1 := Aside0.mk (Kd.R_lower ho8 HB.out.size)
      clear hg_ hb ho8 hnew_
      refine hK.out _ _ trivial (fun hHeld => ?_)
      clear hK K
      refine norm_ (a' := ?_) ?_ ?_
      rotate_left
      · show Act.put _ (some 12) _ = _
        simp only [Act.put, List.setIfInBounds_toArray, List.set_cons_zero, List.set_cons_succ, i64_w, i32_w]
        rfl
      refine one_ (i := 1) (N := some 10) #[true, true, true, true, false, false, false] rfl rfl (by kernel_rfl) (by decide) (fun K hK => ?_)
      refine Kd.R_make_step kB _ 54 (by rfl) (N := 10) rfl 49 _ _ rfl (n : Int) rfl rfl Try.underlying49 (.agg (bcs zB).toArray) 64 info54 (by show (bcs zB).toArray.size = 64; rw [List.size_toArray, bcs_length]; rfl) (by decide) (by omega) zB (ok := fun _ => True) (okp := fun _ => True) ⟨zB_size, by simp [Value.cells]⟩ (fun _ hk => hk) trivial (Int.natCast_nonneg _) (by rw [Int.toNat_natCast]; omega) (Below.refl _ _) (Nat.le_refl _) ?_
      intro v2 w9 ho10 hb hg_ hnew_
      have HB2 := Aside0.mk (below_step HB1.out hb)
      have HR2 := Aside0.mk (Kd.R_lower ho10 HB1.out.size)
      have hne : ∀ k, v1.ownBlock = some k → v2.ownBlock ≠ some k := fun k e1 e2 => by
        have := Kd.R_lt HR1.out k e1
        obtain ⟨b, hb1, hb2⟩ := hnew_
        rw [hb1] at e2
        cases e2
        omega
      have HN := Aside0.mk hne
      have HR3 := Aside0.mk (Kd.R_below HR1.out hb)
      clear hg_ hb ho10 hnew_ hne
      obtain ⟨A1, c1, e1⟩ := Kd.R_slice HR3.out
      subst e1
      obtain ⟨A2, c2, e2⟩ := Kd.R_slice HR2.out
      subst e2
      refine hK.out _ _ trivial (fun hHeld => ?_)
      clear hK K
      refine norm_ (a' := ?_) ?_ ?_
      rotate_left
      · show Act.put _ (some 10) _ = _
        simp only [Act.put, List.setIfInBounds_toArray, List.set_cons_zero, List.set_cons_succ, i64_w, i32_w]
        rfl
      exact norm_ (by simp only [putAll, Act.put, List.setIfInBounds_toArray, List.set_cons_zero, List.set_cons_succ]) (hCont (.slice A2 _ c2, .slice A1 _ c1) _ ⟨HR2.out, HR3.out, fun k e1 e2 => HN.out k e2 e1, HB2.out⟩)
  rintro ⟨v1, v2⟩ w13 ⟨h0_, h1_, h2_, h3_⟩
  clear HB
  obtain ⟨A1, c1, e1⟩ := Kd.R_slice h0_
  dsimp only at e1 h0_ h1_ h2_
  subst e1
  obtain ⟨A2, c2, e2⟩ := Kd.R_slice h1_
  subst e2
  simp only [List.length_replicate] at h0_ h1_ h2_
  have HR1 := Aside0.mk h0_
  have HR2 := Aside0.mk h1_
  have HN := Aside0.mk h2_
  have HB := Aside0.mk h3_
  clear h0_ h1_ h2_ h3_
  have hHeld := trivial
  refine norm_ (a' := ?_) ?_ ?_
  rotate_left
  · simp only [putAll, Act.put, List.setIfInBounds_toArray, List.set_cons_zero, List.set_cons_succ]
    rfl
  refine pure_ (i := 4) (N := some 13) (v := ?_) (a' := ?_) #[true, true, true, true, true, false, false] rfl rfl (by kernel_rfl) (fun _ _ _ h => h) (Or.inl ⟨by rfl, ?_⟩) ?_ ?_
  rotate_left
  · intro w'
    go_simp
    with_reducible rfl
  rotate_left
  · simp only [Act.put, List.setIfInBounds_toArray, List.set_cons_zero, List.set_cons_succ, i64_w, i32_w]
    rfl
  refine one_ (i := 5) (N := some 14) #[true, true, true, true, true, true, false] rfl rfl (by kernel_rfl) (by decide) (fun K hK => ?_)
  refine value_ (v := .pointer (some ⟨w13.heap.size, 0, none⟩)) (w1 := w13.alloc (.cells #[.slice A1 n c1, .slice none 0 0, .slice A2 n c2, .bool false, .int .i64 0] 52 (0, 0))) (by rfl) rfl ?_ ?_
  · go_simp
  refine hK.out _ _ trivial (fun hHeld => ?_)
  clear hK K
  refine norm_ (a' := ?_) ?_ ?_
  rotate_left
  · show Act.put _ (some 14) _ = _
    simp only [Act.put, List.setIfInBounds_toArray, List.set_cons_zero, List.set_cons_succ, i64_w, i32_w]
    rfl
  refine pure_ (i := 6) (N := some 2) (v := ?_) (a' := ?_) #[true, true, true, true, true, true, true] rfl rfl (by kernel_rfl) (fun _ _ _ h => h) (Or.inl ⟨by rfl, ?_⟩) ?_ ?_
  rotate_left
  · intro w'
    go_simp
    with_reducible rfl
  rotate_left
  · simp only [Act.put, List.setIfInBounds_toArray, List.set_cons_zero, List.set_cons_succ, i64_w, i32_w]
    rfl
  refine done_ (by kernel_rfl) ?_
  have hblk := blk_new w13 (Obj.cells #[.slice A1 n c1, .slice none 0 0, .slice A2 n c2, .bool false, .int .i64 0] 52 (0, 0))
  have HB14 := Aside0.mk (below_alloc HB.out (Obj.cells #[.slice A1 n c1, .slice none 0 0, .slice A2 n c2, .bool false, .int .i64 0] 52 (0, 0)))
  have HR14 := Aside0.mk (Kd.R_alloc HR1.out (Obj.cells #[.slice A1 n c1, .slice none 0 0, .slice A2 n c2, .bool false, .int .i64 0] 52 (0, 0)))
  have HR24 := Aside0.mk (Kd.R_alloc HR2.out (Obj.cells #[.slice A1 n c1, .slice none 0 0, .slice A2 n c2, .bool false, .int .i64 0] 52 (0, 0)))
  have hbp := HB.out.size
  generalize (w13.alloc (Obj.cells #[.slice A1 n c1, .slice none 0 0, .slice A2 n c2, .bool false, .int .i64 0] 52 (0, 0))) = w14 at *
  generalize w13.heap.size = p at *
  have HBK := Aside0.mk hblk
  have HP := Aside0.mk hbp
  clear hblk HB HR1 HR2 hbp
  go_wp2
  go_ret
  exact ⟨_, rfl, ⟨⟨by simpa [dvNew] using h1, by simpa [dvNew] using h2, by simp [dvNew], Nat.zero_le _, fun x hx => by simp [dvNew] at hx⟩, p, _, _, _, rfl, HP.out, trivial, HBK.out, HR14.out, Kd.R_nil _ _ _ _ _, HR24.out, HN.out⟩, HB14.out⟩
set_option maxHeartbeats 8000000 in
set_option maxRecDepth 100000 in
theorem dev_New_nil (n : Int) (h : n < 1 ∨ 65536 < n) (w : World) : Calls Try.prog 8 #[.int .i64 n] w fun e w' => e = .returned (.pointer none) ∧ Drawn0 w w' := by
  by_cases c1 : n < 1
  · have c1b : decide (n < 1) = true := decide_eq_true c1
    clear h
    go_enter Try.func8, Try.ntmps8
    go_wp2
    go_ret
    exact ⟨by first | rfl | (simp; done) | (simp [*]; done), by repeat (first | exact Drawn0.refl _ | apply Drawn0.step)⟩
  · have c1b : decide (n < 1) = false := decide_eq_false c1
    have c2 : n > 65536 := by omega
    have c2b : decide (n > 65536) = true := decide_eq_true c2
    clear h
    go_enter Try.func8, Try.ntmps8
    go_wp2
    go_ret
    exact ⟨by first | rfl | (simp; done) | (simp [*]; done), by repeat (first | exact Drawn0.refl _ | apply Drawn0.step)⟩

/-- The cells of a row. -/
theorem row_cells {w : World} {base : Nat} {ok : Nat → Prop} {g n c : Nat} {xs : List ByteArray} (h : Kd.R kB 54 w base ok (.slice (some ⟨g, 0, none⟩) n c) xs) :
    ∃ cs : List Value, cs.length = n * 64 ∧ Reps (kB.M w base ok) 64 xs cs ∧ (∀ j u, cs[j]? = some u → w.cell? ((⟨g, 0, none⟩ : Addr).add j) = some u) := by
  have hn := (Kd.R_reads' h).1
  obtain ⟨_, inner, ho, hr⟩ := h
  exact ⟨inner, by rw [hn]; exact ho.1, ⟨hr.1, fun j p hj => hr.2 j p hj⟩, ho.cells rfl⟩
theorem reps_one {w : World} {base : Nat} {ok : Nat → Prop} : ∀ {xs : List ByteArray} {cs : List Value}, Reps (kB.M w base ok) 64 xs cs → ∀ u ∈ cs, u.oneCell' = true := by
  intro xs cs h u hu
  obtain ⟨j, hj, rfl⟩ := List.mem_iff_getElem.1 hu
  have hq : j / 64 < xs.length := by have := h.1; omega
  have h2 := h.2 (j / 64) _ (List.getElem?_eq_getElem hq)
  have : cs[j] ∈ (cs.drop (j / 64 * 64)).take 64 := by
    rw [List.mem_iff_getElem?]
    refine ⟨j % 64, ?_⟩
    rw [List.getElem?_take, if_pos (Nat.mod_lt _ (by decide)), List.getElem?_drop, show j / 64 * 64 + j % 64 = j by omega, List.getElem?_eq_getElem hj]
  exact kB.K_one (kB.K_of_M h2) _ this
/-- copy of a row into a row of as many blocks. -/
theorem copy_blocks {w : World} {base base' : Nat} {ok ok' : Nat → Prop} {g g' n c c' : Nat} {xs zs : List ByteArray} (ty : TypeId) (hd : Kd.R kB 54 w base ok (.slice (some ⟨g, 0, none⟩) n c) zs) (hs : Kd.R kB 54 w base' ok' (.slice (some ⟨g', 0, none⟩) n c') xs) :
    ∃ w1, (Builtin.copy_ #[49, 49] ty #[.slice (some ⟨g, 0, none⟩) n c, .slice (some ⟨g', 0, none⟩) n c']).run Try.prog w = .ok (goInt n) w1 ∧ Kd.R kB 54 w1 base ok (.slice (some ⟨g, 0, none⟩) n c) xs ∧ w.grownBy w1 (some g) := by
  obtain ⟨cs, hl, hr, hcc⟩ := row_cells hs
  have hnx := (Kd.R_reads' hs).1
  have hnz := (Kd.R_reads' hd).1
  obtain ⟨hok, inner, ho, _⟩ := hd
  rcases ho.2 with ⟨hv, _⟩ | ⟨g2, cap, cur, hv, hb, hh, hnc, hcm, hsz, htk⟩
  · cases hv
  injection hv with hv1 hv2 hv3
  injection hv1 with hv1
  injection hv1 with hv1
  subst hv1
  subst hv3
  have hnz' : zs.length = n := hnz.symm
  rw [hnz'] at hnc
  have hfit : cs.length ≤ cur.size := by rw [hl, hsz]; exact Nat.mul_le_mul_right _ hnc
  have h1 := reps_one hr
  obtain ⟨cur', k1, k2, k3⟩ := setCells_row cs 0 w cur hh (by omega)
  obtain ⟨s1, s2, s3, s4⟩ := setCells_same g cs 0 w
  refine ⟨w.setCells g 0 cs, ?_, ⟨hok, cs, ⟨by rw [hl, hnx]; rfl, .inr ⟨g, c, cur', by rw [hnx], hb, k1, by rw [← hnx]; exact hnc, hcm, by rw [k2]; exact hsz, ?_⟩⟩, ⟨hr.1, fun j p hj => hr.2 j p hj⟩⟩, ⟨s1, s2, s3, by rw [s4]; exact Nat.le_refl _, fun k _ hk => setCells_far _ _ k (fun he => hk (by rw [he]))⟩⟩
  · have hst := run_storeCells_cells (P := Try.prog) g 0 cs 0 w (fun j hj => by rw [cell_of_row w g _ cur 54 (0, 0) hh]; simp; omega) (fun j _ => blk_frozen hh _) h1
    have hi : (Try.prog.info? 54).map (·.size) = some 64 := by kernel_rfl
    obtain ⟨i, hi1, hi2⟩ := Option.map_eq_some_iff.1 hi
    have hf := run_firstCells_some (P := Try.prog) w 64 n ⟨g', 0, none⟩ n c' cs hl hcc
    have hmin : Nat.min n n = n := Nat.min_self n
    simp only [Nat.add_zero] at hst
    simp only [Builtin.copy_, List.getElem?_toArray, run_underlying Try.underlying49]
    simp [run_underlying Try.underlying49, Builtin.lenOf, sizeOf, typeInfo, hi1, hi2, hf, hst, hmin]
  · rw [k3, List.take_zero, List.nil_append, ← hnx, List.take_append, hl]
    show cs.take (n * 64) ++ List.take (n * 64 - n * 64) _ = _
    rw [List.take_of_length_le (by omega), Nat.sub_self, List.take_zero, List.append_nil]
set_option maxHeartbeats 16000000 in
set_option maxRecDepth 1000000 in
theorem dev_copied {w : World} {base : Nat} {ok : Nat → Prop} {v : Value} {xs : List ByteArray} (h : Kd.R kB 54 w base ok v xs) (h1 : 1 ≤ xs.length) (h2 : xs.length ≤ 65536) : Calls Try.prog 21 #[v] w fun e w' => ∃ v2, e = .returned v2 ∧ Kd.R kB 54 w' w.heap.size (fun _ => True) v2 xs ∧ Below w.heap.size w w' := by
  obtain ⟨g, c, rfl, _⟩ := Kd.R_form h h1
  have HR := Aside0.mk h
  have HB := Aside0.mk (Below.refl w.heap.size w)
  clear h
  have HX := Aside0.mk h2
  go_enter Try.func21, Try.ntmps21
  go_wp2_with (first
    | ((with_reducible refine gate_dst (N := 6) rfl ?_); refine Kd.R_make kB (w0 := w) w.heap.size 54 rfl (N := 6) rfl 49 (.tmp 5) (.tmp 5) rfl (xs.length : Int) rfl rfl Try.underlying49 (.agg (bcs zB).toArray) 64 info54 (by show (bcs zB).toArray.size = 64; rw [List.size_toArray, bcs_length]; rfl) (by decide) (by omega) zB (ok := fun _ => True) (okp := fun _ => True) ⟨zB_size, by simp [Value.cells]⟩ (fun _ hk => hk) trivial (Int.natCast_nonneg _) (by have := HX.out; rw [Int.toNat_natCast]; omega) HB.out (Nat.le_refl _) ?_; intro v1 w1 ho hb hg hnew; (rw [Int.toNat_natCast] at ho); obtain ⟨g1, c1, e1, _⟩ := Kd.R_form ho (by rw [List.length_replicate]; omega); subst e1; (simp only [List.length_replicate] at ho hnew ⊢); have HR1 := Aside0.mk (Kd.R_below HR.out hb); have HN := Aside0.mk hnew; have HO := Aside0.mk ho; have HB1 := Aside0.mk hb; clear HR HB ho hb hg hnew)
    | ((with_reducible refine gate_builtin (b := .copy) (xs := #[.tmp 7, .tmp 8]) rfl ?_); obtain ⟨w2, hrun, hr, hgr⟩ := copy_blocks 3 HO.out HR1.out; refine Kd.event_run rfl (w1 := w2) (v := goInt xs.length) ?hrun ?_; (case hrun => (unfold execOp; simp only [resolve, invoke, builtin, Sem.run_bind, Sem.run_pure, Result.andThen_ok, List.map_toArray, List.map_cons, List.map_nil]; show Result.andThen (Sem.run Try.prog (Builtin.copy_ #[49, 49] 3 #[.slice (some ⟨g1, 0, none⟩) xs.length c1, .slice (some ⟨g, 0, none⟩) xs.length c]) w1) _ = _; rw [hrun]; rfl)); have HR2 := Aside0.mk hr; have HB2 := Aside0.mk hgr; clear hr hgr hrun))
  go_ret
  refine ⟨_, rfl, HR2.out, ?_⟩
  obtain ⟨b, e, hb⟩ := HN.out
  cases e
  exact HB1.out.grown HB2.out HB1.out.size (fun k e => by cases e; exact hb)
end Go.Proofs.Ytfinlgckalbfoaa.PAll
