/- The walk of After (package device). -/
import Derived.Test.YtfinlgckalbfoaaDx
namespace Go.Proofs.Ytfinlgckalbfoaa.PAll
open Go.RowKit Go.Proofs.YtfinlgckalbfoaaW.PrintWords Go.Proofs.YtfinlgckalbfoaaW.PrintLast Go.Proofs.YtfinlgckalbfoaaW.PrintMore
set_option linter.unusedVariables false
set_option linter.unusedSimpArgs false
attribute [local irreducible] Calls
attribute [local go_sem] max2_int min2_int max_two min_two

/-- The blocks after some writes. -/
def play : List ByteArray → List (Int × ByteArray) → List ByteArray
  | l, [] => l
  | l, x :: r => play (l.set x.1.toNat x.2) r
theorem play_length : ∀ (l : List ByteArray) (ws : List (Int × ByteArray)), (play l ws).length = l.length
  | l, [] => rfl
  | l, x :: r => by rw [play, play_length, List.length_set]
theorem play_snoc : ∀ (l : List ByteArray) (ws : List (Int × ByteArray)) (x : Int × ByteArray), play l (ws ++ [x]) = (play l ws).set x.1.toNat x.2
  | l, [], x => rfl
  | l, y :: r, x => by rw [List.cons_append, play, play_snoc]; rfl
theorem play_take (l : List ByteArray) (ws : List (Int × ByteArray)) (k : Nat) (h : k < ws.length) : play l (ws.take (k + 1)) = (play l (ws.take k)).set (ws.getD k (0, ⟨#[]⟩)).1.toNat (ws.getD k (0, ⟨#[]⟩)).2 := by
  rw [List.take_succ_eq_append_getElem h, play_snoc, List.getD_eq_getElem?_getD, List.getElem?_eq_getElem h]
  rfl
theorem load_write {w : World} {base : Nat} {ok : Nat → Prop} {g n c : Nat} {xs : List (Int × ByteArray)} (h : Kd.R kW 56 w base ok (.slice (some ⟨g, 0, none⟩) n c) xs) (i : Int) (h0 : 0 ≤ i) (h1 : i < n) : (Instr.loadAt 56 (.pointer (some ⟨g, i.toNat * 65, none⟩))).run Try.prog w = .ok (.agg (wcs (xs.getD i.toNat (0, ⟨#[]⟩))).toArray) w := by
  obtain ⟨cs, hl, hM, hcc, _⟩ := Kd.R_elem h ((0, ⟨#[]⟩) : Int × ByteArray) i h0 h1
  obtain ⟨hs, rfl⟩ := hM
  exact run_loadAt_mid w g (i.toNat * 65) 56 _ _ hcc Try.underlying56 rfl (by rw [hl]; kernel_rfl)
theorem write_size {w : World} {base : Nat} {ok : Nat → Prop} {g n c : Nat} {xs : List (Int × ByteArray)} (h : Kd.R kW 56 w base ok (.slice (some ⟨g, 0, none⟩) n c) xs) (i : Int) (h0 : 0 ≤ i) (h1 : i < n) : (xs.getD i.toNat (0, ⟨#[]⟩)).2.size = 64 := by
  obtain ⟨cs, hl, hM, hcc, _⟩ := Kd.R_elem h ((0, ⟨#[]⟩) : Int × ByteArray) i h0 h1
  exact hM.1
theorem wcs_length {x : Int × ByteArray} (h : x.2.size = 64) : (wcs x).length = 65 := by simp only [wcs, List.length_cons, bcs_length]; omega
theorem wcs_one (x : Int × ByteArray) : ∀ u ∈ wcs x, u.oneCell' = true := by
  intro u hu
  rcases List.mem_cons.1 hu with rfl | h
  · rfl
  · exact bcs_one _ _ h
theorem store_write {w : World} {g : Nat} {x : Int × ByteArray} (hs : x.2.size = 64) (hg : w.heap[g]? = some (.cells (wcs (0, zB)).toArray 56 (0, 0))) :
    ∃ w1, (Instr.storeAt 56 (.pointer (some ⟨g, 0, none⟩)) (.agg (wcs x).toArray)).run Try.prog w = .ok () w1 ∧ w1.heap[g]? = some (.cells (wcs x).toArray 56 (0, 0)) ∧ w.grownBy w1 (some g) := by
  have hz : (wcs (0, zB)).length = 65 := wcs_length zB_size
  have hx := wcs_length hs
  obtain ⟨cur', k1, k2, k3⟩ := setCells_row (wcs x) 0 w _ hg (by rw [List.size_toArray, hz]; omega)
  obtain ⟨s1, s2, s3, s4⟩ := setCells_same g (wcs x) 0 w
  refine ⟨w.setCells g 0 (wcs x), run_store_run 56 _ (wcs x) hg (by simp [Value.cells]) (by rw [hx]; kernel_rfl) (by rw [List.size_toArray, hz]; omega) (wcs_one x), ?_, ⟨s1, s2, s3, by rw [s4]; exact Nat.le_refl _, fun k _ hk => setCells_far _ _ k (fun he => hk (by rw [he]))⟩⟩
  rw [k1, show cur' = (wcs x).toArray from by
    apply Array.ext'
    rw [k3, List.take_zero, List.nil_append, Nat.zero_add, List.drop_of_length_le (by simp [hx, hz]), List.append_nil]]
theorem load_data {w : World} {g : Nat} {x : Int × ByteArray} (hs : x.2.size = 64) (hg : w.heap[g]? = some (.cells (wcs x).toArray 56 (0, 0))) : (Instr.loadAt 54 (.pointer (some ⟨g, 1, none⟩))).run Try.prog w = .ok (.agg (bcs x.2).toArray) w :=
  run_loadAt_mid w g 1 54 (bcs x.2) _ (fun j v hv => by rw [cell_of_row w g _ _ 56 (0, 0) hg, Nat.add_comm]; simpa [wcs] using hv) Try.underlying54 rfl (by rw [bcs_length, hs]; kernel_rfl)
theorem fresh_row {w w1 w2 : World} {base : Nat} {ok : Nat → Prop} {g n c gb : Nat} {xs : List ByteArray} (h : Kd.R kB 54 w base ok (.slice (some ⟨g, 0, none⟩) n c) xs) (hb : Below w.heap.size w w1) (hg : w1.grownBy w2 (some gb)) (hgb : gb = w.heap.size) : Kd.R kB 54 w2 base ok (.slice (some ⟨g, 0, none⟩) n c) xs :=
  Kd.R_mono (Kd.R_step (Kd.R_mono (Kd.R_bound h) (ok' := fun k => ok k ∧ k < w.heap.size) (fun k hk => ⟨hk.1, hk.2.2.1⟩)) (fun k hk hl => (hg.block k (Nat.lt_of_lt_of_le hl hb.size) (fun e => by cases e; omega)).trans (hb.block k hl))) (fun k hk => hk.1)
def dvUpto (d : Dv) (n : Int) : Nat := min (max n 0).toNat d.log.length
def dvAfter (d : Dv) (n : Int) : Dv := ⟨play d.first (d.log.take (dvUpto d n)), [], play d.first (d.log.take (dvUpto d n)), false, 0⟩
section
variable {w : World} {base : Nat} {ok : Nat → Prop} {v : Value} {d : Dv}
set_option maxHeartbeats 16000000 in
set_option maxRecDepth 1000000 in
theorem dev_After (h : DR w base ok v d) (n : Int) : Calls Try.prog 11 #[v, .int .i64 n] w fun e w' => ∃ v2, e = .returned v2 ∧ DR w' w.heap.size (fun _ => True) v2 (dvAfter d n) ∧ Below w.heap.size w w' := by
  obtain ⟨g, p, sf, sl, sn, rfl, hc⟩ := h
  obtain ⟨gf, cf, rfl, _⟩ := Kd.R_form hc.F (by have := g.n1; have := g.nf; omega)
  obtain ⟨Al, cl, rfl⟩ := Kd.R_slice hc.L
  have e0 := hc.c0
  have e1 := hc.c1
  have HC := Aside0.mk hc
  have HG := Aside0.mk g
  have HB := Aside0.mk (Below.refl w.heap.size w)
  clear hc g
  go_enter Try.func11, Try.ntmps11
  go_wp2_with (first
    | (go_at_call 21; refine (dev_copied (Kd.R_below HC.out.F (Below.refl _ _)) (by have := HG.out.n1; have := HG.out.nf; omega) (by have := HG.out.n2; have := HG.out.nf; omega)).mono ?_; rintro e w1 ⟨v1, rfl, hr, hb⟩; have HR := Aside0.mk hr; have HB1 := Aside0.mk hb; have HC1 := Aside0.mk (HC.out.step (fun k _ hk => hb.block k hk)); clear HB hr hb e0 e1; have e1 := HC1.out.c1))
  obtain ⟨m1, hm1⟩ : ∃ m1, (if n < 0 then 0 else n) = m1 := ⟨_, rfl⟩
  obtain ⟨m, hm2, hm3⟩ : ∃ m : Nat, (if (d.log.length : Int) < m1 then (d.log.length : Int) else m1) = (m : Int) ∧ m = dvUpto d n := ⟨dvUpto d n, by unfold dvUpto; omega, rfl⟩
  have HM := Aside0.mk hm3
  have hm4 : m ≤ d.log.length := by rw [hm3]; unfold dvUpto; omega
  have hcap : d.log.length ≤ cl := (Kd.R_reads' HC1.out.L).2.1
  have hm5 : (m : Int) ≤ (cl : Int) := by omega
  have hm6 : (0 : Int) ≤ (m : Int) := Int.natCast_nonneg _
  clear hm3 hm4 hcap
  go_region
  have n1_ := Aside0.mk (Kd.R_drew HR.out)
  have n2_ := Aside0.mk (below_drew1 HB1.out)
  have hmm : m ≤ d.log.length := by rw [HM.out]; unfold dvUpto; omega
  have hfl : d.first.length = d.now.length := HG.out.nf
  obtain ⟨g1, cg, ev, hg1, _⟩ := Kd.R_form HR.out (by have := HG.out.n1; omega)
  subst ev
  have HMM := Aside0.mk hmm
  have HFL := Aside0.mk hfl
  clear HR HB1 HC1 e1 hmm hfl hm1 hm2
  have HR := n1_
  have HB := n2_
  clear n1_ n2_
  generalize w1.drew = w2 at HR HB ⊢
  go_wp2
  go_loopg [29] m (fun g vi wr => ∃ k : Nat, vi = .int .i64 (k : Int) ∧ k + g = m ∧ Kd.R kB 54 wr w.heap.size (fun _ => True) (.slice (some ⟨g1, 0, none⟩) d.first.length cg) (play d.first (d.log.take k)) ∧ Below w.heap.size w wr)
  case atStart => exact ⟨0, rfl, by omega, HR.out, HB.out⟩
  case round =>
    clear HR HB
    obtain ⟨k, rfl, hkg, hr, hb⟩ := hrel
    have HR := Aside0.mk hr
    have HB := Aside0.mk hb
    clear hr hb
    by_cases c : k < m
    · have HL := Kd.R_below HC.out.L HB.out
      have hkl : k < d.log.length := by have := HMM.out; omega
      obtain ⟨gl, cl', ea, _⟩ := Kd.R_form HL (by omega)
      injection ea with ea _ ea2
      subst ea
      subst ea2
      have hld := load_write HL (k : Int) (Int.natCast_nonneg _) (by omega)
      have hsz := write_size HL (k : Int) (Int.natCast_nonneg _) (by omega)
      have hat := HG.out.at_ (d.log.getD k (0, ⟨#[]⟩)) (by rw [List.getD_eq_getElem?_getD, List.getElem?_eq_getElem hkl]; exact List.getElem_mem hkl)
      have hpt := play_take d.first d.log k hkl
      simp only [Int.toNat_natCast] at hld hsz
      generalize d.log.getD k (0, ⟨#[]⟩) = x at hld hsz hat hpt
      have HLD := Aside0.mk hld
      have HSZ := Aside0.mk hsz
      have HPT := Aside0.mk hpt
      obtain ⟨a0, a1⟩ := hat
      have a2 : x.1 < (d.first.length : Int) := by have := HFL.out; omega
      clear hld hsz hpt HL a1
      have hk1 : (k : Int) < (m : Int) := by omega
      have hk0 : (0 : Int) ≤ (k : Int) := Int.natCast_nonneg _
      go_wp2_with (first
        | ((with_reducible refine gate_dst (N := 32) rfl ?_); refine Kd.event_run rfl (w1 := wr) (v := .agg (wcs x).toArray) (exec_load rfl rfl HLD.out) ?_)
        | ((with_reducible refine gate_dst (N := 7) rfl ?_); refine box_event rfl (N := 7) rfl (cs := (wcs (0, zB)).toArray) (t := 56) rfl ?_; intro gb hgb w3 hbox hbb; have HBX := Aside0.mk hbox; have HGB := Aside0.mk hgb; have HBB := Aside0.mk hbb; clear hbox hgb hbb)
        | ((with_reducible refine gate_store (t := 56) (p := 7) rfl ?_); obtain ⟨w4, hst, hbox, hgr⟩ := store_write HSZ.out HBX.out; refine store_event rfl (t := 56) (p := 7) (v := .tmp 32) (w1 := w4) rfl rfl (exec_store rfl rfl rfl hst) ?_; intro w5 hw5; subst hw5; have HBY := Aside0.mk hbox; have HR2 := Aside0.mk (fresh_row HR.out HBB.out hgr HGB.out); have HB2 := Aside0.mk ((below_step HB.out HBB.out).grown hgr (below_step HB.out HBB.out).size (fun k e => by cases e; have := HGB.out; have := HB.out.size; omega)); have c0 : w5.cell? ⟨gb, 0, none⟩ = some (.int .i64 x.1) := (blk_cell hbox 0).trans rfl; clear hst hbox hgr HBX HBB HR HB)
        | ((with_reducible refine gate_dst (N := 37) rfl ?_); refine Kd.event_run rfl (w1 := w5) (v := .agg (bcs x.2).toArray) (exec_load rfl rfl (load_data HSZ.out HBY.out)) ?_)
        | ((with_reducible refine gate_store (t := 54) (p := 38) rfl ?_); obtain ⟨w6, hst, hrow, hgr⟩ := store_block HSZ.out HR2.out x.1 a0 a2; refine store_event rfl (t := 54) (p := 38) (v := .tmp 37) (w1 := w6) rfl rfl (exec_store rfl rfl rfl hst) ?_; intro w7 hw7; subst hw7; have HR3 := Aside0.mk hrow; have HB3 := Aside0.mk (HB2.out.grown hgr HB2.out.size (fun k e => by cases e; exact hg1)); clear hst hrow hgr HR2 HB2 HBY c0))
      go_roundg (m - (k + 1))
      case measure => omega
      case rel => exact ⟨k + 1, by have := HMM.out; have := HG.out.ll; congr 1; unfold wrap64; omega, by omega, by rw [HPT.out]; exact HR3.out, HB3.out⟩
    · have hkm : k = m := by omega
      have HKM := Aside0.mk hkm
      have cb : decide ((k : Int) < (m : Int)) = false := decide_eq_false (by omega)
      clear hkm hm5 hm6
      go_wp2_with (first
        | (go_at_call 21; refine (dev_copied HR.out (by rw [play_length]; have := HG.out.n1; have := HG.out.nf; omega) (by rw [play_length]; have := HG.out.n2; have := HG.out.nf; omega)).mono ?_; rintro e w3 ⟨v3, rfl, hr, hb⟩; obtain ⟨A3, c3, e3⟩ := Kd.R_slice hr; subst e3; (rw [play_length] at hr ⊢); have HRN := Aside0.mk (show ∃ b, (Value.slice A3 d.first.length c3).ownBlock = some b ∧ wr.heap.size ≤ b from by obtain ⟨gz, cz, ez, hz, _⟩ := Kd.R_form hr (by rw [play_length]; have := HG.out.n1; have := HG.out.nf; omega); rw [play_length] at ez; exact ⟨gz, by rw [ez]; rfl, hz⟩); have HRB := Aside0.mk hr; have HBC := Aside0.mk hb; have HRA := Aside0.mk (Kd.R_below HR.out hb); have HB2 := Aside0.mk (below_step HB.out hb); have HR0 := HR; clear hr hb HR)
        | ((with_reducible refine gate_dst (N := 44) rfl ?_); refine box_event rfl (N := 44) rfl (cs := #[.slice A3 d.first.length c3, .slice none 0 0, .slice (some ⟨g1, 0, none⟩) d.first.length cg, .bool false, .int .i64 0]) (t := 52) ?hr ?_; (case hr => first | (go_simp; done) | (go_simp; rfl)); intro gb hgb w4 hbox hbb; have HBX := Aside0.mk hbox; have HGB := Aside0.mk hgb; have HBB := Aside0.mk hbb; clear hbox hgb hbb))
      go_ret
      have hk := HKM.out
      rw [hk, HM.out] at HRA HRB
      refine ⟨_, rfl, ⟨⟨?_, ?_, ?_, Nat.zero_le _, fun x hx => by simp [dvAfter] at hx⟩, gb, .slice A3 d.first.length c3, .slice none 0 0, .slice (some ⟨g1, 0, none⟩) d.first.length cg, rfl, ?_⟩, below_step HB2.out HBB.out⟩
      · show 1 ≤ (play _ _).length
        rw [play_length]
        have := HG.out.n1
        have := HG.out.nf
        omega
      · show (play _ _).length ≤ 65536
        rw [play_length]
        have := HG.out.n2
        have := HG.out.nf
        omega
      · rfl
      · have hle : w.heap.size ≤ w3.heap.size := HB2.out.size
        refine ⟨by have := HGB.out; omega, trivial, HBX.out, Kd.R_below (Kd.R_lower HRB.out HB.out.size) HBB.out, Kd.R_nil _ _ _ _ _, Kd.R_below HRA.out HBB.out, fun q e1 e2 => ?_⟩
        obtain ⟨b, hb1, hb2⟩ := HRN.out
        have h5 := Kd.R_lt HR0.out g1 rfl
        rw [hb1] at e1
        have e3 : b = q := by simpa using e1
        have e4 : g1 = q := by simpa [Value.ownBlock] using e2
        omega
end
end Go.Proofs.Ytfinlgckalbfoaa.PAll
