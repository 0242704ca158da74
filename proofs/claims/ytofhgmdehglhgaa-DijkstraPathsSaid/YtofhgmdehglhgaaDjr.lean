/- dijkstra.run: the walk, forward. -/
import Derived.Test.YtofhgmdehglhgaaDh
namespace Go.Proofs.Ytofhgmdehglhgaa.PAll
open Go.RowKit Go.Proofs.YtofhgmdehglhgaaW.PrintWords Go.Proofs.YtofhgmdehglhgaaW.PrintLast Go.Proofs.YtofhgmdehglhgaaW.PrintMore
set_option linter.unusedVariables false
set_option linter.unusedSimpArgs false
attribute [local irreducible] Calls

set_option maxHeartbeats 16000000 in
set_option maxRecDepth 1000000 in
theorem run_fwd {n : Nat} {l0 : List S40} (hg : gchk n l0 = 0) (A0 A1 : Option Addr) (c0 c1 : Nat) (x : List Int) (hx : x.length = l0.length) (s : Int) (hs0 : 0 ≤ s) (hs1 : s < n) (w : World) (hr0 : Kd.C k40 w A0 l0.length l0) (hc0 : l0.length ≤ c0) (hr1 : Kd.C (Kd.int .i64) w A1 x.length x) (k : Nat) (r : DS) (hr : runP n l0 x false k (startP n s) = some r) :
  Calls Try.prog 20 #[.agg #[.int .i64 (n : Int), .slice A0 l0.length c0], .slice A1 x.length c1, .int .i64 s, .iface 52 (.agg #[])] w fun e w' => ∃ v1 v2 : Value, e = .returned (.tuple #[v1, v2]) ∧ Kd.R (Kd.int .i64) 3 w' w.heap.size (fun _ => True) v1 r.d ∧ Kd.R (Kd.int .i64) 3 w' w.heap.size (fun k => some k ≠ v1.ownBlock) v2 r.v ∧ Below w.heap.size w w' := by
 have hu24 := Try.underlying24
 have HR := Aside0.mk hr0
 have HR1 := Aside0.mk hr1
 have HC := Aside0.mk hc0
 have HG := Aside0.mk hg
 have HX := Aside0.mk hx
 have HS := Aside0.mk (And.intro hs0 hs1)
 have HN := Aside0.mk (show n ≤ 1048576 from by have := (gchk_arc hg).2.1; omega)
 have HF := Aside0.mk hr
 clear hr0 hr1 hc0 hg hx hs0 hs1 hr
 go_enter Try.func20, Try.ntmps20
 go_wp2_with (first
  | ((with_reducible refine gate_dst (N := 4) rfl ?_); refine box_event ?hg (N := 4) ?hd (cs := #[.int .i64 (n : Int), .slice A0 l0.length c0]) (t := 24) ?hr ?_; (case hd => rfl); (case hg => rfl); (case hr => first | (go_simp; done) | (go_simp; rfl)); intro g4 hg4 w1 hbox hb; have HB := Aside0.mk hb; have B4 := Aside0.mk hbox; have G4 := Aside0.mk (show w.heap.size ≤ g4 by omega); have W1 := Aside0.mk hb.size; clear hb hbox hg4; have q0 : w1.cell? ⟨g4, 0, none⟩ = some (.int .i64 (n : Int)) := (blk_cell B4.out 0).trans rfl; have q1 : w1.cell? ⟨g4, 1, none⟩ = some (.slice A0 l0.length c0) := (blk_cell B4.out 1).trans rfl)
  | (go_at_call 28; refine (Out_walk HG.out A0 c0 _ (Kd.C_below HR.out HB.out) HC.out).mono ?_; rintro e w2 ⟨vl, rfl, hS, hb⟩; have HL := Aside0.mk hS; have n2_ := Aside0.mk (blk_below B4.out hb); have n3_ := Aside0.mk (below_step HB.out hb); clear hb B4 HB q0 q1 hS; have B4 := n2_; have HB := n3_; clear n2_ n3_; have q0 : w2.cell? ⟨g4, 0, none⟩ = some (.int .i64 (n : Int)) := (blk_cell B4.out 0).trans rfl; have q1 : w2.cell? ⟨g4, 1, none⟩ = some (.slice A0 l0.length c0) := (blk_cell B4.out 1).trans rfl; have ta := ta52 w2; have H0 := Aside0.mk (LA.sx HB.out); have HC4 := Aside0.mk (has_sx B4.out G4.out)))
 clear ta q0 q1
 have hlen_ : (outAt n l0 l0.length).length = n := (outAt_i HG.out _ (Nat.le_refl _)).len
 obtain ⟨gl, cl, eL⟩ : ∃ gl cl, vl = .slice (some ⟨gl, 0, none⟩) n cl := by
  have hs_ := HS.out
  obtain ⟨g, c, e, _⟩ := Kd.R_form (Kd.S_R HL.out) (by rw [hlen_]; omega)
  rw [hlen_] at e
  exact ⟨g, c, e⟩
 subst eL
 clear hlen_
 have n1_ := Aside0.mk (LA.step_below (stay_sx _ _) H0.out (below_drew1 (W := w2.alloc (.cells #[] 56 (0, 0))) (below_alloc (Below.refl _ _) _)))
 clear H0
 have H0 := n1_
 clear n1_
 refine start_ (n := 10) (S := fun w' => w'.cell? ⟨g4, 0, none⟩ = some (.int .i64 (n : Int))) (ds := []) #[false, false, false, false, false, false, false, false, false, false] (by kernel_rfl) rfl rfl (lx_cell (u := .int .i64 (n : Int)) (v := .slice A0 l0.length c0) (g := g4) HC4.out H0.out) (fun hHeld => ?_)
 generalize (w2.alloc (.cells #[] 56 (0, 0))).drew = wq at H0 hHeld ⊢
 refine pure_ (i := 0) (N := some 33) (v := ?_) (a' := ?_) #[true, false, false, false, false, false, false, false, false, false] rfl rfl (by kernel_rfl) (fun _ _ _ h => h) (Or.inl ⟨by rfl, ?_⟩) ?_ ?_
 rotate_left
 ·intro w'
  go_simp
  with_reducible rfl
 rotate_left
 ·simp only [Act.put, List.setIfInBounds_toArray, List.set_cons_zero, List.set_cons_succ, i64_w, i32_w]
  rfl
 refine take_ (i := 1) (N := some 34) (v := ?_) (a' := ?_) #[true, true, false, false, false, false, false, false, false, false] rfl rfl (by kernel_rfl) (fun _ _ _ h => h) (Or.inl ⟨by rfl, ?_⟩) hHeld ?_ ?_
 rotate_left
 ·rintro w' hS
  go_simp
  with_reducible rfl
 rotate_left
 ·simp only [Act.put, List.setIfInBounds_toArray, List.set_cons_zero, List.set_cons_succ, i64_w, i32_w]
  rfl
 refine pure_ (i := 3) (N := some 36) (v := ?_) (a' := ?_) #[true, true, false, true, false, false, false, false, false, false] rfl rfl (by kernel_rfl) (fun _ _ _ h => h) (Or.inl ⟨by rfl, ?_⟩) ?_ ?_
 rotate_left
 ·intro w'
  go_simp
  with_reducible rfl
 rotate_left
 ·simp only [Act.put, List.setIfInBounds_toArray, List.set_cons_zero, List.set_cons_succ, i64_w, i32_w]
  rfl
 refine take_ (i := 4) (N := some 37) (v := ?_) (a' := ?_) #[true, true, false, true, true, false, false, false, false, false] rfl rfl (by kernel_rfl) (fun _ _ _ h => h) (Or.inl ⟨by rfl, ?_⟩) hHeld ?_ ?_
 rotate_left
 ·rintro w' hS
  go_simp
  with_reducible rfl
 rotate_left
 ·simp only [Act.put, List.setIfInBounds_toArray, List.set_cons_zero, List.set_cons_succ, i64_w, i32_w]
  rfl
 refine join_ (σ := Value × Value × Nat × Nat) 1 #[true, true, true, true, true, true, true, true, true, false] (fun s_ => [(35, s_.1), (38, s_.2.1), (13, .pointer (some ⟨s_.2.2.1, 0, none⟩)), (14, .pointer (some ⟨s_.2.2.2, 0, none⟩))]) (fun s_ w' => LA (OwnK (Kd.int .i64) 3 w.heap.size s_.1 (List.replicate n 0) (OwnK (Kd.int .i64) 3 w.heap.size s_.2.1 (List.replicate n 0) (AndT (AndT (SX w.heap.size w2.heap) s_.2.2.2 (.slice none 0 0) 25) s_.2.2.1 s_.1 25))) w w') ?_ ?_
 rotate_left
 ·intro hC25678
  refine join_ (σ := Value × Value × Nat × Nat) 2 #[true, true, true, true, true, true, true, true, false, false] (fun s_ => [(35, s_.1), (38, s_.2.1), (13, .pointer (some ⟨s_.2.2.1, 0, none⟩)), (14, .pointer (some ⟨s_.2.2.2, 0, none⟩))]) (fun s_ w' => LA (OwnK (Kd.int .i64) 3 w.heap.size s_.1 (List.replicate n 0) (OwnK (Kd.int .i64) 3 w.heap.size s_.2.1 (List.replicate n 0) (AndT (AndT (SX w.heap.size w2.heap) s_.2.2.2 (.slice none 0 0) 25) s_.2.2.1 (.slice none 0 0) 25))) w w') ?_ ?_
  rotate_left
  ·intro hC2567
   refine join_ (σ := Value × Nat × Nat) 2 #[true, true, true, true, true, false, true, true, true, false] (fun s_ => [(35, s_.1), (13, .pointer (some ⟨s_.2.1, 0, none⟩)), (14, .pointer (some ⟨s_.2.2, 0, none⟩))]) (fun s_ w' => LA (OwnK (Kd.int .i64) 3 w.heap.size s_.1 (List.replicate n 0) (AndT (AndT (SX w.heap.size w2.heap) s_.2.2 (.slice none 0 0) 25) s_.2.1 s_.1 25)) w w') ?_ ?_
   rotate_left
   ·intro hC2678
    refine join_ (σ := Value × Value × Nat) 3 #[true, true, true, true, true, true, true, false, false, false] (fun s_ => [(35, s_.1), (38, s_.2.1), (13, .pointer (some ⟨s_.2.2, 0, none⟩))]) (fun s_ w' => LA (OwnK (Kd.int .i64) 3 w.heap.size s_.1 (List.replicate n 0) (OwnK (Kd.int .i64) 3 w.heap.size s_.2.1 (List.replicate n 0) (AndT (SX w.heap.size w2.heap) s_.2.2 (.slice none 0 0) 25))) w w') ?_ ?_
    rotate_left
    ·intro hC256
     refine join_ (σ := Value × Value × Nat) 3 #[true, true, true, true, true, true, false, true, false, false] (fun s_ => [(35, s_.1), (38, s_.2.1), (14, .pointer (some ⟨s_.2.2, 0, none⟩))]) (fun s_ w' => LA (OwnK (Kd.int .i64) 3 w.heap.size s_.1 (List.replicate n 0) (OwnK (Kd.int .i64) 3 w.heap.size s_.2.1 (List.replicate n 0) (AndT (SX w.heap.size w2.heap) s_.2.2 (.slice none 0 0) 25))) w w') ?_ ?_
     rotate_left
     ·intro hC257
      refine join_ (σ := Value × Nat × Nat) 3 #[true, true, true, true, true, false, true, true, false, false] (fun s_ => [(35, s_.1), (13, .pointer (some ⟨s_.2.1, 0, none⟩)), (14, .pointer (some ⟨s_.2.2, 0, none⟩))]) (fun s_ w' => LA (OwnK (Kd.int .i64) 3 w.heap.size s_.1 (List.replicate n 0) (AndT (AndT (SX w.heap.size w2.heap) s_.2.2 (.slice none 0 0) 25) s_.2.1 (.slice none 0 0) 25)) w w') ?_ ?_
      rotate_left
      ·intro hC267
       refine join_ (σ := Value × Nat × Nat) 3 #[true, true, false, true, true, true, true, true, false, false] (fun s_ => [(38, s_.1), (13, .pointer (some ⟨s_.2.1, 0, none⟩)), (14, .pointer (some ⟨s_.2.2, 0, none⟩))]) (fun s_ w' => LA (OwnK (Kd.int .i64) 3 w.heap.size s_.1 (List.replicate n 0) (AndT (AndT (SX w.heap.size w2.heap) s_.2.2 (.slice none 0 0) 25) s_.2.1 (.slice none 0 0) 25)) w w') ?_ ?_
       rotate_left
       ·intro hC567
        refine join_ (σ := Value × Value) 4 #[true, true, true, true, true, true, false, false, false, false] (fun s_ => [(35, s_.1), (38, s_.2)]) (fun s_ w' => LA (OwnK (Kd.int .i64) 3 w.heap.size s_.1 (List.replicate n 0) (OwnK (Kd.int .i64) 3 w.heap.size s_.2 (List.replicate n 0) (SX w.heap.size w2.heap))) w w') ?_ ?_
        rotate_left
        ·intro hC25
         refine join_ (σ := Value × Nat) 4 #[true, true, true, true, true, false, true, false, false, false] (fun s_ => [(35, s_.1), (13, .pointer (some ⟨s_.2, 0, none⟩))]) (fun s_ w' => LA (OwnK (Kd.int .i64) 3 w.heap.size s_.1 (List.replicate n 0) (AndT (SX w.heap.size w2.heap) s_.2 (.slice none 0 0) 25)) w w') ?_ ?_
         rotate_left
         ·intro hC26
          refine join_ (σ := Value × Nat) 4 #[true, true, true, true, true, false, false, true, false, false] (fun s_ => [(35, s_.1), (14, .pointer (some ⟨s_.2, 0, none⟩))]) (fun s_ w' => LA (OwnK (Kd.int .i64) 3 w.heap.size s_.1 (List.replicate n 0) (AndT (SX w.heap.size w2.heap) s_.2 (.slice none 0 0) 25)) w w') ?_ ?_
          rotate_left
          ·intro hC27
           refine join_ (σ := Value × Nat) 4 #[true, true, false, true, true, true, true, false, false, false] (fun s_ => [(38, s_.1), (13, .pointer (some ⟨s_.2, 0, none⟩))]) (fun s_ w' => LA (OwnK (Kd.int .i64) 3 w.heap.size s_.1 (List.replicate n 0) (AndT (SX w.heap.size w2.heap) s_.2 (.slice none 0 0) 25)) w w') ?_ ?_
           rotate_left
           ·intro hC56
            refine join_ (σ := Value × Nat) 4 #[true, true, false, true, true, true, false, true, false, false] (fun s_ => [(38, s_.1), (14, .pointer (some ⟨s_.2, 0, none⟩))]) (fun s_ w' => LA (OwnK (Kd.int .i64) 3 w.heap.size s_.1 (List.replicate n 0) (AndT (SX w.heap.size w2.heap) s_.2 (.slice none 0 0) 25)) w w') ?_ ?_
            rotate_left
            ·intro hC57
             refine join_ (σ := Nat × Nat) 4 #[true, true, false, true, true, false, true, true, false, false] (fun s_ => [(13, .pointer (some ⟨s_.1, 0, none⟩)), (14, .pointer (some ⟨s_.2, 0, none⟩))]) (fun s_ w' => LA (AndT (AndT (SX w.heap.size w2.heap) s_.2 (.slice none 0 0) 25) s_.1 (.slice none 0 0) 25) w w') ?_ ?_
             rotate_left
             ·intro hC67
              refine join_ (σ := Value) 5 #[true, true, true, true, true, false, false, false, false, false] (fun s_ => [(35, s_)]) (fun s_ w' => LA (OwnK (Kd.int .i64) 3 w.heap.size s_ (List.replicate n 0) (SX w.heap.size w2.heap)) w w') ?_ ?_
              rotate_left
              ·intro hC2
               refine join_ (σ := Value) 5 #[true, true, false, true, true, true, false, false, false, false] (fun s_ => [(38, s_)]) (fun s_ w' => LA (OwnK (Kd.int .i64) 3 w.heap.size s_ (List.replicate n 0) (SX w.heap.size w2.heap)) w w') ?_ ?_
               rotate_left
               ·intro hC5
                refine join_ (σ := Nat) 5 #[true, true, false, true, true, false, true, false, false, false] (fun s_ => [(13, .pointer (some ⟨s_, 0, none⟩))]) (fun s_ w' => LA (AndT (SX w.heap.size w2.heap) s_ (.slice none 0 0) 25) w w') ?_ ?_
                rotate_left
                ·intro hC6
                 refine join_ (σ := Nat) 5 #[true, true, false, true, true, false, false, true, false, false] (fun s_ => [(14, .pointer (some ⟨s_, 0, none⟩))]) (fun s_ w' => LA (AndT (SX w.heap.size w2.heap) s_ (.slice none 0 0) 25) w w') ?_ ?_
                 rotate_left
                 ·intro hC7
                  refine four_ (i := 2) (j := 5) (k := 6) (m := 7) (Ni := some 35) (Nj := some 38) (Nk := some 13) (Nm := some 14) #[true, true, true, true, true, false, false, false, false, false] #[true, true, false, true, true, true, false, false, false, false] #[true, true, false, true, true, false, true, false, false, false] #[true, true, false, true, true, false, false, true, false, false] rfl rfl rfl rfl rfl rfl rfl rfl (by kernel_rfl) (by decide) (by decide) (by decide) (by decide) (fun K hK => ?_) (fun K hK => ?_) (fun K hK => ?_) (fun K hK => ?_)
                  ·skip
                   refine Kd.R_make_step (Kd.int .i64) _ 3 (by rfl) (N := 35) rfl 25 _ _ rfl (n : Int) rfl rfl Try.underlying25 (.int .i64 0) 8 info3q rfl (by decide) (by omega) (0 : Int) (ok := fun _ => True) (okp := fun _ => True) rfl (fun _ hk => hk) trivial (Int.natCast_nonneg n) (by have := HN.out; omega) (Below.refl _ _) (Nat.le_refl _) ?_
                   intro z35 wz ho hb hg_ hnew_
                   rw [Int.toNat_natCast] at ho
                   have n1_ := LA.made (stay_sx _ _) H0.out hb (Kd.R_lower (Kd.R_mono (Kd.R_bound ho) (fun k hk => hk.2.1)) H0.out.2.size)
                   have n2_ := Aside0.mk (n1_)
                   refine hK.out _ _ (lx_cell (u := .int .i64 (n : Int)) (v := .slice A0 l0.length c0) (g := g4) (has_own HC4.out) n2_.out) (fun hHeld2 => ?_)
                   clear hK K
                   refine norm_ (a' := ?_) ?_ ?_
                   rotate_left
                   ·show Act.put _ (some 35) _ = _
                    simp only [Act.put, List.setIfInBounds_toArray, List.set_cons_zero, List.set_cons_succ, i64_w, i32_w]
                    rfl
                   exact norm_ (by simp only [putAll, Act.put, List.setIfInBounds_toArray, List.set_cons_zero, List.set_cons_succ]) (hC2 z35 _ n2_.out)
                  ·skip
                   refine Kd.R_make_step (Kd.int .i64) _ 3 (by rfl) (N := 38) rfl 25 _ _ rfl (n : Int) rfl rfl Try.underlying25 (.int .i64 0) 8 info3q rfl (by decide) (by omega) (0 : Int) (ok := fun _ => True) (okp := fun _ => True) rfl (fun _ hk => hk) trivial (Int.natCast_nonneg n) (by have := HN.out; omega) (Below.refl _ _) (Nat.le_refl _) ?_
                   intro z38 wz ho hb hg_ hnew_
                   rw [Int.toNat_natCast] at ho
                   have n1_ := LA.made (stay_sx _ _) H0.out hb (Kd.R_lower (Kd.R_mono (Kd.R_bound ho) (fun k hk => hk.2.1)) H0.out.2.size)
                   have n2_ := Aside0.mk (n1_)
                   refine hK.out _ _ (lx_cell (u := .int .i64 (n : Int)) (v := .slice A0 l0.length c0) (g := g4) (has_own HC4.out) n2_.out) (fun hHeld2 => ?_)
                   clear hK K
                   refine norm_ (a' := ?_) ?_ ?_
                   rotate_left
                   ·show Act.put _ (some 38) _ = _
                    simp only [Act.put, List.setIfInBounds_toArray, List.set_cons_zero, List.set_cons_succ, i64_w, i32_w]
                    rfl
                   exact norm_ (by simp only [putAll, Act.put, List.setIfInBounds_toArray, List.set_cons_zero, List.set_cons_succ]) (hC5 z38 _ n2_.out)
                  ·skip
                   refine box_step (by rfl) (N := 13) rfl (cs := #[.slice none 0 0]) (t := 25) ?_ ?_
                   ·first | (go_simp; done) | (go_simp; rfl)
                   intro z13 hgz wz hbox hb
                   have n1_ := LA.allocT (stay_sx _ _) H0.out hb hgz hbox
                   have n2_ := Aside0.mk (n1_)
                   refine hK.out _ _ (lx_cell (u := .int .i64 (n : Int)) (v := .slice A0 l0.length c0) (g := g4) (has_box HC4.out) n2_.out) (fun hHeld2 => ?_)
                   clear hK K
                   refine norm_ (a' := ?_) ?_ ?_
                   rotate_left
                   ·show Act.put _ (some 13) _ = _
                    simp only [Act.put, List.setIfInBounds_toArray, List.set_cons_zero, List.set_cons_succ, i64_w, i32_w]
                    rfl
                   exact norm_ (by simp only [putAll, Act.put, List.setIfInBounds_toArray, List.set_cons_zero, List.set_cons_succ]) (hC6 z13 _ n2_.out)
                  ·skip
                   refine box_step (by rfl) (N := 14) rfl (cs := #[.slice none 0 0]) (t := 25) ?_ ?_
                   ·first | (go_simp; done) | (go_simp; rfl)
                   intro z14 hgz wz hbox hb
                   have n1_ := LA.allocT (stay_sx _ _) H0.out hb hgz hbox
                   have n2_ := Aside0.mk (n1_)
                   refine hK.out _ _ (lx_cell (u := .int .i64 (n : Int)) (v := .slice A0 l0.length c0) (g := g4) (has_box HC4.out) n2_.out) (fun hHeld2 => ?_)
                   clear hK K
                   refine norm_ (a' := ?_) ?_ ?_
                   rotate_left
                   ·show Act.put _ (some 14) _ = _
                    simp only [Act.put, List.setIfInBounds_toArray, List.set_cons_zero, List.set_cons_succ, i64_w, i32_w]
                    rfl
                   exact norm_ (by simp only [putAll, Act.put, List.setIfInBounds_toArray, List.set_cons_zero, List.set_cons_succ]) (hC7 z14 _ n2_.out)
                 rintro z14 wy hq
                 (try dsimp only at hq)
                 have HZ := Aside0.mk hq
                 clear hq
                 have hHeld := (lx_cell (u := .int .i64 (n : Int)) (v := .slice A0 l0.length c0) (g := g4) (has_box HC4.out) HZ.out)
                 refine norm_ (a' := ?_) ?_ ?_
                 rotate_left
                 ·simp only [putAll, Act.put, List.setIfInBounds_toArray, List.set_cons_zero, List.set_cons_succ]
                  rfl
                 refine three_ (i := 2) (j := 5) (k := 6) (Ni := some 35) (Nj := some 38) (Nk := some 13) #[true, true, true, true, true, false, false, true, false, false] #[true, true, false, true, true, true, false, true, false, false] #[true, true, false, true, true, false, true, true, false, false] rfl rfl rfl rfl rfl rfl (by kernel_rfl) (by decide) (by decide) (by decide) (fun K hK => ?_) (fun K hK => ?_) (fun K hK => ?_)
                 ·skip
                  refine Kd.R_make_step (Kd.int .i64) _ 3 (by rfl) (N := 35) rfl 25 _ _ rfl (n : Int) rfl rfl Try.underlying25 (.int .i64 0) 8 info3q rfl (by decide) (by omega) (0 : Int) (ok := fun _ => True) (okp := fun _ => True) rfl (fun _ hk => hk) trivial (Int.natCast_nonneg n) (by have := HN.out; omega) (Below.refl _ _) (Nat.le_refl _) ?_
                  intro z35 wz ho hb hg_ hnew_
                  rw [Int.toNat_natCast] at ho
                  have n1_ := LA.made (stay_andT (stay_sx _ _) _ _ _) HZ.out hb (Kd.R_lower (Kd.R_mono (Kd.R_bound ho) (fun k hk => hk.2.1)) HZ.out.2.size)
                  have n2_ := Aside0.mk (n1_)
                  refine hK.out _ _ (lx_cell (u := .int .i64 (n : Int)) (v := .slice A0 l0.length c0) (g := g4) (has_own (has_box HC4.out)) n2_.out) (fun hHeld2 => ?_)
                  clear hK K
                  refine norm_ (a' := ?_) ?_ ?_
                  rotate_left
                  ·show Act.put _ (some 35) _ = _
                   simp only [Act.put, List.setIfInBounds_toArray, List.set_cons_zero, List.set_cons_succ, i64_w, i32_w]
                   rfl
                  exact norm_ (by simp only [putAll, Act.put, List.setIfInBounds_toArray, List.set_cons_zero, List.set_cons_succ]) (hC27 (z35, z14) _ n2_.out)
                 ·skip
                  refine Kd.R_make_step (Kd.int .i64) _ 3 (by rfl) (N := 38) rfl 25 _ _ rfl (n : Int) rfl rfl Try.underlying25 (.int .i64 0) 8 info3q rfl (by decide) (by omega) (0 : Int) (ok := fun _ => True) (okp := fun _ => True) rfl (fun _ hk => hk) trivial (Int.natCast_nonneg n) (by have := HN.out; omega) (Below.refl _ _) (Nat.le_refl _) ?_
                  intro z38 wz ho hb hg_ hnew_
                  rw [Int.toNat_natCast] at ho
                  have n1_ := LA.made (stay_andT (stay_sx _ _) _ _ _) HZ.out hb (Kd.R_lower (Kd.R_mono (Kd.R_bound ho) (fun k hk => hk.2.1)) HZ.out.2.size)
                  have n2_ := Aside0.mk (n1_)
                  refine hK.out _ _ (lx_cell (u := .int .i64 (n : Int)) (v := .slice A0 l0.length c0) (g := g4) (has_own (has_box HC4.out)) n2_.out) (fun hHeld2 => ?_)
                  clear hK K
                  refine norm_ (a' := ?_) ?_ ?_
                  rotate_left
                  ·show Act.put _ (some 38) _ = _
                   simp only [Act.put, List.setIfInBounds_toArray, List.set_cons_zero, List.set_cons_succ, i64_w, i32_w]
                   rfl
                  exact norm_ (by simp only [putAll, Act.put, List.setIfInBounds_toArray, List.set_cons_zero, List.set_cons_succ]) (hC57 (z38, z14) _ n2_.out)
                 ·skip
                  refine box_step (by rfl) (N := 13) rfl (cs := #[.slice none 0 0]) (t := 25) ?_ ?_
                  ·first | (go_simp; done) | (go_simp; rfl)
                  intro z13 hgz wz hbox hb
                  have n1_ := LA.allocT (stay_andT (stay_sx _ _) _ _ _) HZ.out hb hgz hbox
                  have n2_ := Aside0.mk (n1_)
                  refine hK.out _ _ (lx_cell (u := .int .i64 (n : Int)) (v := .slice A0 l0.length c0) (g := g4) (has_box (has_box HC4.out)) n2_.out) (fun hHeld2 => ?_)
                  clear hK K
                  refine norm_ (a' := ?_) ?_ ?_
                  rotate_left
                  ·show Act.put _ (some 13) _ = _
                   simp only [Act.put, List.setIfInBounds_toArray, List.set_cons_zero, List.set_cons_succ, i64_w, i32_w]
                   rfl
                  exact norm_ (by simp only [putAll, Act.put, List.setIfInBounds_toArray, List.set_cons_zero, List.set_cons_succ]) (hC67 (z13, z14) _ n2_.out)
                rintro z13 wy hq
                (try dsimp only at hq)
                have HZ := Aside0.mk hq
                clear hq
                have hHeld := (lx_cell (u := .int .i64 (n : Int)) (v := .slice A0 l0.length c0) (g := g4) (has_box HC4.out) HZ.out)
                refine norm_ (a' := ?_) ?_ ?_
                rotate_left
                ·simp only [putAll, Act.put, List.setIfInBounds_toArray, List.set_cons_zero, List.set_cons_succ]
                 rfl
                refine three_ (i := 2) (j := 5) (k := 7) (Ni := some 35) (Nj := some 38) (Nk := some 14) #[true, true, true, true, true, false, true, false, false, false] #[true, true, false, true, true, true, true, false, false, false] #[true, true, false, true, true, false, true, true, false, false] rfl rfl rfl rfl rfl rfl (by kernel_rfl) (by decide) (by decide) (by decide) (fun K hK => ?_) (fun K hK => ?_) (fun K hK => ?_)
                ·skip
                 refine Kd.R_make_step (Kd.int .i64) _ 3 (by rfl) (N := 35) rfl 25 _ _ rfl (n : Int) rfl rfl Try.underlying25 (.int .i64 0) 8 info3q rfl (by decide) (by omega) (0 : Int) (ok := fun _ => True) (okp := fun _ => True) rfl (fun _ hk => hk) trivial (Int.natCast_nonneg n) (by have := HN.out; omega) (Below.refl _ _) (Nat.le_refl _) ?_
                 intro z35 wz ho hb hg_ hnew_
                 rw [Int.toNat_natCast] at ho
                 have n1_ := LA.made (stay_andT (stay_sx _ _) _ _ _) HZ.out hb (Kd.R_lower (Kd.R_mono (Kd.R_bound ho) (fun k hk => hk.2.1)) HZ.out.2.size)
                 have n2_ := Aside0.mk (n1_)
                 refine hK.out _ _ (lx_cell (u := .int .i64 (n : Int)) (v := .slice A0 l0.length c0) (g := g4) (has_own (has_box HC4.out)) n2_.out) (fun hHeld2 => ?_)
                 clear hK K
                 refine norm_ (a' := ?_) ?_ ?_
                 rotate_left
                 ·show Act.put _ (some 35) _ = _
                  simp only [Act.put, List.setIfInBounds_toArray, List.set_cons_zero, List.set_cons_succ, i64_w, i32_w]
                  rfl
                 exact norm_ (by simp only [putAll, Act.put, List.setIfInBounds_toArray, List.set_cons_zero, List.set_cons_succ]) (hC26 (z35, z13) _ n2_.out)
                ·skip
                 refine Kd.R_make_step (Kd.int .i64) _ 3 (by rfl) (N := 38) rfl 25 _ _ rfl (n : Int) rfl rfl Try.underlying25 (.int .i64 0) 8 info3q rfl (by decide) (by omega) (0 : Int) (ok := fun _ => True) (okp := fun _ => True) rfl (fun _ hk => hk) trivial (Int.natCast_nonneg n) (by have := HN.out; omega) (Below.refl _ _) (Nat.le_refl _) ?_
                 intro z38 wz ho hb hg_ hnew_
                 rw [Int.toNat_natCast] at ho
                 have n1_ := LA.made (stay_andT (stay_sx _ _) _ _ _) HZ.out hb (Kd.R_lower (Kd.R_mono (Kd.R_bound ho) (fun k hk => hk.2.1)) HZ.out.2.size)
                 have n2_ := Aside0.mk (n1_)
                 refine hK.out _ _ (lx_cell (u := .int .i64 (n : Int)) (v := .slice A0 l0.length c0) (g := g4) (has_own (has_box HC4.out)) n2_.out) (fun hHeld2 => ?_)
                 clear hK K
                 refine norm_ (a' := ?_) ?_ ?_
                 rotate_left
                 ·show Act.put _ (some 38) _ = _
                  simp only [Act.put, List.setIfInBounds_toArray, List.set_cons_zero, List.set_cons_succ, i64_w, i32_w]
                  rfl
                 exact norm_ (by simp only [putAll, Act.put, List.setIfInBounds_toArray, List.set_cons_zero, List.set_cons_succ]) (hC56 (z38, z13) _ n2_.out)
                ·skip
                 refine box_step (by rfl) (N := 14) rfl (cs := #[.slice none 0 0]) (t := 25) ?_ ?_
                 ·first | (go_simp; done) | (go_simp; rfl)
                 intro z14 hgz wz hbox hb
                 have n1_ := LA.allocT (stay_andT (stay_sx _ _) _ _ _) HZ.out hb hgz hbox
                 have n2_ := Aside0.mk (n1_.weaken (fun w ok h => box_box (stay_sx _ _) h))
                 refine hK.out _ _ (lx_cell (u := .int .i64 (n : Int)) (v := .slice A0 l0.length c0) (g := g4) (has_box (has_box HC4.out)) n2_.out) (fun hHeld2 => ?_)
                 clear hK K
                 refine norm_ (a' := ?_) ?_ ?_
                 rotate_left
                 ·show Act.put _ (some 14) _ = _
                  simp only [Act.put, List.setIfInBounds_toArray, List.set_cons_zero, List.set_cons_succ, i64_w, i32_w]
                  rfl
                 exact norm_ (by simp only [putAll, Act.put, List.setIfInBounds_toArray, List.set_cons_zero, List.set_cons_succ]) (hC67 (z13, z14) _ n2_.out)
               rintro z38 wy hq
               (try dsimp only at hq)
               have HZ := Aside0.mk hq
               clear hq
               have hHeld := (lx_cell (u := .int .i64 (n : Int)) (v := .slice A0 l0.length c0) (g := g4) (has_own HC4.out) HZ.out)
               refine norm_ (a' := ?_) ?_ ?_
               rotate_left
               ·simp only [putAll, Act.put, List.setIfInBounds_toArray, List.set_cons_zero, List.set_cons_succ]
                rfl
               refine three_ (i := 2) (j := 6) (k := 7) (Ni := some 35) (Nj := some 13) (Nk := some 14) #[true, true, true, true, true, true, false, false, false, false] #[true, true, false, true, true, true, true, false, false, false] #[true, true, false, true, true, true, false, true, false, false] rfl rfl rfl rfl rfl rfl (by kernel_rfl) (by decide) (by decide) (by decide) (fun K hK => ?_) (fun K hK => ?_) (fun K hK => ?_)
               ·skip
                refine Kd.R_make_step (Kd.int .i64) _ 3 (by rfl) (N := 35) rfl 25 _ _ rfl (n : Int) rfl rfl Try.underlying25 (.int .i64 0) 8 info3q rfl (by decide) (by omega) (0 : Int) (ok := fun _ => True) (okp := fun _ => True) rfl (fun _ hk => hk) trivial (Int.natCast_nonneg n) (by have := HN.out; omega) (Below.refl _ _) (Nat.le_refl _) ?_
                intro z35 wz ho hb hg_ hnew_
                rw [Int.toNat_natCast] at ho
                have n1_ := LA.made (stay_own _ _ _ _ _ (stay_sx _ _)) HZ.out hb (Kd.R_lower (Kd.R_mono (Kd.R_bound ho) (fun k hk => hk.2.1)) HZ.out.2.size)
                have n2_ := Aside0.mk (n1_)
                refine hK.out _ _ (lx_cell (u := .int .i64 (n : Int)) (v := .slice A0 l0.length c0) (g := g4) (has_own (has_own HC4.out)) n2_.out) (fun hHeld2 => ?_)
                clear hK K
                refine norm_ (a' := ?_) ?_ ?_
                rotate_left
                ·show Act.put _ (some 35) _ = _
                 simp only [Act.put, List.setIfInBounds_toArray, List.set_cons_zero, List.set_cons_succ, i64_w, i32_w]
                 rfl
                exact norm_ (by simp only [putAll, Act.put, List.setIfInBounds_toArray, List.set_cons_zero, List.set_cons_succ]) (hC25 (z35, z38) _ n2_.out)
               ·skip
                refine box_step (by rfl) (N := 13) rfl (cs := #[.slice none 0 0]) (t := 25) ?_ ?_
                ·first | (go_simp; done) | (go_simp; rfl)
                intro z13 hgz wz hbox hb
                have n1_ := LA.allocT (stay_own _ _ _ _ _ (stay_sx _ _)) HZ.out hb hgz hbox
                have n2_ := Aside0.mk (n1_.weaken (fun w ok h => box_own (stay_sx _ _) h))
                refine hK.out _ _ (lx_cell (u := .int .i64 (n : Int)) (v := .slice A0 l0.length c0) (g := g4) (has_own (has_box HC4.out)) n2_.out) (fun hHeld2 => ?_)
                clear hK K
                refine norm_ (a' := ?_) ?_ ?_
                rotate_left
                ·show Act.put _ (some 13) _ = _
                 simp only [Act.put, List.setIfInBounds_toArray, List.set_cons_zero, List.set_cons_succ, i64_w, i32_w]
                 rfl
                exact norm_ (by simp only [putAll, Act.put, List.setIfInBounds_toArray, List.set_cons_zero, List.set_cons_succ]) (hC56 (z38, z13) _ n2_.out)
               ·skip
                refine box_step (by rfl) (N := 14) rfl (cs := #[.slice none 0 0]) (t := 25) ?_ ?_
                ·first | (go_simp; done) | (go_simp; rfl)
                intro z14 hgz wz hbox hb
                have n1_ := LA.allocT (stay_own _ _ _ _ _ (stay_sx _ _)) HZ.out hb hgz hbox
                have n2_ := Aside0.mk (n1_.weaken (fun w ok h => box_own (stay_sx _ _) h))
                refine hK.out _ _ (lx_cell (u := .int .i64 (n : Int)) (v := .slice A0 l0.length c0) (g := g4) (has_own (has_box HC4.out)) n2_.out) (fun hHeld2 => ?_)
                clear hK K
                refine norm_ (a' := ?_) ?_ ?_
                rotate_left
                ·show Act.put _ (some 14) _ = _
                 simp only [Act.put, List.setIfInBounds_toArray, List.set_cons_zero, List.set_cons_succ, i64_w, i32_w]
                 rfl
                exact norm_ (by simp only [putAll, Act.put, List.setIfInBounds_toArray, List.set_cons_zero, List.set_cons_succ]) (hC57 (z38, z14) _ n2_.out)
              rintro z35 wy hq
              (try dsimp only at hq)
              have HZ := Aside0.mk hq
              clear hq
              have hHeld := (lx_cell (u := .int .i64 (n : Int)) (v := .slice A0 l0.length c0) (g := g4) (has_own HC4.out) HZ.out)
              refine norm_ (a' := ?_) ?_ ?_
              rotate_left
              ·simp only [putAll, Act.put, List.setIfInBounds_toArray, List.set_cons_zero, List.set_cons_succ]
               rfl
              refine three_ (i := 5) (j := 6) (k := 7) (Ni := some 38) (Nj := some 13) (Nk := some 14) #[true, true, true, true, true, true, false, false, false, false] #[true, true, true, true, true, false, true, false, false, false] #[true, true, true, true, true, false, false, true, false, false] rfl rfl rfl rfl rfl rfl (by kernel_rfl) (by decide) (by decide) (by decide) (fun K hK => ?_) (fun K hK => ?_) (fun K hK => ?_)
              ·skip
               refine Kd.R_make_step (Kd.int .i64) _ 3 (by rfl) (N := 38) rfl 25 _ _ rfl (n : Int) rfl rfl Try.underlying25 (.int .i64 0) 8 info3q rfl (by decide) (by omega) (0 : Int) (ok := fun _ => True) (okp := fun _ => True) rfl (fun _ hk => hk) trivial (Int.natCast_nonneg n) (by have := HN.out; omega) (Below.refl _ _) (Nat.le_refl _) ?_
               intro z38 wz ho hb hg_ hnew_
               rw [Int.toNat_natCast] at ho
               have n1_ := LA.made (stay_own _ _ _ _ _ (stay_sx _ _)) HZ.out hb (Kd.R_lower (Kd.R_mono (Kd.R_bound ho) (fun k hk => hk.2.1)) HZ.out.2.size)
               have n2_ := Aside0.mk (n1_.weaken (fun w ok h => own_own (stay_sx _ _) h))
               refine hK.out _ _ (lx_cell (u := .int .i64 (n : Int)) (v := .slice A0 l0.length c0) (g := g4) (has_own (has_own HC4.out)) n2_.out) (fun hHeld2 => ?_)
               clear hK K
               refine norm_ (a' := ?_) ?_ ?_
               rotate_left
               ·show Act.put _ (some 38) _ = _
                simp only [Act.put, List.setIfInBounds_toArray, List.set_cons_zero, List.set_cons_succ, i64_w, i32_w]
                rfl
               exact norm_ (by simp only [putAll, Act.put, List.setIfInBounds_toArray, List.set_cons_zero, List.set_cons_succ]) (hC25 (z35, z38) _ n2_.out)
              ·skip
               refine box_step (by rfl) (N := 13) rfl (cs := #[.slice none 0 0]) (t := 25) ?_ ?_
               ·first | (go_simp; done) | (go_simp; rfl)
               intro z13 hgz wz hbox hb
               have n1_ := LA.allocT (stay_own _ _ _ _ _ (stay_sx _ _)) HZ.out hb hgz hbox
               have n2_ := Aside0.mk (n1_.weaken (fun w ok h => box_own (stay_sx _ _) h))
               refine hK.out _ _ (lx_cell (u := .int .i64 (n : Int)) (v := .slice A0 l0.length c0) (g := g4) (has_own (has_box HC4.out)) n2_.out) (fun hHeld2 => ?_)
               clear hK K
               refine norm_ (a' := ?_) ?_ ?_
               rotate_left
               ·show Act.put _ (some 13) _ = _
                simp only [Act.put, List.setIfInBounds_toArray, List.set_cons_zero, List.set_cons_succ, i64_w, i32_w]
                rfl
               exact norm_ (by simp only [putAll, Act.put, List.setIfInBounds_toArray, List.set_cons_zero, List.set_cons_succ]) (hC26 (z35, z13) _ n2_.out)
              ·skip
               refine box_step (by rfl) (N := 14) rfl (cs := #[.slice none 0 0]) (t := 25) ?_ ?_
               ·first | (go_simp; done) | (go_simp; rfl)
               intro z14 hgz wz hbox hb
               have n1_ := LA.allocT (stay_own _ _ _ _ _ (stay_sx _ _)) HZ.out hb hgz hbox
               have n2_ := Aside0.mk (n1_.weaken (fun w ok h => box_own (stay_sx _ _) h))
               refine hK.out _ _ (lx_cell (u := .int .i64 (n : Int)) (v := .slice A0 l0.length c0) (g := g4) (has_own (has_box HC4.out)) n2_.out) (fun hHeld2 => ?_)
               clear hK K
               refine norm_ (a' := ?_) ?_ ?_
               rotate_left
               ·show Act.put _ (some 14) _ = _
                simp only [Act.put, List.setIfInBounds_toArray, List.set_cons_zero, List.set_cons_succ, i64_w, i32_w]
                rfl
               exact norm_ (by simp only [putAll, Act.put, List.setIfInBounds_toArray, List.set_cons_zero, List.set_cons_succ]) (hC27 (z35, z14) _ n2_.out)
             rintro ⟨z13, z14⟩ wy hq
             (try dsimp only at hq)
             have HZ := Aside0.mk hq
             clear hq
             have hHeld := (lx_cell (u := .int .i64 (n : Int)) (v := .slice A0 l0.length c0) (g := g4) (has_box (has_box HC4.out)) HZ.out)
             refine norm_ (a' := ?_) ?_ ?_
             rotate_left
             ·simp only [putAll, Act.put, List.setIfInBounds_toArray, List.set_cons_zero, List.set_cons_succ]
              rfl
             refine two_ (i := 2) (j := 5) (Ni := some 35) (Nj := some 38) #[true, true, true, true, true, false, true, true, false, false] #[true, true, false, true, true, true, true, true, false, false] rfl rfl rfl rfl (by kernel_rfl) (by decide) (by decide) (fun K hK => ?_) (fun K hK => ?_)
             ·skip
              refine Kd.R_make_step (Kd.int .i64) _ 3 (by rfl) (N := 35) rfl 25 _ _ rfl (n : Int) rfl rfl Try.underlying25 (.int .i64 0) 8 info3q rfl (by decide) (by omega) (0 : Int) (ok := fun _ => True) (okp := fun _ => True) rfl (fun _ hk => hk) trivial (Int.natCast_nonneg n) (by have := HN.out; omega) (Below.refl _ _) (Nat.le_refl _) ?_
              intro z35 wz ho hb hg_ hnew_
              rw [Int.toNat_natCast] at ho
              have n1_ := LA.made (stay_andT (stay_andT (stay_sx _ _) _ _ _) _ _ _) HZ.out hb (Kd.R_lower (Kd.R_mono (Kd.R_bound ho) (fun k hk => hk.2.1)) HZ.out.2.size)
              have n2_ := Aside0.mk (n1_)
              refine hK.out _ _ (lx_cell (u := .int .i64 (n : Int)) (v := .slice A0 l0.length c0) (g := g4) (has_own (has_box (has_box HC4.out))) n2_.out) (fun hHeld2 => ?_)
              clear hK K
              refine norm_ (a' := ?_) ?_ ?_
              rotate_left
              ·show Act.put _ (some 35) _ = _
               simp only [Act.put, List.setIfInBounds_toArray, List.set_cons_zero, List.set_cons_succ, i64_w, i32_w]
               rfl
              exact norm_ (by simp only [putAll, Act.put, List.setIfInBounds_toArray, List.set_cons_zero, List.set_cons_succ]) (hC267 (z35, z13, z14) _ n2_.out)
             ·skip
              refine Kd.R_make_step (Kd.int .i64) _ 3 (by rfl) (N := 38) rfl 25 _ _ rfl (n : Int) rfl rfl Try.underlying25 (.int .i64 0) 8 info3q rfl (by decide) (by omega) (0 : Int) (ok := fun _ => True) (okp := fun _ => True) rfl (fun _ hk => hk) trivial (Int.natCast_nonneg n) (by have := HN.out; omega) (Below.refl _ _) (Nat.le_refl _) ?_
              intro z38 wz ho hb hg_ hnew_
              rw [Int.toNat_natCast] at ho
              have n1_ := LA.made (stay_andT (stay_andT (stay_sx _ _) _ _ _) _ _ _) HZ.out hb (Kd.R_lower (Kd.R_mono (Kd.R_bound ho) (fun k hk => hk.2.1)) HZ.out.2.size)
              have n2_ := Aside0.mk (n1_)
              refine hK.out _ _ (lx_cell (u := .int .i64 (n : Int)) (v := .slice A0 l0.length c0) (g := g4) (has_own (has_box (has_box HC4.out))) n2_.out) (fun hHeld2 => ?_)
              clear hK K
              refine norm_ (a' := ?_) ?_ ?_
              rotate_left
              ·show Act.put _ (some 38) _ = _
               simp only [Act.put, List.setIfInBounds_toArray, List.set_cons_zero, List.set_cons_succ, i64_w, i32_w]
               rfl
              exact norm_ (by simp only [putAll, Act.put, List.setIfInBounds_toArray, List.set_cons_zero, List.set_cons_succ]) (hC567 (z38, z13, z14) _ n2_.out)
            rintro ⟨z38, z14⟩ wy hq
            (try dsimp only at hq)
            have HZ := Aside0.mk hq
            clear hq
            have hHeld := (lx_cell (u := .int .i64 (n : Int)) (v := .slice A0 l0.length c0) (g := g4) (has_own (has_box HC4.out)) HZ.out)
            refine norm_ (a' := ?_) ?_ ?_
            rotate_left
            ·simp only [putAll, Act.put, List.setIfInBounds_toArray, List.set_cons_zero, List.set_cons_succ]
             rfl
            refine two_ (i := 2) (j := 6) (Ni := some 35) (Nj := some 13) #[true, true, true, true, true, true, false, true, false, false] #[true, true, false, true, true, true, true, true, false, false] rfl rfl rfl rfl (by kernel_rfl) (by decide) (by decide) (fun K hK => ?_) (fun K hK => ?_)
            ·skip
             refine Kd.R_make_step (Kd.int .i64) _ 3 (by rfl) (N := 35) rfl 25 _ _ rfl (n : Int) rfl rfl Try.underlying25 (.int .i64 0) 8 info3q rfl (by decide) (by omega) (0 : Int) (ok := fun _ => True) (okp := fun _ => True) rfl (fun _ hk => hk) trivial (Int.natCast_nonneg n) (by have := HN.out; omega) (Below.refl _ _) (Nat.le_refl _) ?_
             intro z35 wz ho hb hg_ hnew_
             rw [Int.toNat_natCast] at ho
             have n1_ := LA.made (stay_own _ _ _ _ _ (stay_andT (stay_sx _ _) _ _ _)) HZ.out hb (Kd.R_lower (Kd.R_mono (Kd.R_bound ho) (fun k hk => hk.2.1)) HZ.out.2.size)
             have n2_ := Aside0.mk (n1_)
             refine hK.out _ _ (lx_cell (u := .int .i64 (n : Int)) (v := .slice A0 l0.length c0) (g := g4) (has_own (has_own (has_box HC4.out))) n2_.out) (fun hHeld2 => ?_)
             clear hK K
             refine norm_ (a' := ?_) ?_ ?_
             rotate_left
             ·show Act.put _ (some 35) _ = _
              simp only [Act.put, List.setIfInBounds_toArray, List.set_cons_zero, List.set_cons_succ, i64_w, i32_w]
              rfl
             exact norm_ (by simp only [putAll, Act.put, List.setIfInBounds_toArray, List.set_cons_zero, List.set_cons_succ]) (hC257 (z35, z38, z14) _ n2_.out)
            ·skip
             refine box_step (by rfl) (N := 13) rfl (cs := #[.slice none 0 0]) (t := 25) ?_ ?_
             ·first | (go_simp; done) | (go_simp; rfl)
             intro z13 hgz wz hbox hb
             have n1_ := LA.allocT (stay_own _ _ _ _ _ (stay_andT (stay_sx _ _) _ _ _)) HZ.out hb hgz hbox
             have n2_ := Aside0.mk (n1_.weaken (fun w ok h => box_own (stay_andT (stay_sx _ _) _ _ _) h))
             refine hK.out _ _ (lx_cell (u := .int .i64 (n : Int)) (v := .slice A0 l0.length c0) (g := g4) (has_own (has_box (has_box HC4.out))) n2_.out) (fun hHeld2 => ?_)
             clear hK K
             refine norm_ (a' := ?_) ?_ ?_
             rotate_left
             ·show Act.put _ (some 13) _ = _
              simp only [Act.put, List.setIfInBounds_toArray, List.set_cons_zero, List.set_cons_succ, i64_w, i32_w]
              rfl
             exact norm_ (by simp only [putAll, Act.put, List.setIfInBounds_toArray, List.set_cons_zero, List.set_cons_succ]) (hC567 (z38, z13, z14) _ n2_.out)
           rintro ⟨z38, z13⟩ wy hq
           (try dsimp only at hq)
           have HZ := Aside0.mk hq
           clear hq
           have hHeld := (lx_cell (u := .int .i64 (n : Int)) (v := .slice A0 l0.length c0) (g := g4) (has_own (has_box HC4.out)) HZ.out)
           refine norm_ (a' := ?_) ?_ ?_
           rotate_left
           ·simp only [putAll, Act.put, List.setIfInBounds_toArray, List.set_cons_zero, List.set_cons_succ]
            rfl
           refine two_ (i := 2) (j := 7) (Ni := some 35) (Nj := some 14) #[true, true, true, true, true, true, true, false, false, false] #[true, true, false, true, true, true, true, true, false, false] rfl rfl rfl rfl (by kernel_rfl) (by decide) (by decide) (fun K hK => ?_) (fun K hK => ?_)
           ·skip
            refine Kd.R_make_step (Kd.int .i64) _ 3 (by rfl) (N := 35) rfl 25 _ _ rfl (n : Int) rfl rfl Try.underlying25 (.int .i64 0) 8 info3q rfl (by decide) (by omega) (0 : Int) (ok := fun _ => True) (okp := fun _ => True) rfl (fun _ hk => hk) trivial (Int.natCast_nonneg n) (by have := HN.out; omega) (Below.refl _ _) (Nat.le_refl _) ?_
            intro z35 wz ho hb hg_ hnew_
            rw [Int.toNat_natCast] at ho
            have n1_ := LA.made (stay_own _ _ _ _ _ (stay_andT (stay_sx _ _) _ _ _)) HZ.out hb (Kd.R_lower (Kd.R_mono (Kd.R_bound ho) (fun k hk => hk.2.1)) HZ.out.2.size)
            have n2_ := Aside0.mk (n1_)
            refine hK.out _ _ (lx_cell (u := .int .i64 (n : Int)) (v := .slice A0 l0.length c0) (g := g4) (has_own (has_own (has_box HC4.out))) n2_.out) (fun hHeld2 => ?_)
            clear hK K
            refine norm_ (a' := ?_) ?_ ?_
            rotate_left
            ·show Act.put _ (some 35) _ = _
             simp only [Act.put, List.setIfInBounds_toArray, List.set_cons_zero, List.set_cons_succ, i64_w, i32_w]
             rfl
            exact norm_ (by simp only [putAll, Act.put, List.setIfInBounds_toArray, List.set_cons_zero, List.set_cons_succ]) (hC256 (z35, z38, z13) _ n2_.out)
           ·skip
            refine box_step (by rfl) (N := 14) rfl (cs := #[.slice none 0 0]) (t := 25) ?_ ?_
            ·first | (go_simp; done) | (go_simp; rfl)
            intro z14 hgz wz hbox hb
            have n1_ := LA.allocT (stay_own _ _ _ _ _ (stay_andT (stay_sx _ _) _ _ _)) HZ.out hb hgz hbox
            have n2_ := Aside0.mk (n1_.weaken (fun w ok h => under_own (box_own (stay_andT (stay_sx _ _) _ _ _) h) (fun w ok h => box_box (stay_sx _ _) h)))
            refine hK.out _ _ (lx_cell (u := .int .i64 (n : Int)) (v := .slice A0 l0.length c0) (g := g4) (has_own (has_box (has_box HC4.out))) n2_.out) (fun hHeld2 => ?_)
            clear hK K
            refine norm_ (a' := ?_) ?_ ?_
            rotate_left
            ·show Act.put _ (some 14) _ = _
             simp only [Act.put, List.setIfInBounds_toArray, List.set_cons_zero, List.set_cons_succ, i64_w, i32_w]
             rfl
            exact norm_ (by simp only [putAll, Act.put, List.setIfInBounds_toArray, List.set_cons_zero, List.set_cons_succ]) (hC567 (z38, z13, z14) _ n2_.out)
          rintro ⟨z35, z14⟩ wy hq
          (try dsimp only at hq)
          have HZ := Aside0.mk hq
          clear hq
          have hHeld := (lx_cell (u := .int .i64 (n : Int)) (v := .slice A0 l0.length c0) (g := g4) (has_own (has_box HC4.out)) HZ.out)
          refine norm_ (a' := ?_) ?_ ?_
          rotate_left
          ·simp only [putAll, Act.put, List.setIfInBounds_toArray, List.set_cons_zero, List.set_cons_succ]
           rfl
          refine two_ (i := 5) (j := 6) (Ni := some 38) (Nj := some 13) #[true, true, true, true, true, true, false, true, false, false] #[true, true, true, true, true, false, true, true, false, false] rfl rfl rfl rfl (by kernel_rfl) (by decide) (by decide) (fun K hK => ?_) (fun K hK => ?_)
          ·skip
           refine Kd.R_make_step (Kd.int .i64) _ 3 (by rfl) (N := 38) rfl 25 _ _ rfl (n : Int) rfl rfl Try.underlying25 (.int .i64 0) 8 info3q rfl (by decide) (by omega) (0 : Int) (ok := fun _ => True) (okp := fun _ => True) rfl (fun _ hk => hk) trivial (Int.natCast_nonneg n) (by have := HN.out; omega) (Below.refl _ _) (Nat.le_refl _) ?_
           intro z38 wz ho hb hg_ hnew_
           rw [Int.toNat_natCast] at ho
           have n1_ := LA.made (stay_own _ _ _ _ _ (stay_andT (stay_sx _ _) _ _ _)) HZ.out hb (Kd.R_lower (Kd.R_mono (Kd.R_bound ho) (fun k hk => hk.2.1)) HZ.out.2.size)
           have n2_ := Aside0.mk (n1_.weaken (fun w ok h => own_own (stay_andT (stay_sx _ _) _ _ _) h))
           refine hK.out _ _ (lx_cell (u := .int .i64 (n : Int)) (v := .slice A0 l0.length c0) (g := g4) (has_own (has_own (has_box HC4.out))) n2_.out) (fun hHeld2 => ?_)
           clear hK K
           refine norm_ (a' := ?_) ?_ ?_
           rotate_left
           ·show Act.put _ (some 38) _ = _
            simp only [Act.put, List.setIfInBounds_toArray, List.set_cons_zero, List.set_cons_succ, i64_w, i32_w]
            rfl
           exact norm_ (by simp only [putAll, Act.put, List.setIfInBounds_toArray, List.set_cons_zero, List.set_cons_succ]) (hC257 (z35, z38, z14) _ n2_.out)
          ·skip
           refine box_step (by rfl) (N := 13) rfl (cs := #[.slice none 0 0]) (t := 25) ?_ ?_
           ·first | (go_simp; done) | (go_simp; rfl)
           intro z13 hgz wz hbox hb
           have n1_ := LA.allocT (stay_own _ _ _ _ _ (stay_andT (stay_sx _ _) _ _ _)) HZ.out hb hgz hbox
           have n2_ := Aside0.mk (n1_.weaken (fun w ok h => box_own (stay_andT (stay_sx _ _) _ _ _) h))
           refine hK.out _ _ (lx_cell (u := .int .i64 (n : Int)) (v := .slice A0 l0.length c0) (g := g4) (has_own (has_box (has_box HC4.out))) n2_.out) (fun hHeld2 => ?_)
           clear hK K
           refine norm_ (a' := ?_) ?_ ?_
           rotate_left
           ·show Act.put _ (some 13) _ = _
            simp only [Act.put, List.setIfInBounds_toArray, List.set_cons_zero, List.set_cons_succ, i64_w, i32_w]
            rfl
           exact norm_ (by simp only [putAll, Act.put, List.setIfInBounds_toArray, List.set_cons_zero, List.set_cons_succ]) (hC267 (z35, z13, z14) _ n2_.out)
         rintro ⟨z35, z13⟩ wy hq
         (try dsimp only at hq)
         have HZ := Aside0.mk hq
         clear hq
         have hHeld := (lx_cell (u := .int .i64 (n : Int)) (v := .slice A0 l0.length c0) (g := g4) (has_own (has_box HC4.out)) HZ.out)
         refine norm_ (a' := ?_) ?_ ?_
         rotate_left
         ·simp only [putAll, Act.put, List.setIfInBounds_toArray, List.set_cons_zero, List.set_cons_succ]
          rfl
         refine two_ (i := 5) (j := 7) (Ni := some 38) (Nj := some 14) #[true, true, true, true, true, true, true, false, false, false] #[true, true, true, true, true, false, true, true, false, false] rfl rfl rfl rfl (by kernel_rfl) (by decide) (by decide) (fun K hK => ?_) (fun K hK => ?_)
         ·skip
          refine Kd.R_make_step (Kd.int .i64) _ 3 (by rfl) (N := 38) rfl 25 _ _ rfl (n : Int) rfl rfl Try.underlying25 (.int .i64 0) 8 info3q rfl (by decide) (by omega) (0 : Int) (ok := fun _ => True) (okp := fun _ => True) rfl (fun _ hk => hk) trivial (Int.natCast_nonneg n) (by have := HN.out; omega) (Below.refl _ _) (Nat.le_refl _) ?_
          intro z38 wz ho hb hg_ hnew_
          rw [Int.toNat_natCast] at ho
          have n1_ := LA.made (stay_own _ _ _ _ _ (stay_andT (stay_sx _ _) _ _ _)) HZ.out hb (Kd.R_lower (Kd.R_mono (Kd.R_bound ho) (fun k hk => hk.2.1)) HZ.out.2.size)
          have n2_ := Aside0.mk (n1_.weaken (fun w ok h => own_own (stay_andT (stay_sx _ _) _ _ _) h))
          refine hK.out _ _ (lx_cell (u := .int .i64 (n : Int)) (v := .slice A0 l0.length c0) (g := g4) (has_own (has_own (has_box HC4.out))) n2_.out) (fun hHeld2 => ?_)
          clear hK K
          refine norm_ (a' := ?_) ?_ ?_
          rotate_left
          ·show Act.put _ (some 38) _ = _
           simp only [Act.put, List.setIfInBounds_toArray, List.set_cons_zero, List.set_cons_succ, i64_w, i32_w]
           rfl
          exact norm_ (by simp only [putAll, Act.put, List.setIfInBounds_toArray, List.set_cons_zero, List.set_cons_succ]) (hC256 (z35, z38, z13) _ n2_.out)
         ·skip
          refine box_step (by rfl) (N := 14) rfl (cs := #[.slice none 0 0]) (t := 25) ?_ ?_
          ·first | (go_simp; done) | (go_simp; rfl)
          intro z14 hgz wz hbox hb
          have n1_ := LA.allocT (stay_own _ _ _ _ _ (stay_andT (stay_sx _ _) _ _ _)) HZ.out hb hgz hbox
          have n2_ := Aside0.mk (n1_.weaken (fun w ok h => under_own (box_own (stay_andT (stay_sx _ _) _ _ _) h) (fun w ok h => box_box (stay_sx _ _) h)))
          refine hK.out _ _ (lx_cell (u := .int .i64 (n : Int)) (v := .slice A0 l0.length c0) (g := g4) (has_own (has_box (has_box HC4.out))) n2_.out) (fun hHeld2 => ?_)
          clear hK K
          refine norm_ (a' := ?_) ?_ ?_
          rotate_left
          ·show Act.put _ (some 14) _ = _
           simp only [Act.put, List.setIfInBounds_toArray, List.set_cons_zero, List.set_cons_succ, i64_w, i32_w]
           rfl
          exact norm_ (by simp only [putAll, Act.put, List.setIfInBounds_toArray, List.set_cons_zero, List.set_cons_succ]) (hC267 (z35, z13, z14) _ n2_.out)
        rintro ⟨z35, z38⟩ wy hq
        (try dsimp only at hq)
        have HZ := Aside0.mk hq
        clear hq
        have hHeld := (lx_cell (u := .int .i64 (n : Int)) (v := .slice A0 l0.length c0) (g := g4) (has_own (has_own HC4.out)) HZ.out)
        refine norm_ (a' := ?_) ?_ ?_
        rotate_left
        ·simp only [putAll, Act.put, List.setIfInBounds_toArray, List.set_cons_zero, List.set_cons_succ]
         rfl
        refine two_ (i := 6) (j := 7) (Ni := some 13) (Nj := some 14) #[true, true, true, true, true, true, true, false, false, false] #[true, true, true, true, true, true, false, true, false, false] rfl rfl rfl rfl (by kernel_rfl) (by decide) (by decide) (fun K hK => ?_) (fun K hK => ?_)
        ·skip
         refine box_step (by rfl) (N := 13) rfl (cs := #[.slice none 0 0]) (t := 25) ?_ ?_
         ·first | (go_simp; done) | (go_simp; rfl)
         intro z13 hgz wz hbox hb
         have n1_ := LA.allocT (stay_own _ _ _ _ _ (stay_own _ _ _ _ _ (stay_sx _ _))) HZ.out hb hgz hbox
         have n2_ := Aside0.mk (n1_.weaken (fun w ok h => under_own (box_own (stay_own _ _ _ _ _ (stay_sx _ _)) h) (fun w ok h => box_own (stay_sx _ _) h)))
         refine hK.out _ _ (lx_cell (u := .int .i64 (n : Int)) (v := .slice A0 l0.length c0) (g := g4) (has_own (has_own (has_box HC4.out))) n2_.out) (fun hHeld2 => ?_)
         clear hK K
         refine norm_ (a' := ?_) ?_ ?_
         rotate_left
         ·show Act.put _ (some 13) _ = _
          simp only [Act.put, List.setIfInBounds_toArray, List.set_cons_zero, List.set_cons_succ, i64_w, i32_w]
          rfl
         exact norm_ (by simp only [putAll, Act.put, List.setIfInBounds_toArray, List.set_cons_zero, List.set_cons_succ]) (hC256 (z35, z38, z13) _ n2_.out)
        ·skip
         refine box_step (by rfl) (N := 14) rfl (cs := #[.slice none 0 0]) (t := 25) ?_ ?_
         ·first | (go_simp; done) | (go_simp; rfl)
         intro z14 hgz wz hbox hb
         have n1_ := LA.allocT (stay_own _ _ _ _ _ (stay_own _ _ _ _ _ (stay_sx _ _))) HZ.out hb hgz hbox
         have n2_ := Aside0.mk (n1_.weaken (fun w ok h => under_own (box_own (stay_own _ _ _ _ _ (stay_sx _ _)) h) (fun w ok h => box_own (stay_sx _ _) h)))
         refine hK.out _ _ (lx_cell (u := .int .i64 (n : Int)) (v := .slice A0 l0.length c0) (g := g4) (has_own (has_own (has_box HC4.out))) n2_.out) (fun hHeld2 => ?_)
         clear hK K
         refine norm_ (a' := ?_) ?_ ?_
         rotate_left
         ·show Act.put _ (some 14) _ = _
          simp only [Act.put, List.setIfInBounds_toArray, List.set_cons_zero, List.set_cons_succ, i64_w, i32_w]
          rfl
         exact norm_ (by simp only [putAll, Act.put, List.setIfInBounds_toArray, List.set_cons_zero, List.set_cons_succ]) (hC257 (z35, z38, z14) _ n2_.out)
       rintro ⟨z38, z13, z14⟩ wy hq
       (try dsimp only at hq)
       have HZ := Aside0.mk hq
       clear hq
       have hHeld := (lx_cell (u := .int .i64 (n : Int)) (v := .slice A0 l0.length c0) (g := g4) (has_own (has_box (has_box HC4.out))) HZ.out)
       refine norm_ (a' := ?_) ?_ ?_
       rotate_left
       ·simp only [putAll, Act.put, List.setIfInBounds_toArray, List.set_cons_zero, List.set_cons_succ]
        rfl
       refine one_ (i := 2) (N := some 35) #[true, true, true, true, true, true, true, true, false, false] rfl rfl (by kernel_rfl) (by decide) (fun K hK => ?_)
       refine Kd.R_make_step (Kd.int .i64) _ 3 (by rfl) (N := 35) rfl 25 _ _ rfl (n : Int) rfl rfl Try.underlying25 (.int .i64 0) 8 info3q rfl (by decide) (by omega) (0 : Int) (ok := fun _ => True) (okp := fun _ => True) rfl (fun _ hk => hk) trivial (Int.natCast_nonneg n) (by have := HN.out; omega) (Below.refl _ _) (Nat.le_refl _) ?_
       intro z35 wz ho hb hg_ hnew_
       rw [Int.toNat_natCast] at ho
       have n1_ := LA.made (stay_own _ _ _ _ _ (stay_andT (stay_andT (stay_sx _ _) _ _ _) _ _ _)) HZ.out hb (Kd.R_lower (Kd.R_mono (Kd.R_bound ho) (fun k hk => hk.2.1)) HZ.out.2.size)
       have n2_ := Aside0.mk (n1_)
       refine hK.out _ _ (lx_cell (u := .int .i64 (n : Int)) (v := .slice A0 l0.length c0) (g := g4) (has_own (has_own (has_box (has_box HC4.out)))) n2_.out) (fun hHeld2 => ?_)
       clear hK K
       refine norm_ (a' := ?_) ?_ ?_
       rotate_left
       ·show Act.put _ (some 35) _ = _
        simp only [Act.put, List.setIfInBounds_toArray, List.set_cons_zero, List.set_cons_succ, i64_w, i32_w]
        rfl
       exact norm_ (by simp only [putAll, Act.put, List.setIfInBounds_toArray, List.set_cons_zero, List.set_cons_succ]) (hC2567 (z35, z38, z13, z14) _ n2_.out)
      rintro ⟨z35, z13, z14⟩ wy hq
      (try dsimp only at hq)
      have HZ := Aside0.mk hq
      clear hq
      have hHeld := (lx_cell (u := .int .i64 (n : Int)) (v := .slice A0 l0.length c0) (g := g4) (has_own (has_box (has_box HC4.out))) HZ.out)
      refine norm_ (a' := ?_) ?_ ?_
      rotate_left
      ·simp only [putAll, Act.put, List.setIfInBounds_toArray, List.set_cons_zero, List.set_cons_succ]
       rfl
      refine two_ (i := 5) (j := 8) (Ni := some 38) (Nj := none) #[true, true, true, true, true, true, true, true, false, false] #[true, true, true, true, true, false, true, true, true, false] rfl rfl rfl rfl (by kernel_rfl) (by decide) (by decide) (fun K hK => ?_) (fun K hK => ?_)
      ·skip
       refine Kd.R_make_step (Kd.int .i64) _ 3 (by rfl) (N := 38) rfl 25 _ _ rfl (n : Int) rfl rfl Try.underlying25 (.int .i64 0) 8 info3q rfl (by decide) (by omega) (0 : Int) (ok := fun _ => True) (okp := fun _ => True) rfl (fun _ hk => hk) trivial (Int.natCast_nonneg n) (by have := HN.out; omega) (Below.refl _ _) (Nat.le_refl _) ?_
       intro z38 wz ho hb hg_ hnew_
       rw [Int.toNat_natCast] at ho
       have n1_ := LA.made (stay_own _ _ _ _ _ (stay_andT (stay_andT (stay_sx _ _) _ _ _) _ _ _)) HZ.out hb (Kd.R_lower (Kd.R_mono (Kd.R_bound ho) (fun k hk => hk.2.1)) HZ.out.2.size)
       have n2_ := Aside0.mk (n1_.weaken (fun w ok h => own_own (stay_andT (stay_andT (stay_sx _ _) _ _ _) _ _ _) h))
       refine hK.out _ _ (lx_cell (u := .int .i64 (n : Int)) (v := .slice A0 l0.length c0) (g := g4) (has_own (has_own (has_box (has_box HC4.out)))) n2_.out) (fun hHeld2 => ?_)
       clear hK K
       refine norm_ (a' := ?_) ?_ ?_
       rotate_left
       ·show Act.put _ (some 38) _ = _
        simp only [Act.put, List.setIfInBounds_toArray, List.set_cons_zero, List.set_cons_succ, i64_w, i32_w]
        rfl
       exact norm_ (by simp only [putAll, Act.put, List.setIfInBounds_toArray, List.set_cons_zero, List.set_cons_succ]) (hC2567 (z35, z38, z13, z14) _ n2_.out)
      ·skip
       have y0 := LA.cellB (hasB_own hasB_here) HZ.out
       have y1 := LA.frozenB (hasB_own hasB_here) HZ.out
       refine skip_ (w1 := wy.setCell ⟨z13, 0, none⟩ z35) (by rfl) rfl ?_ ?_
       ·exact exec_store rfl rfl rfl (store_sl (LA.isSl HZ.out) y0 y1)
       have n2_ := Aside0.mk (LA.setB (u := z35) (setB_own (setB_here (stay_andT (stay_sx _ _) _ _ _))) HZ.out)
       clear y0 y1
       refine hK.out _ _ (lx_cell (u := .int .i64 (n : Int)) (v := .slice A0 l0.length c0) (g := g4) (has_own (has_box (has_box HC4.out))) n2_.out) (fun hHeld2 => ?_)
       clear hK K
       exact norm_ (by simp only [putAll, Act.put, List.setIfInBounds_toArray, List.set_cons_zero, List.set_cons_succ]) (hC2678 (z35, z13, z14) _ n2_.out)
     rintro ⟨z35, z38, z14⟩ wy hq
     (try dsimp only at hq)
     have HZ := Aside0.mk hq
     clear hq
     have hHeld := (lx_cell (u := .int .i64 (n : Int)) (v := .slice A0 l0.length c0) (g := g4) (has_own (has_own (has_box HC4.out))) HZ.out)
     refine norm_ (a' := ?_) ?_ ?_
     rotate_left
     ·simp only [putAll, Act.put, List.setIfInBounds_toArray, List.set_cons_zero, List.set_cons_succ]
      rfl
     refine one_ (i := 6) (N := some 13) #[true, true, true, true, true, true, true, true, false, false] rfl rfl (by kernel_rfl) (by decide) (fun K hK => ?_)
     refine box_step (by rfl) (N := 13) rfl (cs := #[.slice none 0 0]) (t := 25) ?_ ?_
     ·first | (go_simp; done) | (go_simp; rfl)
     intro z13 hgz wz hbox hb
     have n1_ := LA.allocT (stay_own _ _ _ _ _ (stay_own _ _ _ _ _ (stay_andT (stay_sx _ _) _ _ _))) HZ.out hb hgz hbox
     have n2_ := Aside0.mk (n1_.weaken (fun w ok h => under_own (box_own (stay_own _ _ _ _ _ (stay_andT (stay_sx _ _) _ _ _)) h) (fun w ok h => box_own (stay_andT (stay_sx _ _) _ _ _) h)))
     refine hK.out _ _ (lx_cell (u := .int .i64 (n : Int)) (v := .slice A0 l0.length c0) (g := g4) (has_own (has_own (has_box (has_box HC4.out)))) n2_.out) (fun hHeld2 => ?_)
     clear hK K
     refine norm_ (a' := ?_) ?_ ?_
     rotate_left
     ·show Act.put _ (some 13) _ = _
      simp only [Act.put, List.setIfInBounds_toArray, List.set_cons_zero, List.set_cons_succ, i64_w, i32_w]
      rfl
     exact norm_ (by simp only [putAll, Act.put, List.setIfInBounds_toArray, List.set_cons_zero, List.set_cons_succ]) (hC2567 (z35, z38, z13, z14) _ n2_.out)
    rintro ⟨z35, z38, z13⟩ wy hq
    (try dsimp only at hq)
    have HZ := Aside0.mk hq
    clear hq
    have hHeld := (lx_cell (u := .int .i64 (n : Int)) (v := .slice A0 l0.length c0) (g := g4) (has_own (has_own (has_box HC4.out))) HZ.out)
    refine norm_ (a' := ?_) ?_ ?_
    rotate_left
    ·simp only [putAll, Act.put, List.setIfInBounds_toArray, List.set_cons_zero, List.set_cons_succ]
     rfl
    refine one_ (i := 7) (N := some 14) #[true, true, true, true, true, true, true, true, false, false] rfl rfl (by kernel_rfl) (by decide) (fun K hK => ?_)
    refine box_step (by rfl) (N := 14) rfl (cs := #[.slice none 0 0]) (t := 25) ?_ ?_
    ·first | (go_simp; done) | (go_simp; rfl)
    intro z14 hgz wz hbox hb
    have n1_ := LA.allocT (stay_own _ _ _ _ _ (stay_own _ _ _ _ _ (stay_andT (stay_sx _ _) _ _ _))) HZ.out hb hgz hbox
    have n2_ := Aside0.mk (n1_.weaken (fun w ok h => under_own (box_own (stay_own _ _ _ _ _ (stay_andT (stay_sx _ _) _ _ _)) h) (fun w ok h => under_own (box_own (stay_andT (stay_sx _ _) _ _ _) h) (fun w ok h => box_box (stay_sx _ _) h))))
    refine hK.out _ _ (lx_cell (u := .int .i64 (n : Int)) (v := .slice A0 l0.length c0) (g := g4) (has_own (has_own (has_box (has_box HC4.out)))) n2_.out) (fun hHeld2 => ?_)
    clear hK K
    refine norm_ (a' := ?_) ?_ ?_
    rotate_left
    ·show Act.put _ (some 14) _ = _
     simp only [Act.put, List.setIfInBounds_toArray, List.set_cons_zero, List.set_cons_succ, i64_w, i32_w]
     rfl
    exact norm_ (by simp only [putAll, Act.put, List.setIfInBounds_toArray, List.set_cons_zero, List.set_cons_succ]) (hC2567 (z35, z38, z13, z14) _ n2_.out)
   rintro ⟨z35, z13, z14⟩ wy hq
   (try dsimp only at hq)
   have HZ := Aside0.mk hq
   clear hq
   have hHeld := (lx_cell (u := .int .i64 (n : Int)) (v := .slice A0 l0.length c0) (g := g4) (has_own (has_box (has_box HC4.out))) HZ.out)
   refine norm_ (a' := ?_) ?_ ?_
   rotate_left
   ·simp only [putAll, Act.put, List.setIfInBounds_toArray, List.set_cons_zero, List.set_cons_succ]
    rfl
   refine one_ (i := 5) (N := some 38) #[true, true, true, true, true, true, true, true, true, false] rfl rfl (by kernel_rfl) (by decide) (fun K hK => ?_)
   refine Kd.R_make_step (Kd.int .i64) _ 3 (by rfl) (N := 38) rfl 25 _ _ rfl (n : Int) rfl rfl Try.underlying25 (.int .i64 0) 8 info3q rfl (by decide) (by omega) (0 : Int) (ok := fun _ => True) (okp := fun _ => True) rfl (fun _ hk => hk) trivial (Int.natCast_nonneg n) (by have := HN.out; omega) (Below.refl _ _) (Nat.le_refl _) ?_
   intro z38 wz ho hb hg_ hnew_
   rw [Int.toNat_natCast] at ho
   have n1_ := LA.made (stay_own _ _ _ _ _ (stay_andT (stay_andT (stay_sx _ _) _ _ _) _ _ _)) HZ.out hb (Kd.R_lower (Kd.R_mono (Kd.R_bound ho) (fun k hk => hk.2.1)) HZ.out.2.size)
   have n2_ := Aside0.mk (n1_.weaken (fun w ok h => own_own (stay_andT (stay_andT (stay_sx _ _) _ _ _) _ _ _) h))
   refine hK.out _ _ (lx_cell (u := .int .i64 (n : Int)) (v := .slice A0 l0.length c0) (g := g4) (has_own (has_own (has_box (has_box HC4.out)))) n2_.out) (fun hHeld2 => ?_)
   clear hK K
   refine norm_ (a' := ?_) ?_ ?_
   rotate_left
   ·show Act.put _ (some 38) _ = _
    simp only [Act.put, List.setIfInBounds_toArray, List.set_cons_zero, List.set_cons_succ, i64_w, i32_w]
    rfl
   exact norm_ (by simp only [putAll, Act.put, List.setIfInBounds_toArray, List.set_cons_zero, List.set_cons_succ]) (hC25678 (z35, z38, z13, z14) _ n2_.out)
  rintro ⟨z35, z38, z13, z14⟩ wy hq
  (try dsimp only at hq)
  have HZ := Aside0.mk hq
  clear hq
  have hHeld := (lx_cell (u := .int .i64 (n : Int)) (v := .slice A0 l0.length c0) (g := g4) (has_own (has_own (has_box (has_box HC4.out)))) HZ.out)
  refine norm_ (a' := ?_) ?_ ?_
  rotate_left
  ·simp only [putAll, Act.put, List.setIfInBounds_toArray, List.set_cons_zero, List.set_cons_succ]
   rfl
  refine one_ (i := 8) (N := none) #[true, true, true, true, true, true, true, true, true, false] rfl rfl (by kernel_rfl) (by decide) (fun K hK => ?_)
  have y0 := LA.cellB (hasB_own (hasB_own hasB_here)) HZ.out
  have y1 := LA.frozenB (hasB_own (hasB_own hasB_here)) HZ.out
  refine skip_ (w1 := wy.setCell ⟨z13, 0, none⟩ z35) (by rfl) rfl ?_ ?_
  ·exact exec_store rfl rfl rfl (store_sl (LA.isSl HZ.out) y0 y1)
  have n2_ := Aside0.mk (LA.setB (u := z35) (setB_own (setB_own (setB_here (stay_andT (stay_sx _ _) _ _ _)))) HZ.out)
  clear y0 y1
  refine hK.out _ _ (lx_cell (u := .int .i64 (n : Int)) (v := .slice A0 l0.length c0) (g := g4) (has_own (has_own (has_box (has_box HC4.out)))) n2_.out) (fun hHeld2 => ?_)
  clear hK K
  exact norm_ (by simp only [putAll, Act.put, List.setIfInBounds_toArray, List.set_cons_zero, List.set_cons_succ]) (hC25678 (z35, z38, z13, z14) _ n2_.out)
 rintro ⟨z35, z38, z13, z14⟩ wy hq
 (try dsimp only at hq)
 have HZ := Aside0.mk hq
 clear hq
 have hHeld := (lx_cell (u := .int .i64 (n : Int)) (v := .slice A0 l0.length c0) (g := g4) (has_own (has_own (has_box (has_box HC4.out)))) HZ.out)
 refine norm_ (a' := ?_) ?_ ?_
 rotate_left
 ·simp only [putAll, Act.put, List.setIfInBounds_toArray, List.set_cons_zero, List.set_cons_succ]
  rfl
 refine one_ (i := 9) (N := none) #[true, true, true, true, true, true, true, true, true, true] rfl rfl (by kernel_rfl) (by decide) (fun K hK => ?_)
 have y0 := LA.cellB (hasB_own (hasB_own (hasB_box hasB_here))) HZ.out
 have y1 := LA.frozenB (hasB_own (hasB_own (hasB_box hasB_here))) HZ.out
 refine skip_ (w1 := wy.setCell ⟨z14, 0, none⟩ z38) (by rfl) rfl ?_ ?_
 ·exact exec_store rfl rfl rfl (store_sl (LA.isSl2 HZ.out) y0 y1)
 have n2_ := Aside0.mk (LA.setB (u := z38) (setB_own (setB_own (setB_box (setB_here (stay_sx _ _))))) HZ.out)
 clear y0 y1
 refine hK.out _ _ (lx_cell (u := .int .i64 (n : Int)) (v := .slice A0 l0.length c0) (g := g4) (has_own (has_own (has_box (has_box HC4.out)))) n2_.out) (fun hHeld2 => ?_)
 clear hK K
 refine done_ (by kernel_rfl) ?_
 have hs_ := HS.out
 obtain ⟨gd, cd, e1⟩ := LA.form n2_.out (by rw [List.length_replicate]; omega)
 obtain ⟨gv, cv, e2⟩ := LA.form2 n2_.out (by rw [List.length_replicate]; omega)
 simp only [List.length_replicate] at e1 e2
 subst e1
 subst e2
 clear HZ hHeld hHeld2 hs_ H0
 generalize (wy.setCell ⟨z14, 0, none⟩ (.slice (some ⟨gv, 0, none⟩) n cv)) = w5 at n2_ ⊢
 have HR0 : Aside0 (LA (RR w.heap.size gd cd gv cv n (fillTo n 0 1152921504606846976) (fillTo n 0 (-1)) z13 z14 (SX w.heap.size w2.heap)) w w5) := n2_
 clear n2_
 have b1 := HR0.out.rrf.b1
 go_wp2
 go_loopg [41] n (fun g vi wr => ∃ i : Nat, vi = .int .i64 (i : Int) ∧ i + g = n ∧ LA (RR w.heap.size gd cd gv cv n (fillTo n i 1152921504606846976) (fillTo n i (-1)) z13 z14 (SX w.heap.size w2.heap)) w wr)
 case atStart => exact ⟨0, rfl, by omega, HR0.out⟩
 case round =>
  clear HR0 b1
  obtain ⟨i, rfl, hig, hq⟩ := hrel
  have HQ := Aside0.mk hq
  clear hq
  by_cases hi : i < n
  ·have hib : decide ((i : Int) < (n : Int)) = true := decide_eq_true (by omega)
   have hi0 : (0 : Int) ≤ (i : Int) := Int.natCast_nonneg _
   have hi1 : (i : Int) < (n : Int) := by omega
   have f := HQ.out.rrf
   have b1 := f.b1
   have b2 := f.b2
   obtain ⟨n1, n2, n3, n4, n5⟩ := f.ne
   obtain ⟨r0, fz0⟩ := f.rd_ i hi0 hi1
   obtain ⟨r1, fz1⟩ := f.rv_ i hi0 hi1
   have H2 := Aside0.mk (LA.setd (stay_own _ _ _ _ _ (stay_andT (stay_andT (stay_sx _ _) _ _ _) _ _ _)) HQ.out (i : Int) 1152921504606846976)
   have H3 := Aside0.mk (H2.out.weaken (fun w ok h => own_own (stay_andT (stay_andT (stay_sx _ _) _ _ _) _ _ _) h))
   have H4 := Aside0.mk (LA.setd (stay_own _ _ _ _ _ (stay_andT (stay_andT (stay_sx _ _) _ _ _) _ _ _)) H3.out (i : Int) (-1))
   have H5 := Aside0.mk (H4.out.weaken (fun w ok h => own_own (stay_andT (stay_andT (stay_sx _ _) _ _ _) _ _ _) h))
   have f2 := (show LA (RR w.heap.size gd cd gv cv n _ _ z13 z14 (SX w.heap.size w2.heap)) w _ from H2.out).rrf
   obtain ⟨t1, fz2⟩ := f2.rv_ i hi0 hi1
   clear f f2 H2 H3 H4
   simp only [Int.toNat_natCast, fillTo_set hi] at r0 fz0 r1 fz1 t1 fz2 H5
   go_wp2
   go_region
   generalize hW1 : ((wr.setCell ⟨gd, i, none⟩ (.int .i64 1152921504606846976)).setCell ⟨gv, i, none⟩ (.int .i64 (-1))).drew = W1
   have H6 := Aside0.mk (show LA (RR w.heap.size gd cd gv cv n (fillTo n (i + 1) 1152921504606846976) (fillTo n (i + 1) (-1)) z13 z14 (SX w.heap.size w2.heap)) w W1 from by rw [← hW1]; exact LA.step_below (stay_rr (stay_sx _ _)) H5.out (below_drew1 (Below.refl _ _)))
   clear hW1 H5 HQ b1 b2 r0 fz0 r1 fz1 t1 fz2 n1 n2 n3 n4 n5
   go_wp2
   go_roundg (n - (i + 1))
   case measure => omega
   case rel => exact ⟨i + 1, by have := HN.out; congr 1; unfold wrap64; omega, by omega, H6.out⟩
  ·have hib : decide ((i : Int) < (n : Int)) = false := decide_eq_false (by omega)
   have HQ2 : Aside0 (LA (RR w.heap.size gd cd gv cv n (List.replicate n 1152921504606846976) (List.replicate n (-1)) z13 z14 (SX w.heap.size w2.heap)) w wr) := Aside0.mk (by have h := HQ.out; rw [show i = n by omega, fillTo_all, fillTo_all] at h; exact h)
   clear HQ hig
   have hc4 := lx_cell (u := .int .i64 (n : Int)) (v := .slice A0 l0.length c0) (g := g4) (has_own (has_own (has_box (has_box HC4.out)))) HQ2.out
   have HNew := Aside0.mk (show pq_New.f (n : Int) = some (List.replicate n none) from by unfold pq_New.f; rw [if_pos ⟨Int.natCast_nonneg n, by have := HN.out; omega⟩, Int.toNat_natCast])
   go_wp2_with (first
    | (go_at_call 30; refine (LQ_New HQ2.out.2 (n : Int) _ HNew.out).mono ?_; rintro e w7 ⟨p, rfl, hq, hb, hb2⟩; have HQ3 := Aside0.mk (LA.toLQ (stay_rr (stay_sx _ _)) HQ2.out hq hb); clear hc4 hq hb hb2 HQ2)
    | (go_at_call 31; go_loud (have HQ4 := Aside0.mk (LQ.toRX (stay_sx _ _) (LQ.allocT (g := w7.heap.size) (u := .pointer (some ⟨p, 0, none⟩)) (e := 66) (stay_rr (stay_sx _ _)) HQ3.out (below_alloc (Below.refl w7.heap.size w7) (.cells #[.pointer (some ⟨p, 0, none⟩)] 66 (0, 0))) rfl (blk_new w7 (.cells #[.pointer (some ⟨p, 0, none⟩)] 66 (0, 0))))); refine (relax_calls (stay_sx _ _) HQ4.out s 0 (-1) HS.out.1 HS.out.2 (by simp)).mono ?_; rintro e w8 ⟨rfl, hq⟩; have HQ5 := Aside0.mk hq; clear hq HQ4 HQ3)))
   go_loopg [] k (fun g wr => ∃ st : DS, runP n l0 x false g st = some r ∧ DInv n st ∧ LQ (RX w.heap.size gd cd gv cv n st.d st.v z13 z14 w7.heap.size (.pointer (some ⟨p, 0, none⟩)) (SX w.heap.size w2.heap)) w wr (.pointer (some ⟨p, 0, none⟩)) st.m)
   case atStart => exact ⟨startP n s, HF.out, DInv.start n s, HQ5.out⟩
   case round =>
    clear HQ5 HF
    obtain ⟨st, hrun, hinv, hq⟩ := hrel
    have HQ := Aside0.mk hq
    have HI := Aside0.mk hinv
    clear hq hinv
    have b3 := HQ.out.rxf.b3
    generalize w7.heap.size = z16 at *
    by_cases hc : 0 < cnt st.m
    ·have hcb : decide ((0 : Int) < (cnt st.m : Int)) = true := decide_eq_true (by omega)
     obtain ⟨k1, hk1, hrun⟩ : ∃ k1, gk = k1 + 1 ∧ runP n l0 x false k1 (roundP n l0 x false st) = some r := by
      cases gk with
      | zero => simp [runP] at hrun
      | succ k1 =>
       rw [runP, if_pos hc] at hrun
       exact ⟨k1, rfl, hrun⟩
     have HRun := Aside0.mk hrun
     clear hrun
     obtain ⟨hp1, hp2, hp3⟩ := pop_best hc
     have hrow0 : roundP n l0 x false st = (rd_L4 (outAt n l0 l0.length) (bestFrom st.m 0 (-1) 0).1).foldl (arcP l0 x false (bestFrom st.m 0 (-1) 0).2) ⟨st.d, st.v, st.m.set (bestFrom st.m 0 (-1) 0).1.toNat none⟩ := rfl
     generalize (bestFrom st.m 0 (-1) 0).1 = pv at hp1 hp2 hp3 hrow0
     generalize (bestFrom st.m 0 (-1) 0).2 = pc at hp1 hrow0
     have hp3' : pv < (n : Int) := by have := HI.out.m; omega
     obtain ⟨hgl1, hgl2, A, c, okr, hrow, hcell⟩ := list_at HL.out pv hp2 hp3'
     obtain ⟨hok, hfew⟩ : (∀ a ∈ rd_L4 (outAt n l0 l0.length) pv, 0 ≤ a ∧ a < l0.length) ∧ (rd_L4 (outAt n l0 l0.length) pv).length ≤ 4194304 := ⟨fun a ha => by have := (outAt_i HG.out _ (Nat.le_refl _)).ok pv hp2 hp3' a ha; omega, by have := (outAt_i HG.out _ (Nat.le_refl _)).few pv hp2 hp3'; have := gchk_arc HG.out; omega⟩
     generalize rd_L4 (outAt n l0 l0.length) pv = row at hrow hcell hrow0 hok hfew
     obtain ⟨F, hF0, hFS, hFL, hFI⟩ : ∃ F : Nat → DS, F 0 = ⟨st.d, st.v, st.m.set pv.toNat none⟩ ∧ (∀ j : Nat, j < row.length → F (j + 1) = arcP l0 x false pc (F j) (rd row (j : Int))) ∧ F row.length = roundP n l0 x false st ∧ ∀ j, DInv n (F j) := by
      refine ⟨fun j => (row.take j).foldl (arcP l0 x false pc) ⟨st.d, st.v, st.m.set pv.toNat none⟩, rfl, fun j hj => ?_, by rw [hrow0]; dsimp only; rw [List.take_length], fun j => DInv.arcs l0 x false pc _ ⟨HI.out.d, HI.out.v, by rw [List.length_set]; exact HI.out.m⟩⟩
      dsimp only
      rw [foldl_take _ _ _ _ hj]
      congr 1
      unfold rd
      rw [Int.toNat_natCast, List.getD_eq_getElem?_getD, List.getElem?_eq_getElem hj]
      rfl
     have HP := Aside0.mk hp1
     have HRow := Aside0.mk hrow
     have HCell := Aside0.mk hcell
     have HOk := Aside0.mk hok
     have HFew := Aside0.mk hfew
     have HF0 := Aside0.mk hF0
     have HFS := Aside0.mk hFS
     have HFL := Aside0.mk hFL
     have HFI := Aside0.mk hFI
     clear hp1 hrow hcell hok hfew hF0 hFS hFL hFI hrow0 hp3
     have HGl := Aside0.mk (And.intro hgl1 hgl2)
     clear hgl1 hgl2
     go_wp2_with (first
      | (go_at_call 33; refine (LQ_Len (stay_rx (stay_sx _ _)) HQ.out (cnt st.m : Int) rfl).mono ?_; rintro e w9 ⟨rfl, nn, rfl⟩; have HQ1 := Aside0.mk (LQ.drewN (stay_rx (stay_sx _ _)) HQ.out nn); clear HQ b3; have b3 := HQ1.out.rxf.b3)
      | (go_at_call 34; go_loud (refine (LQ_Pop (stay_rx (stay_sx _ _)) HQ1.out _ _ _ _ HP.out).mono ?_; rintro e w10 ⟨rfl, hq⟩; have HQ2 := Aside0.mk hq; clear hq HQ1 b3; have hd := (cell_same (a := ⟨gl, pv.toNat, none⟩) (HQ2.out.same gl (by have := HGl.out; have := W1.out; omega) HGl.out.2)).trans HCell.out)))
     go_loopg [72] row.length (fun g vi wq => ∃ j : Nat, vi = .int .i64 (j : Int) ∧ j + g = row.length ∧ LQ (RX w.heap.size gd cd gv cv n (F j).d (F j).v z13 z14 z16 (.pointer (some ⟨p, 0, none⟩)) (SX w.heap.size w2.heap)) w wq (.pointer (some ⟨p, 0, none⟩)) (F j).m)
     case atStart => exact ⟨0, rfl, by omega, by rw [HF0.out]; exact HQ2.out⟩
     case round =>
      clear HQ2 hd
      obtain ⟨j, rfl, hjg, hq⟩ := hrel
      have HQ := Aside0.mk hq
      clear hq
      by_cases hj : j < row.length
      ·have hjb : decide ((j : Int) < (row.length : Int)) = true := decide_eq_true (by omega)
       have hj0 : (0 : Int) ≤ (j : Int) := Int.natCast_nonneg _
       have hj1 : (j : Int) < (row.length : Int) := by omega
       obtain ⟨gr, eA, tr⟩ := row_later HRow.out (fun k h1 h2 => HQ.out.same k (by have := W1.out; omega) h2) j hj
       subst eA
       obtain ⟨ha0, ha1⟩ := HOk.out (rd row (j : Int)) (by unfold rd; rw [Int.toNat_natCast, List.getD_eq_getElem?_getD, List.getElem?_eq_getElem hj]; exact List.getElem_mem hj)
       have HFj := Aside0.mk (HFS.out j hj)
       generalize rd row (j : Int) = a at tr ha0 ha1 HFj
       have hax : a < (x.length : Int) := by have := HX.out; omega
       obtain ⟨adx, eX, tx⟩ := Kd.at_int (Kd.C_below HR1.out HQ.out.below) a ha0 hax
       subst eX
       by_cases hw : 0 ≤ rd x a
       ·have hwb : decide (0 ≤ rd x a) = true := decide_eq_true hw
        obtain ⟨ad, eA, ta0, ta1⟩ := at_T40 (Kd.C_below HR.out HQ.out.below) a ha0 ha1
        subst eA
        obtain ⟨hv0, hv1⟩ : 0 ≤ (rd_T40 l0 a).f1 ∧ (rd_T40 l0 a).f1 < n := by
         have := (gchk_arc HG.out).2.2.2 a.toNat (by omega)
         rw [Int.toNat_of_nonneg ha0] at this
         omega
        have HFj2 : Aside0 (F (j + 1) = relaxP (F j) (rd_T40 l0 a).f1 (wrap64 (pc + rd x a)) a) := Aside0.mk (by have h := HFj.out; unfold arcP farP at h; rw [if_pos hw] at h; exact h)
        clear HFj
        generalize (rd_T40 l0 a).f0 = fa at *
        generalize (rd_T40 l0 a).f1 = fb at *
        generalize rd x a = xa at *
        have hc4 := (blk_cell (HC4.out _ _ (show SX w.heap.size w2.heap wr (fun _ => True) from fun k h1 h2 => ⟨trivial, HQ.out.same k h1 h2⟩)) 1).trans (show _ = some (.slice (some ad) l0.length c0) from rfl)
        go_wp2
        have hb0 := below_drew1 (Below.refl wr.heap.size wr)
        refine start_ (n := 19) (S := fun w' => w'.cell? ⟨g4, 1, none⟩ = some (.slice (some ad) l0.length c0) ∧ w'.cell? (ad.add (a.toNat * 2)) = some (.int .i64 fa) ∧ w'.cell? ⟨(ad.add (a.toNat * 2)).block, (ad.add (a.toNat * 2)).off + 1, none⟩ = some (.int .i64 fb) ∧ w'.cell? (adx.add a.toNat) = some (.int .i64 xa)) (ds := [18]) #[false, false, false, false, false, false, false, false, false, false, false, false, false, false, false, false, false, false, false] (by kernel_rfl) rfl rfl ⟨pw_cell_below hb0 hc4, pw_cell_below hb0 ta0, pw_cell_below hb0 ta1, pw_cell_below hb0 tx⟩ (fun hHeld => ?_)
        have HQ3 := Aside0.mk (LQ.step_below (stay_rx (stay_sx _ _)) HQ.out hb0)
        clear hb0 hc4 ta0 ta1 tx tr HQ
        generalize wr.drew = wd at HQ3 hHeld ⊢
        refine pure_ (i := 0) (N := some 81) (v := ?_) (a' := ?_) #[true, false, false, false, false, false, false, false, false, false, false, false, false, false, false, false, false, false, false] rfl rfl (by kernel_rfl) (fun _ _ _ h => h) (Or.inl ⟨by rfl, ?_⟩) ?_ ?_
        rotate_left
        ·intro w'
         go_simp
         with_reducible rfl
        rotate_left
        ·simp only [Act.put, List.setIfInBounds_toArray, List.set_cons_zero, List.set_cons_succ, i64_w, i32_w]
         rfl
        refine pure_ (i := 1) (N := some 82) (v := ?_) (a' := ?_) #[true, true, false, false, false, false, false, false, false, false, false, false, false, false, false, false, false, false, false] rfl rfl (by kernel_rfl) (fun _ _ _ h => h) (Or.inl ⟨by rfl, ?_⟩) ?_ ?_
        rotate_left
        ·intro w'
         go_simp
         with_reducible rfl
        rotate_left
        ·simp only [Act.put, List.setIfInBounds_toArray, List.set_cons_zero, List.set_cons_succ, i64_w, i32_w]
         rfl
        refine pure_ (i := 2) (N := some 83) (v := ?_) (a' := ?_) #[true, true, true, false, false, false, false, false, false, false, false, false, false, false, false, false, false, false, false] rfl rfl (by kernel_rfl) (fun _ _ _ h => h) (Or.inl ⟨by rfl, ?_⟩) ?_ ?_
        rotate_left
        ·intro w'
         go_simp
         with_reducible rfl
        rotate_left
        ·simp only [Act.put, List.setIfInBounds_toArray, List.set_cons_zero, List.set_cons_succ, i64_w, i32_w]
         rfl
        refine take_ (i := 3) (N := some 84) (v := ?_) (a' := ?_) #[true, true, true, true, false, false, false, false, false, false, false, false, false, false, false, false, false, false, false] rfl rfl (by kernel_rfl) (fun _ _ _ h => h) (Or.inl ⟨by rfl, ?_⟩) hHeld ?_ ?_
        rotate_left
        ·rintro w' ⟨hS1, hS2, hS3, hS4⟩
         go_simp
         with_reducible rfl
        rotate_left
        ·simp only [Act.put, List.setIfInBounds_toArray, List.set_cons_zero, List.set_cons_succ, i64_w, i32_w]
         rfl
        refine pure_ (i := 4) (N := some 85) (v := ?_) (a' := ?_) #[true, true, true, true, true, false, false, false, false, false, false, false, false, false, false, false, false, false, false] rfl rfl (by kernel_rfl) (fun _ _ _ h => h) (Or.inl ⟨by rfl, ?_⟩) ?_ ?_
        rotate_left
        ·intro w'
         go_simp
         with_reducible rfl
        rotate_left
        ·simp only [Act.put, List.setIfInBounds_toArray, List.set_cons_zero, List.set_cons_succ, i64_w, i32_w]
         rfl
        refine pure_ (i := 5) (N := some 86) (v := ?_) (a' := ?_) #[true, true, true, true, true, true, false, false, false, false, false, false, false, false, false, false, false, false, false] rfl rfl (by kernel_rfl) (fun _ _ _ h => h) (Or.inl ⟨by rfl, ?_⟩) ?_ ?_
        rotate_left
        ·intro w'
         go_simp
         with_reducible rfl
        rotate_left
        ·simp only [Act.put, List.setIfInBounds_toArray, List.set_cons_zero, List.set_cons_succ, i64_w, i32_w]
         rfl
        refine take_ (i := 6) (N := some 87) (v := ?_) (a' := ?_) #[true, true, true, true, true, true, true, false, false, false, false, false, false, false, false, false, false, false, false] rfl rfl (by kernel_rfl) (fun _ _ _ h => h) (Or.inl ⟨by rfl, ?_⟩) hHeld ?_ ?_
        rotate_left
        ·rintro w' ⟨hS1, hS2, hS3, hS4⟩
         go_simp
         with_reducible rfl
        rotate_left
        ·simp only [Act.put, List.setIfInBounds_toArray, List.set_cons_zero, List.set_cons_succ, i64_w, i32_w]
         rfl
        refine pure_ (i := 7) (N := some 88) (v := ?_) (a' := ?_) #[true, true, true, true, true, true, true, true, false, false, false, false, false, false, false, false, false, false, false] rfl rfl (by kernel_rfl) (fun _ _ _ h => h) (Or.inl ⟨by rfl, ?_⟩) ?_ ?_
        rotate_left
        ·intro w'
         go_simp
         with_reducible rfl
        rotate_left
        ·simp only [Act.put, List.setIfInBounds_toArray, List.set_cons_zero, List.set_cons_succ, i64_w, i32_w]
         rfl
        refine pure_ (i := 8) (N := some 89) (v := ?_) (a' := ?_) #[true, true, true, true, true, true, true, true, true, false, false, false, false, false, false, false, false, false, false] rfl rfl (by kernel_rfl) (fun _ _ _ h => h) (Or.inl ⟨by rfl, ?_⟩) ?_ ?_
        rotate_left
        ·intro w'
         have na := na52 w'
         go_simp
         with_reducible rfl
        rotate_left
        ·simp only [Act.put, List.setIfInBounds_toArray, List.set_cons_zero, List.set_cons_succ, i64_w, i32_w]
         rfl
        refine pure_ (i := 9) (N := some 90) (v := ?_) (a' := ?_) #[true, true, true, true, true, true, true, true, true, true, false, false, false, false, false, false, false, false, false] rfl rfl (by kernel_rfl) (fun _ _ _ h => h) (Or.inl ⟨by rfl, ?_⟩) ?_ ?_
        rotate_left
        ·intro w'
         go_simp
         with_reducible rfl
        rotate_left
        ·simp only [Act.put, List.setIfInBounds_toArray, List.set_cons_zero, List.set_cons_succ, i64_w, i32_w]
         rfl
        refine pure_ (i := 11) (N := some 92) (v := ?_) (a' := ?_) #[true, true, true, true, true, true, true, true, true, true, false, true, false, false, false, false, false, false, false] rfl rfl (by kernel_rfl) (fun _ _ _ h => h) (Or.inl ⟨by rfl, ?_⟩) ?_ ?_
        rotate_left
        ·intro w'
         go_simp
         with_reducible rfl
        rotate_left
        ·simp only [Act.put, List.setIfInBounds_toArray, List.set_cons_zero, List.set_cons_succ, i64_w, i32_w]
         rfl
        refine pure_ (i := 12) (N := some 93) (v := ?_) (a' := ?_) #[true, true, true, true, true, true, true, true, true, true, false, true, true, false, false, false, false, false, false] rfl rfl (by kernel_rfl) (fun _ _ _ h => h) (Or.inl ⟨by rfl, ?_⟩) ?_ ?_
        rotate_left
        ·intro w'
         go_simp
         with_reducible rfl
        rotate_left
        ·simp only [Act.put, List.setIfInBounds_toArray, List.set_cons_zero, List.set_cons_succ, i64_w, i32_w]
         rfl
        refine pure_ (i := 13) (N := some 94) (v := ?_) (a' := ?_) #[true, true, true, true, true, true, true, true, true, true, false, true, true, true, false, false, false, false, false] rfl rfl (by kernel_rfl) (fun _ _ _ h => h) (Or.inl ⟨by rfl, ?_⟩) ?_ ?_
        rotate_left
        ·intro w'
         go_simp
         with_reducible rfl
        rotate_left
        ·simp only [Act.put, List.setIfInBounds_toArray, List.set_cons_zero, List.set_cons_succ, i64_w, i32_w]
         rfl
        refine pure_ (i := 14) (N := some 95) (v := ?_) (a' := ?_) #[true, true, true, true, true, true, true, true, true, true, false, true, true, true, true, false, false, false, false] rfl rfl (by kernel_rfl) (fun _ _ _ h => h) (Or.inl ⟨by rfl, ?_⟩) ?_ ?_
        rotate_left
        ·intro w'
         go_simp
         with_reducible rfl
        rotate_left
        ·simp only [Act.put, List.setIfInBounds_toArray, List.set_cons_zero, List.set_cons_succ, i64_w, i32_w]
         rfl
        refine take_ (i := 15) (N := some 96) (v := ?_) (a' := ?_) #[true, true, true, true, true, true, true, true, true, true, false, true, true, true, true, true, false, false, false] rfl rfl (by kernel_rfl) (fun _ _ _ h => h) (Or.inl ⟨by rfl, ?_⟩) hHeld ?_ ?_
        rotate_left
        ·rintro w' ⟨hS1, hS2, hS3, hS4⟩
         go_simp
         with_reducible rfl
        rotate_left
        ·simp only [Act.put, List.setIfInBounds_toArray, List.set_cons_zero, List.set_cons_succ, i64_w, i32_w]
         rfl
        refine pure_ (i := 16) (N := some 97) (v := ?_) (a' := ?_) #[true, true, true, true, true, true, true, true, true, true, false, true, true, true, true, true, true, false, false] rfl rfl (by kernel_rfl) (fun _ _ _ h => h) (Or.inl ⟨by rfl, ?_⟩) ?_ ?_
        rotate_left
        ·intro w'
         go_simp
         with_reducible rfl
        rotate_left
        ·simp only [Act.put, List.setIfInBounds_toArray, List.set_cons_zero, List.set_cons_succ, i64_w, i32_w]
         rfl
        refine pure_ (i := 17) (N := some 98) (v := ?_) (a' := ?_) #[true, true, true, true, true, true, true, true, true, true, false, true, true, true, true, true, true, true, false] rfl rfl (by kernel_rfl) (fun _ _ _ h => h) (Or.inl ⟨by rfl, ?_⟩) ?_ ?_
        rotate_left
        ·intro w'
         go_simp
         with_reducible rfl
        rotate_left
        ·simp only [Act.put, List.setIfInBounds_toArray, List.set_cons_zero, List.set_cons_succ, i64_w, i32_w]
         rfl
        refine one_ (i := 10) (N := some 91) #[true, true, true, true, true, true, true, true, true, true, true, true, true, true, true, true, true, true, false] rfl rfl (by kernel_rfl) (by decide) (fun K hK => ?_)
        refine call_ 57 #[.agg #[], .agg #[.int .i64 fa, .int .i64 fb]] (by rfl) rfl ?_ ?_
        ·first | (go_simp; done) | (go_simp; rfl) | kernel_rfl
        refine (far57 _ _ _).mono ?_
        rintro e we ⟨rfl, hb⟩
        refine ⟨_, rfl, ?_⟩
        have HQ5 := Aside0.mk (LQ.step_below (stay_rx (stay_sx _ _)) HQ3.out hb)
        refine hK.out _ _ ⟨pw_cell_below hb hHeld.1, pw_cell_below hb hHeld.2.1, pw_cell_below hb hHeld.2.2.1, pw_cell_below hb hHeld.2.2.2⟩ (fun hHeld2 => ?_)
        clear hK K hb HQ3
        refine norm_ (a' := ?_) ?_ ?_
        rotate_left
        ·show Act.put _ (some 91) _ = _
         simp only [Act.put, List.setIfInBounds_toArray, List.set_cons_zero, List.set_cons_succ, i64_w, i32_w]
         rfl
        refine last_ (i := 18) (N := some 99) #[true, true, true, true, true, true, true, true, true, true, true, true, true, true, true, true, true, true, true] rfl rfl (by kernel_rfl) (by decide) (fun K hK => ?_)
        refine call_ 31 #[.int .i64 fb, .int .i64 (wrap64 (pc + xa)), .int .i64 a, .pointer (some ⟨z13, 0, none⟩), .pointer (some ⟨z14, 0, none⟩), .pointer (some ⟨z16, 0, none⟩)] (by rfl) rfl ?_ ?_
        ·first | (go_simp; done) | (go_simp; rfl) | kernel_rfl
        refine (relax_calls (stay_sx _ _) HQ5.out fb (wrap64 (pc + xa)) a hv0 hv1 (HFI.out j).m).mono ?_
        rintro e wf ⟨rfl, hq⟩
        refine ⟨_, rfl, ?_⟩
        have HQ4 := Aside0.mk hq
        refine hK.out _ _ ?_
        clear hK K hq HQ5
        refine norm_ (a' := ?_) ?_ ?_
        rotate_left
        ·show Act.put _ (some 99) _ = _
         simp only [Act.put, List.setIfInBounds_toArray, List.set_cons_zero, List.set_cons_succ, i64_w, i32_w]
         rfl
        refine done_ (by kernel_rfl) ?_
        go_wp2
        go_roundg (row.length - (j + 1))
        case measure => omega
        case rel => exact ⟨j + 1, by have := HFew.out; congr 1; unfold wrap64; omega, by omega, by rw [HFj2.out]; exact HQ4.out⟩
       ·have hwb : decide (0 ≤ rd x a) = false := decide_eq_false hw
        have HFj2 : Aside0 (F (j + 1) = F j) := Aside0.mk (by have h := HFj.out; unfold arcP at h; rw [if_neg hw] at h; exact h)
        clear HFj
        go_wp2
        go_roundg (row.length - (j + 1))
        case measure => omega
        case rel => exact ⟨j + 1, by have := HFew.out; congr 1; unfold wrap64; omega, by omega, by rw [HFj2.out]; exact HQ.out⟩
      ·have hjb : decide ((j : Int) < (row.length : Int)) = false := decide_eq_false (by omega)
       have hjl : j = row.length := by omega
       subst hjl
       go_wp2
       go_roundg k1
       case measure => omega
       case rel => exact ⟨_, HRun.out, by rw [← HFL.out]; exact HFI.out _, by rw [← HFL.out]; exact HQ.out⟩
    ·have hcb : decide ((0 : Int) < (cnt st.m : Int)) = false := decide_eq_false (by omega)
     have hst : st = r := by
      cases gk with
      | zero => simp [runP] at hrun
      | succ k1 =>
       rw [runP, if_neg hc] at hrun
       exact Option.some.inj hrun
     subst hst
     clear hrun
     go_wp2_with (first
      | (go_at_call 33; refine (LQ_Len (stay_rx (stay_sx _ _)) HQ.out (cnt st.m : Int) rfl).mono ?_; rintro e w9 ⟨rfl, nn, rfl⟩; have HQ1 := Aside0.mk (LQ.drewN (stay_rx (stay_sx _ _)) HQ.out nn); clear HQ b3; have b3 := HQ1.out.rxf.b3))
     clear b3
     generalize wr.drewN nn = wz at HQ1 ⊢
     have b1 := HQ1.out.rxf.b1
     have b2 := HQ1.out.rxf.b2
     go_region
     have HQ6 := Aside0.mk (LQ.step_below (stay_rx (stay_sx _ _)) HQ1.out (below_drew1 (Below.refl _ _)))
     clear HQ1 b1 b2
     generalize wz.drew = wz2 at HQ6 ⊢
     go_wp2
     go_ret2
     exact ⟨_, _, rfl, HQ6.out.ends⟩
end Go.Proofs.Ytofhgmdehglhgaa.PAll
