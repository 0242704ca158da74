/- New returns a device exactly for a permitted number of blocks, all zero: the walk of DeviceSizes. -/
import Derived.Test.YtfinlgckalbfoaaDl
namespace Go.Proofs.Ytfinlgckalbfoaa.PAll
open Go.RowKit Go.Proofs.YtfinlgckalbfoaaW.PrintWords Go.Proofs.YtfinlgckalbfoaaW.PrintLast Go.Proofs.YtfinlgckalbfoaaW.PrintMore
set_option linter.unusedVariables false
set_option linter.unusedSimpArgs false
attribute [local irreducible] Calls

theorem info5 : (Try.prog.info? 5).map (fun i => (i.zero, i.size, i.bytes)) = some (some (.int .u8 0), 1, 1) := by kernel_rfl
theorem str_zeros (n : Nat) : strOfNums (List.replicate n 0) = ⟨Array.replicate n 0⟩ := by
  unfold strOfNums
  congr 1
  rw [List.map_replicate]
  apply Array.ext'
  simp
theorem conv_zeros {w : World} {base n m c : Nat} {ok : Nat → Prop} {A : Option Addr} (h : Kd.R (Kd.int .u8) 5 w base ok (.slice A m c) (List.replicate n 0)) : (convert 47 9 (.slice A m c)).run Try.prog w = .ok (.string ⟨Array.replicate n 0⟩) w := by
  have h1 := Kd.R_reads' h
  have h2 := h1.2.2
  rw [← h1.1] at h2
  rw [← str_zeros]
  exact Kd.C_string Try.underlying47 Try.underlying5 Try.underlying9 h2
set_option maxHeartbeats 16000000 in
set_option maxRecDepth 1000000 in
theorem DeviceSizes_walk (n i : Int) (w : World) : Calls Try.prog 5 #[.int .i64 n, .int .i64 i] w (LawPost w true) := by
  have HB0 := Aside0.mk (Below.refl w.heap.size w)
  by_cases hn : 1 ≤ n ∧ n ≤ 65536
  · obtain ⟨n1, n2⟩ := hn
    obtain ⟨m, rfl⟩ : ∃ m : Nat, n = m := ⟨n.toNat, by omega⟩
    have HN := Aside0.mk (LD_New stay_non (w0 := w) (w := w) trivial (Below.refl w.heap.size w) m (m : Int) rfl (by omega) (by omega))
    have c1 : decide ((m : Int) ≥ 1) = true := decide_eq_true n1
    have c2 : decide ((m : Int) ≤ 65536) = true := decide_eq_true n2
    by_cases hi : 0 ≤ i ∧ i < (m : Int)
    · have HR := Aside0.mk (show dvRead (dvNew m) i = (zB, 0) from by
        unfold dvRead
        rw [if_pos (by simpa [dvNew] using hi)]
        simp only [dvNew, Prod.mk.injEq, and_true]
        rw [List.getD_eq_getElem?_getD, List.getElem?_replicate, if_pos (by omega)]
        rfl)
      have c3 : decide (i < 0) = false := decide_eq_false (by omega)
      have c4 : decide (i ≥ (m : Int)) = false := decide_eq_false (by omega)
      have HL := Aside0.mk (show ((dvNew m).now.length : Int) = m from by simp [dvNew])
      clear hi n1 n2
      go_enter Try.func5, Try.ntmps5
      go_wp2_with (first
        | (go_at_call 8; with_reducible refine (HN.out).mono ?_; rintro e w1 ⟨p, rfl, h1⟩; have HQ := Aside0.mk h1; clear h1)
        | (go_at_call 16; with_reducible refine (LD_Read stay_non HQ.out i zB 0 HR.out).mono ?_; rintro e w2 ⟨rfl, nq, rfl⟩; have HQ5 := Aside0.mk (LD.drewN stay_non HQ.out nq); clear HQ)
        | ((with_reducible refine gate_dst (N := 91) rfl ?_); (refine gate_guard (by rfl) ?_; dsimp only); refine Kd.R_make (Kd.int .u8) (w0 := w1.drewN nq) (w1.drewN nq).heap.size 5 ?hg (N := 91) ?hd 47 (.const (.int .i64 64)) (.const (.int .i64 64)) ?ho (64 : Int) ?hx ?hy Try.underlying47 (.int .u8 0) 1 info5 ?a1 ?a2 ?a3 (0 : Int) (ok := fun _ => True) (okp := fun _ => True) ?a4 ?a5 ?a6 ?a7 ?a8 ?a9 ?a10 ?a11; (case hg => rfl); (case hd => rfl); (case ho => rfl); (case hx => rfl); (case hy => rfl); (case a1 => rfl); (case a2 => decide); (case a3 => decide); (case a4 => rfl); (case a5 => exact fun _ hk => hk); (case a6 => trivial); (case a7 => decide); (case a8 => decide); (case a9 => exact Below.refl _ _); (case a10 => exact Nat.le_refl _); intro v1 w9 ho hb hg hnew; obtain ⟨A1, c9, e1⟩ := Kd.R_slice ho; subst e1; have hst : (convert 47 9 (.slice A1 64 c9)).run Try.prog w9 = .ok (.string zB) w9 := conv_zeros (n := 64) ho; have HQ6 := Aside0.mk (LD.step_below stay_non HQ5.out hb); clear ho hb hg hnew HQ5)
        | (go_at_call 20; with_reducible refine (LD_Blocks HQ6.out _ HL.out).mono ?_; rintro e w2 ⟨rfl, nq, rfl⟩; have HQ7 := Aside0.mk (LD.drewN stay_non HQ6.out nq); clear HQ6)
        | (go_at_call 7; refine (lives.calls _).mono ?_; rintro e w2 ⟨rfl, hb⟩; have HB := Aside0.mk (below_step (by have h := HQ7.out.below; first | exact h | simpa using h) hb); clear hb))
      go_ret
      exact ⟨by first | rfl | (simp; done), HB.out⟩
    · have HR := Aside0.mk (show dvRead (dvNew m) i = (⟨#[]⟩, 2) from by
        unfold dvRead
        rw [if_neg (by simpa [dvNew] using hi)])
      have HL := Aside0.mk (show ((dvNew m).now.length : Int) = m from by simp [dvNew])
      have c3 : (decide (i < 0) || decide (i ≥ (m : Int))) = true := by simp; omega
      by_cases h0 : i < 0
      · have c4 : decide (i < 0) = true := decide_eq_true h0
        clear hi n1 n2 c3 h0
        go_enter Try.func5, Try.ntmps5
        go_wp2_with (first
          | (go_at_call 8; with_reducible refine (HN.out).mono ?_; rintro e w1 ⟨p, rfl, h1⟩; have HQ := Aside0.mk h1; clear h1)
          | (go_at_call 16; with_reducible refine (LD_Read stay_non HQ.out i _ _ HR.out).mono ?_; rintro e w2 ⟨rfl, nq, rfl⟩; have HQ6 := Aside0.mk (LD.drewN stay_non HQ.out nq); clear HQ)
          | (go_at_call 20; with_reducible refine (LD_Blocks HQ6.out _ HL.out).mono ?_; rintro e w2 ⟨rfl, nq, rfl⟩; have HQ7 := Aside0.mk (LD.drewN stay_non HQ6.out nq); clear HQ6)
          | (go_at_call 7; refine (lives.calls _).mono ?_; rintro e w2 ⟨rfl, hb⟩; have HB := Aside0.mk (below_step (by have h := HQ7.out.below; first | exact h | simpa using h) hb); clear hb))
        go_ret
        exact ⟨by first | rfl | (simp; done), HB.out⟩
      · have c4 : decide (i < 0) = false := decide_eq_false h0
        have c5 : decide (i ≥ (m : Int)) = true := decide_eq_true (by omega)
        clear hi n1 n2 c3 h0
        go_enter Try.func5, Try.ntmps5
        go_wp2_with (first
          | (go_at_call 8; with_reducible refine (HN.out).mono ?_; rintro e w1 ⟨p, rfl, h1⟩; have HQ := Aside0.mk h1; clear h1)
          | (go_at_call 16; with_reducible refine (LD_Read stay_non HQ.out i _ _ HR.out).mono ?_; rintro e w2 ⟨rfl, nq, rfl⟩; have HQ6 := Aside0.mk (LD.drewN stay_non HQ.out nq); clear HQ)
          | (go_at_call 20; with_reducible refine (LD_Blocks HQ6.out _ HL.out).mono ?_; rintro e w2 ⟨rfl, nq, rfl⟩; have HQ7 := Aside0.mk (LD.drewN stay_non HQ6.out nq); clear HQ6)
          | (go_at_call 7; refine (lives.calls _).mono ?_; rintro e w2 ⟨rfl, hb⟩; have HB := Aside0.mk (below_step (by have h := HQ7.out.below; first | exact h | simpa using h) hb); clear hb))
        go_ret
        exact ⟨by first | rfl | (simp; done), HB.out⟩
  · have hn' : n < 1 ∨ 65536 < n := by omega
    have HN := Aside0.mk (fun w2 => dev_New_nil n hn' w2)
    have c1 : (decide (n ≥ 1) && decide (n ≤ 65536)) = false := by simp; omega
    by_cases h1 : n ≥ 1
    · have c2 : decide (n ≥ 1) = true := decide_eq_true h1
      have c3 : decide (n ≤ 65536) = false := decide_eq_false (by omega)
      clear hn hn' c1 h1
      go_enter Try.func5, Try.ntmps5
      go_wp2_with (first
        | (go_at_call 8; refine (HN.out _).mono ?_; rintro e w2 ⟨rfl, h⟩; obtain ⟨nq, rfl⟩ := h.out; have n1_ := Aside0.mk (pw_below_drewN HB0.out nq); clear HB0; have HB0 := n1_; clear n1_ h)
        | (go_at_call 16; refine (dev_Read_nil _ i).mono ?_; rintro e w2 ⟨rfl, h⟩; obtain ⟨nq, rfl⟩ := h.out; have n1_ := Aside0.mk (pw_below_drewN HB0.out nq); clear HB0; have HB0 := n1_; clear n1_ h)
        | (go_at_call 9; refine (dev_Limit_nil _ i).mono ?_; rintro e w2 ⟨rfl, h⟩; obtain ⟨nq, rfl⟩ := h.out; have n1_ := Aside0.mk (pw_below_drewN HB0.out nq); clear HB0; have HB0 := n1_; clear n1_ h)
        | (go_at_call 20; refine (dev_Blocks_nil _).mono ?_; rintro e w2 ⟨rfl, h⟩; obtain ⟨nq, rfl⟩ := h.out; have n1_ := Aside0.mk (pw_below_drewN HB0.out nq); clear HB0; have HB0 := n1_; clear n1_ h)
        | (go_at_call 12; refine (dev_Writes_nil _).mono ?_; rintro e w2 ⟨rfl, h⟩; obtain ⟨nq, rfl⟩ := h.out; have n1_ := Aside0.mk (pw_below_drewN HB0.out nq); clear HB0; have HB0 := n1_; clear n1_ h)
        | (go_at_call 11; refine (dev_After_nil _ i).mono ?_; rintro e w2 ⟨rfl, h⟩; obtain ⟨nq, rfl⟩ := h.out; have n1_ := Aside0.mk (pw_below_drewN HB0.out nq); clear HB0; have HB0 := n1_; clear n1_ h)
        | (go_at_call 10; refine (dev_Write_nil _ i _).mono ?_; rintro e w2 ⟨rfl, h⟩; obtain ⟨nq, rfl⟩ := h.out; have n1_ := Aside0.mk (pw_below_drewN HB0.out nq); clear HB0; have HB0 := n1_; clear n1_ h)
        | (go_at_call 7; refine (lives.calls _).mono ?_; rintro e w2 ⟨rfl, hb⟩; have HB := Aside0.mk (below_step (by simpa using HB0.out) hb); clear hb))
      go_ret
      exact ⟨by first | rfl | (simp; done), HB.out⟩
    · have c2 : decide (n ≥ 1) = false := decide_eq_false h1
      clear hn hn' c1 h1
      go_enter Try.func5, Try.ntmps5
      go_wp2_with (first
        | (go_at_call 8; refine (HN.out _).mono ?_; rintro e w2 ⟨rfl, h⟩; obtain ⟨nq, rfl⟩ := h.out; have n1_ := Aside0.mk (pw_below_drewN HB0.out nq); clear HB0; have HB0 := n1_; clear n1_ h)
        | (go_at_call 16; refine (dev_Read_nil _ i).mono ?_; rintro e w2 ⟨rfl, h⟩; obtain ⟨nq, rfl⟩ := h.out; have n1_ := Aside0.mk (pw_below_drewN HB0.out nq); clear HB0; have HB0 := n1_; clear n1_ h)
        | (go_at_call 9; refine (dev_Limit_nil _ i).mono ?_; rintro e w2 ⟨rfl, h⟩; obtain ⟨nq, rfl⟩ := h.out; have n1_ := Aside0.mk (pw_below_drewN HB0.out nq); clear HB0; have HB0 := n1_; clear n1_ h)
        | (go_at_call 20; refine (dev_Blocks_nil _).mono ?_; rintro e w2 ⟨rfl, h⟩; obtain ⟨nq, rfl⟩ := h.out; have n1_ := Aside0.mk (pw_below_drewN HB0.out nq); clear HB0; have HB0 := n1_; clear n1_ h)
        | (go_at_call 12; refine (dev_Writes_nil _).mono ?_; rintro e w2 ⟨rfl, h⟩; obtain ⟨nq, rfl⟩ := h.out; have n1_ := Aside0.mk (pw_below_drewN HB0.out nq); clear HB0; have HB0 := n1_; clear n1_ h)
        | (go_at_call 11; refine (dev_After_nil _ i).mono ?_; rintro e w2 ⟨rfl, h⟩; obtain ⟨nq, rfl⟩ := h.out; have n1_ := Aside0.mk (pw_below_drewN HB0.out nq); clear HB0; have HB0 := n1_; clear n1_ h)
        | (go_at_call 10; refine (dev_Write_nil _ i _).mono ?_; rintro e w2 ⟨rfl, h⟩; obtain ⟨nq, rfl⟩ := h.out; have n1_ := Aside0.mk (pw_below_drewN HB0.out nq); clear HB0; have HB0 := n1_; clear n1_ h)
        | (go_at_call 7; refine (lives.calls _).mono ?_; rintro e w2 ⟨rfl, hb⟩; have HB := Aside0.mk (below_step (by simpa using HB0.out) hb); clear hb))
      go_ret
      exact ⟨by first | rfl | (simp; done), HB.out⟩
end Go.Proofs.Ytfinlgckalbfoaa.PAll
