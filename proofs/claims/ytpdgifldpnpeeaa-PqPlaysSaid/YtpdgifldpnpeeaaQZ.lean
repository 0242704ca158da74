/- New for any number, a nil queue: the walk of PqSizes. -/
import Derived.Test.YtpdgifldpnpeeaaQO
namespace Go.Proofs.Ytpdgifldpnpeeaa.PAll
open Go.RowKit Go.Proofs.YtpdgifldpnpeeaaW.PrintWords Go.Proofs.YtpdgifldpnpeeaaW.PrintLast Go.Proofs.YtpdgifldpnpeeaaW.PrintMore
set_option linter.unusedVariables false
set_option linter.unusedSimpArgs false
attribute [local irreducible] Calls

set_option maxHeartbeats 8000000 in
theorem has_nil (x : Int) (w : World) : Calls Try.prog 22 #[.pointer none, .int .i64 x] w fun e w' => e = .returned (.bool false) ∧ w = w' := by
  go_enter Try.func22, Try.ntmps22
  go_wp2
  go_ret
  exact ⟨by first | rfl | (simp; done), rfl⟩
set_option maxHeartbeats 8000000 in
theorem len_nil (w : World) : Calls Try.prog 12 #[.pointer none] w fun e w' => e = .returned (.int .i64 0) ∧ w = w' := by
  go_enter Try.func12, Try.ntmps12
  go_wp2
  go_ret
  exact ⟨by first | rfl | (simp; done), rfl⟩
set_option maxHeartbeats 8000000 in
theorem set_nil (x y : Int) (w : World) : Calls Try.prog 10 #[.pointer none, .int .i64 x, .int .i64 y] w fun e w' => e = .returned (.bool false) ∧ w = w' := by
  go_enter Try.func10, Try.ntmps10
  go_wp2_with (first | (go_at_call 22; refine (has_nil x w).mono ?_; rintro e w2 ⟨rfl, rfl⟩))
  go_ret
  exact ⟨by first | rfl | (simp; done), rfl⟩
set_option maxHeartbeats 8000000 in
theorem drop_nil (x : Int) (w : World) : Calls Try.prog 13 #[.pointer none, .int .i64 x] w fun e w' => e = .returned (.bool false) ∧ w = w' := by
  go_enter Try.func13, Try.ntmps13
  go_wp2_with (first | (go_at_call 22; refine (has_nil x w).mono ?_; rintro e w2 ⟨rfl, rfl⟩))
  go_ret
  exact ⟨by first | rfl | (simp; done), rfl⟩
set_option maxHeartbeats 8000000 in
theorem key_nil (x : Int) (w : World) : Calls Try.prog 16 #[.pointer none, .int .i64 x] w fun e w' => e = .returned (.tuple #[.int .i64 0, .bool false]) ∧ w = w' := by
  go_enter Try.func16, Try.ntmps16
  go_wp2_with (first | (go_at_call 22; refine (has_nil x w).mono ?_; rintro e w2 ⟨rfl, rfl⟩))
  go_ret2
  exact ⟨by first | rfl | (simp; done), rfl⟩
set_option maxHeartbeats 8000000 in
theorem pop_nil (w : World) : Calls Try.prog 11 #[.pointer none] w fun e w' => e = .returned (.tuple #[.int .i64 0, .int .i64 0, .bool false]) ∧ w = w' := by
  go_enter Try.func11, Try.ntmps11
  go_wp2_with (first | (go_at_call 12; refine (len_nil w).mono ?_; rintro e w2 ⟨rfl, rfl⟩))
  exact bodyPost_ret (v := .tuple #[.int .i64 0, .int .i64 0, .bool false]) (by simp [results, Try.results11, go_sem]) rfl ⟨rfl, rfl⟩
set_option maxHeartbeats 8000000 in
theorem new_nil (n : Int) (w : World) (h : ¬ (0 ≤ n ∧ n ≤ 1048576)) : Calls Try.prog 9 #[.int .i64 n] w fun e w' => e = .returned (.pointer none) ∧ w = w' := by
  by_cases c : n < 0
  · clear h
    go_enter Try.func9, Try.ntmps9
    go_wp2
    go_ret
    exact ⟨by first | rfl | (simp; done), rfl⟩
  · have c1 : decide (n < 0) = false := decide_eq_false c
    have c2 : 1048576 < n := by omega
    clear h
    go_enter Try.func9, Try.ntmps9
    go_wp2
    go_ret
    exact ⟨by first | rfl | (simp; done), rfl⟩
set_option maxHeartbeats 8000000 in
theorem may_b (n : Int) (b : Bool) (w : World) (h : decide (0 ≤ n ∧ n ≤ 1048576) = b) : Calls Try.prog 21 #[.int .i64 n] w fun e w' => e = .returned (.bool b) ∧ w = w' := by
  subst h
  by_cases c : 0 ≤ n
  · by_cases c2 : n ≤ 1048576
    · rw [decide_eq_true (⟨c, c2⟩ : 0 ≤ n ∧ n ≤ 1048576)]
      go_enter Try.func21, Try.ntmps21
      go_wp2
      go_ret
      exact ⟨by first | rfl | (simp; done) | (simp [*]; done), rfl⟩
    · rw [decide_eq_false (fun h : 0 ≤ n ∧ n ≤ 1048576 => c2 h.2)]
      have c3 : decide (n ≤ 1048576) = false := decide_eq_false c2
      go_enter Try.func21, Try.ntmps21
      go_wp2
      go_ret
      exact ⟨by first | rfl | (simp; done) | (simp [*]; done), rfl⟩
  · rw [decide_eq_false (fun h : 0 ≤ n ∧ n ≤ 1048576 => c h.1)]
    have c3 : decide (0 ≤ n) = false := decide_eq_false c
    go_enter Try.func21, Try.ntmps21
    go_wp2
    go_ret
    exact ⟨by first | rfl | (simp; done) | (simp [*]; done), rfl⟩

theorem LQ_LenQ {R : World → (Nat → Prop) → Prop} {w0 w : World} {v : Value} {m : List (Option Int)} (hR : Stay R) (h : LQ R w0 w v m) (r : Int) (hf : (cnt m : Int) = r) : Calls Try.prog 12 #[v] w fun e w' => e = .returned (.int .i64 r) ∧ LQ R w0 w' v m :=
  (LQ_Len hR h r hf).mono fun e w' ⟨g, n, hw⟩ => ⟨g, by rw [hw]; exact LQ.drewN hR h n⟩
theorem LQ_KeyQ {R : World → (Nat → Prop) → Prop} {w0 w : World} {v : Value} {m : List (Option Int)} (hR : Stay R) (h : LQ R w0 w v m) (a1 r1 : Int) (r2 : Bool) (hf : pq_Queue_Key.f m a1 = some (r1, r2)) : Calls Try.prog 16 #[v, .int .i64 a1] w fun e w' => e = .returned (.tuple #[.int .i64 r1, .bool r2]) ∧ LQ R w0 w' v m :=
  (LQ_Key hR h a1 r1 r2 hf).mono fun e w' ⟨g, n, hw⟩ => ⟨g, by rw [hw]; exact LQ.drewN hR h n⟩
theorem cnt_rep : ∀ n, cnt (List.replicate n none) = 0
  | 0 => rfl
  | n + 1 => by rw [List.replicate_succ, cnt, cnt_rep n]
theorem gm_rep (n : Nat) (x : Int) : gm (List.replicate n none) x = none := by
  unfold gm
  rw [List.getD_eq_getElem?_getD, List.getElem?_replicate]
  split <;> rfl

set_option maxHeartbeats 16000000 in
set_option maxRecDepth 1000000 in
theorem PqSizes_walk (n x : Int) (w : World) : Calls Try.prog 7 #[.int .i64 n, .int .i64 x] w (LawPost w true) := by
  have HB0 := Aside0.mk (Below.refl w.heap.size w)
  by_cases hn : 0 ≤ n ∧ n ≤ 1048576
  case neg =>
    have HN := Aside0.mk (new_nil n w hn)
    have HM := Aside0.mk (may_b n false w (decide_eq_false hn))
    clear hn
    go_enter Try.func7, Try.ntmps7
    go_wp2_with (first
      | (go_at_call 9; refine (HN.out).mono ?_; rintro e w2 ⟨rfl, rfl⟩)
      | (go_at_call 21; refine (HM.out).mono ?_; rintro e w2 ⟨rfl, rfl⟩)
      | (go_at_call 16; refine (key_nil _ w).mono ?_; rintro e w2 ⟨rfl, rfl⟩)
      | (go_at_call 11; refine (pop_nil w).mono ?_; rintro e w2 ⟨rfl, rfl⟩)
      | (go_at_call 12; refine (len_nil w).mono ?_; rintro e w2 ⟨rfl, rfl⟩)
      | (go_at_call 10; refine (set_nil _ _ w).mono ?_; rintro e w2 ⟨rfl, rfl⟩)
      | (go_at_call 13; refine (drop_nil _ w).mono ?_; rintro e w2 ⟨rfl, rfl⟩)
      | (go_at_call 8; refine (lives.calls w).mono ?_; rintro e w2 ⟨rfl, hb⟩; have HB := Aside0.mk hb; clear hb))
    go_ret
    exact ⟨by first | rfl | (simp; done), HB.out⟩
  have HN := Aside0.mk (LQ_New HB0.out n (List.replicate n.toNat none) (by unfold pq_New.f; rw [if_pos hn]))
  have HMb := Aside0.mk (fun w2 => may_b n true w2 (decide_eq_true hn))
  have hnl : ((List.replicate n.toNat (none : Option Int)).length : Int) = n := by simp; omega
  have HL := Aside0.mk (fun w2 p (h : LQ Non w w2 p (List.replicate n.toNat none)) => LQ_LenQ stay_non h 0 (by rw [cnt_rep]; rfl))
  by_cases hx : 0 ≤ x ∧ x < n
  · obtain ⟨x0, x1⟩ := hx
    have hlt : x.toNat < (List.replicate n.toNat (none : Option Int)).length := by rw [List.length_replicate]; omega
    have HC := Aside0.mk (fun w2 p (h : LQ Non w w2 p (List.replicate n.toNat none)) => LQ_Set stay_non h x 7 true ((List.replicate n.toNat none).set x.toNat (some 7)) (by unfold pq_Queue_Set.f; rw [if_pos ⟨x0, by rw [hnl]; exact x1⟩]))
    have HK := Aside0.mk (fun w2 p (h : LQ Non w w2 p ((List.replicate n.toNat none).set x.toNat (some 7))) => LQ_KeyQ stay_non h x 7 true (by unfold pq_Queue_Key.f; rw [if_pos ⟨x0, by rw [List.length_set, hnl]; exact x1⟩, gm_set x0 (by rw [hnl]; exact x1) x0, if_pos rfl]))
    have HL2 := Aside0.mk (fun w2 p (h : LQ Non w w2 p ((List.replicate n.toNat none).set x.toNat (some 7))) => LQ_LenQ stay_non h 1 (by rw [cnt_new _ _ _ hlt (gm_rep n.toNat x), cnt_rep]; rfl))
    clear hn hnl hlt
    go_enter Try.func7, Try.ntmps7
    go_wp2_with (first
      | (go_at_call 9; refine (HN.out).mono ?_; rintro e w1 ⟨p, rfl, h1, _, h3⟩; have HQ := Aside0.mk (show LQ Non w w1 (.pointer (some ⟨p, 0, none⟩)) (List.replicate n.toNat none) from ⟨_, h1, trivial, h3⟩); clear h1 h3)
      | (go_at_call 21; refine (HMb.out _).mono ?_; rintro e w2 ⟨rfl, rfl⟩)
      | (go_at_call 12; (with_reducible refine (HL.out _ _ HQ.out).mono ?_); rintro e w2 ⟨rfl, h⟩; have HQ2 := Aside0.mk h; clear h HQ; have HQ := HQ2; clear HQ2)
      | (go_at_call 12; (with_reducible refine (HL2.out _ _ HQ.out).mono ?_); rintro e w2 ⟨rfl, h⟩; have HQ2 := Aside0.mk h; clear h HQ; have HQ := HQ2; clear HQ2)
      | (go_at_call 10; (with_reducible refine (HC.out _ _ HQ.out).mono ?_); rintro e w2 ⟨rfl, h⟩; have HQ2 := Aside0.mk h; clear h HQ; have HQ := HQ2; clear HQ2)
      | (go_at_call 16; (with_reducible refine (HK.out _ _ HQ.out).mono ?_); rintro e w2 ⟨rfl, h⟩; have HQ2 := Aside0.mk h; clear h HQ; have HQ := HQ2; clear HQ2)
      | (go_at_call 8; refine (lives.calls _).mono ?_; rintro e w2 ⟨rfl, hb⟩; have HB := Aside0.mk (below_step HQ.out.below hb); clear hb))
    go_ret
    exact ⟨by first | rfl | (simp; done), HB.out⟩
  · have HC := Aside0.mk (fun w2 p (h : LQ Non w w2 p (List.replicate n.toNat none)) => LQ_Set stay_non h x 7 false (List.replicate n.toNat none) (by unfold pq_Queue_Set.f; rw [if_neg (by rw [hnl]; exact hx)]))
    have HK := Aside0.mk (fun w2 p (h : LQ Non w w2 p (List.replicate n.toNat none)) => LQ_KeyQ stay_non h x 0 false (by unfold pq_Queue_Key.f; rw [if_neg (by rw [hnl]; exact hx)]))
    by_cases x0 : 0 ≤ x
    · have x1 : decide (x < n) = false := decide_eq_false (by omega)
      clear hn hnl hx
      go_enter Try.func7, Try.ntmps7
      go_wp2_with (first
        | (go_at_call 9; refine (HN.out).mono ?_; rintro e w1 ⟨p, rfl, h1, _, h3⟩; have HQ := Aside0.mk (show LQ Non w w1 (.pointer (some ⟨p, 0, none⟩)) (List.replicate n.toNat none) from ⟨_, h1, trivial, h3⟩); clear h1 h3)
        | (go_at_call 21; refine (HMb.out _).mono ?_; rintro e w2 ⟨rfl, rfl⟩)
        | (go_at_call 12; (with_reducible refine (HL.out _ _ HQ.out).mono ?_); rintro e w2 ⟨rfl, h⟩; have HQ2 := Aside0.mk h; clear h HQ; have HQ := HQ2; clear HQ2)
        | (go_at_call 10; (with_reducible refine (HC.out _ _ HQ.out).mono ?_); rintro e w2 ⟨rfl, h⟩; have HQ2 := Aside0.mk h; clear h HQ; have HQ := HQ2; clear HQ2)
        | (go_at_call 16; (with_reducible refine (HK.out _ _ HQ.out).mono ?_); rintro e w2 ⟨rfl, h⟩; have HQ2 := Aside0.mk h; clear h HQ; have HQ := HQ2; clear HQ2)
        | (go_at_call 8; refine (lives.calls _).mono ?_; rintro e w2 ⟨rfl, hb⟩; have HB := Aside0.mk (below_step HQ.out.below hb); clear hb))
      go_ret
      exact ⟨by first | rfl | (simp; done), HB.out⟩
    · have x1 : decide (0 ≤ x) = false := decide_eq_false x0
      clear hn hnl hx
      go_enter Try.func7, Try.ntmps7
      go_wp2_with (first
        | (go_at_call 9; refine (HN.out).mono ?_; rintro e w1 ⟨p, rfl, h1, _, h3⟩; have HQ := Aside0.mk (show LQ Non w w1 (.pointer (some ⟨p, 0, none⟩)) (List.replicate n.toNat none) from ⟨_, h1, trivial, h3⟩); clear h1 h3)
        | (go_at_call 21; refine (HMb.out _).mono ?_; rintro e w2 ⟨rfl, rfl⟩)
        | (go_at_call 12; (with_reducible refine (HL.out _ _ HQ.out).mono ?_); rintro e w2 ⟨rfl, h⟩; have HQ2 := Aside0.mk h; clear h HQ; have HQ := HQ2; clear HQ2)
        | (go_at_call 10; (with_reducible refine (HC.out _ _ HQ.out).mono ?_); rintro e w2 ⟨rfl, h⟩; have HQ2 := Aside0.mk h; clear h HQ; have HQ := HQ2; clear HQ2)
        | (go_at_call 16; (with_reducible refine (HK.out _ _ HQ.out).mono ?_); rintro e w2 ⟨rfl, h⟩; have HQ2 := Aside0.mk h; clear h HQ; have HQ := HQ2; clear HQ2)
        | (go_at_call 8; refine (lives.calls _).mono ?_; rintro e w2 ⟨rfl, hb⟩; have HB := Aside0.mk (below_step HQ.out.below hb); clear hb))
      go_ret
      exact ⟨by first | rfl | (simp; done), HB.out⟩
end Go.Proofs.Ytpdgifldpnpeeaa.PAll
