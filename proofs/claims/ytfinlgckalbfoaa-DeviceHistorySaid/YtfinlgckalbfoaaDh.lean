/- Reading returns the last write; After; a device made by After is independent: the walk of DeviceHistory. -/
import Derived.Test.YtfinlgckalbfoaaDh1
import Derived.Test.YtfinlgckalbfoaaDs
namespace Go.Proofs.Ytfinlgckalbfoaa.PAll
open Go.RowKit Go.Proofs.YtfinlgckalbfoaaW.PrintWords Go.Proofs.YtfinlgckalbfoaaW.PrintLast Go.Proofs.YtfinlgckalbfoaaW.PrintMore
set_option linter.unusedVariables false
set_option linter.unusedSimpArgs false
attribute [local irreducible] Calls

set_option maxHeartbeats 16000000 in
set_option maxRecDepth 1000000 in
theorem History_big (n q : Int) (A0 : Option Addr) (c0 : Nat) (l0 : List S28) (w : World) (hc0 : l0.length ≤ c0) (h : 16 < n ∨ 40 < (l0.length : Int)) : Calls Try.prog 6 #[.int .i64 n, .slice A0 l0.length c0, .int .i64 q] w (LawPost w true) := by
  have HB0 := Aside0.mk (Below.refl w.heap.size w)
  by_cases c1 : n > 16
  · have c1b : decide (n > 16) = true := decide_eq_true c1
    clear h
    go_enter Try.func6, Try.ntmps6
    go_wp2_with (first | (go_at_call 7; refine (lives_after (w := w) HB0.out).mono ?_; rintro e w2 ⟨rfl, hb⟩; have HB := Aside0.mk hb; clear hb))
    go_ret
    exact ⟨by first | rfl | (simp; done), HB.out⟩
  · have c1b : decide (n > 16) = false := decide_eq_false c1
    have c2b : decide ((l0.length : Int) > 40) = true := decide_eq_true (by omega)
    clear h
    go_enter Try.func6, Try.ntmps6
    go_wp2_with (first | (go_at_call 7; refine (lives_after (w := w) HB0.out).mono ?_; rintro e w2 ⟨rfl, hb⟩; have HB := Aside0.mk hb; clear hb))
    go_ret
    exact ⟨by first | rfl | (simp; done), HB.out⟩
set_option maxHeartbeats 16000000 in
set_option maxRecDepth 1000000 in
theorem History_nil (n q : Int) (A0 : Option Addr) (c0 : Nat) (l0 : List S28) (w : World) (hc0 : l0.length ≤ c0) (h1 : n < 1) (h2 : (l0.length : Int) ≤ 40) : Calls Try.prog 6 #[.int .i64 n, .slice A0 l0.length c0, .int .i64 q] w (LawPost w true) := by
  have HB0 := Aside0.mk (Below.refl w.heap.size w)
  have HN := Aside0.mk (fun w2 => dev_New_nil n (.inl h1) w2)
  have c1b : decide (n > 16) = false := decide_eq_false (by omega)
  have c2b : decide ((l0.length : Int) > 40) = false := decide_eq_false (by omega)
  clear h1 h2
  go_enter Try.func6, Try.ntmps6
  go_wp2_with (first
    | (go_at_call 8; refine (HN.out _).mono ?_; rintro e w2 ⟨rfl, h⟩; obtain ⟨nq, rfl⟩ := h.out; have n1_ := Aside0.mk (pw_below_drewN HB0.out nq); clear HB0; have HB0 := n1_; clear n1_ h)
    | (go_at_call 7; refine (lives_after (w := w) HB0.out).mono ?_; rintro e w2 ⟨rfl, hb⟩; have HB := Aside0.mk hb; clear hb))
  go_ret
  exact ⟨by first | rfl | (simp; done), HB.out⟩
section
variable {P : Program} {ops : Array Oper} {rest : List Oper} {o : Oper} {a : Act} {Q : Exit → Act → World → Prop} {R : Apart} {w0 w : World} {v : Value} {d : Dv}
theorem LD.zeros (hR : Stay R) (h : LD R w0 w v d) (hgd : o.guard = none) {N : Tmp} (hd : o.dst = some N) (x : Operand) (ho : o.op = .makeSlice 47 x x) (m : Int) (hx : a.eval x = .int .i64 m) (h0 : 0 ≤ m) (h1 : m ≤ 64)
    (hc : ∀ A c w1, LD R w0 w1 v d → (convert 47 9 (.slice A m.toNat c)).run Try.prog w1 = .ok (.string ⟨Array.replicate m.toNat 0⟩) w1 → wpList Try.prog ops Q rest (a.put o.dst (.slice A m.toNat c)) w1) : wpList Try.prog ops Q (o :: rest) a w := by
  refine Kd.R_make (Kd.int .u8) (w0 := w) w.heap.size 5 hgd hd 47 x x ho m hx hx Try.underlying47 (.int .u8 0) 1 info5 rfl (by decide) (by decide) (0 : Int) (ok := fun _ => True) (okp := fun _ => True) rfl (fun _ hk => hk) trivial h0 (by omega) (Below.refl _ _) (Nat.le_refl _) ?_
  intro v1 w1 g1 g2 g3 g4
  obtain ⟨A, c, e⟩ := Kd.R_slice g1
  rw [List.length_replicate] at e
  subst e
  exact hc A c w1 (h.step_below hR g2) (conv_zeros g1)
end
theorem new_cell (w : World) (o : Obj) : (w.alloc o).heap[w.heap.size]? = some o := blk_new w o
theorem info3h : (Try.prog.info? 3).map (fun i => (i.zero, i.size, i.bytes)) = some (some (.int .i64 0), 1, 8) := by kernel_rfl
theorem info9h : (Try.prog.info? 9).map (fun i => (i.zero, i.size, i.bytes)) = some (some (.string ⟨#[]⟩), 1, 16) := by kernel_rfl
set_option maxHeartbeats 16000000 in
set_option maxRecDepth 1000000 in
theorem History_main (n : Nat) (q : Int) (A0 : Option Addr) (c0 : Nat) (l0 : List S28) (w : World) (hr0 : Kd.C k28 w A0 l0.length l0) (hc0 : l0.length ≤ c0) (h1 : 1 ≤ n) (h2 : n ≤ 16) (h3 : (l0.length : Int) ≤ 40) (hm : q ≤ 9223372036854775807) : Calls Try.prog 6 #[.int .i64 (n : Int), .slice A0 l0.length c0, .int .i64 q] w (LawPost w true) := by
  have HN := Aside0.mk (LD_New stay_non (w0 := w) (w := w) trivial (Below.refl w.heap.size w) n (n : Int) rfl (by omega) (by omega))
  have c1b : decide ((n : Int) > 16) = false := decide_eq_false (by omega)
  have c2b : decide ((l0.length : Int) > 40) = false := decide_eq_false (by omega)
  have HR := Aside0.mk hr0
  have HX := Aside0.mk (And.intro (And.intro h1 hm) (And.intro h2 h3))
  clear hr0 h1 h2 h3 hm
  go_enter Try.func6, Try.ntmps6
  go_wp2_with (first
    | (go_at_call 8; with_reducible refine (HN.out).mono ?_; rintro e w1 ⟨p, rfl, hq⟩; have HQ1 := Aside0.mk hq; clear hq HN))
  go_loopg [8, 9, 10] l0.length (fun g v8 v9 v10 wr => ∃ (k : Nat) (al : List Int) (pl : List ByteArray), v10 = .int .i64 (k : Int) ∧ k + g = l0.length ∧ LD (OwnK (Kd.int .i64) 3 w.heap.size v8 al (OwnK Kd.string 9 w.heap.size v9 pl Non)) w wr (.pointer (some ⟨p, 0, none⟩)) (hist n al pl) ∧ HI n k al pl)
  case atStart => exact ⟨0, [], [], rfl, by omega, HQ1.out.weaken (fun w ok _ => ⟨fun _ => True, Kd.R_nil _ _ _ _ _, fun _ => True, Kd.R_nil _ _ _ _ _, trivial⟩), ⟨rfl, Nat.le_refl _, (fun x hx => by cases hx), (fun x hx => by cases hx)⟩⟩
  case round =>
    clear HQ1
    obtain ⟨k, al, pl, rfl, hkg, hq, hI⟩ := hrel
    have HQ := Aside0.mk hq
    have HI := Aside0.mk hI
    clear hq hI
    by_cases hk : k < l0.length
    · obtain ⟨ad, rfl, _⟩ := at_T28 HR.out (k : Int) (Int.natCast_nonneg _) (by omega)
      have HS0 := Aside0.mk (show ∀ w2, Below w.heap.size w w2 → w2.cell? (ad.add (k * 3)) = some (.int .u8 (rd_T28 l0 k).f0) ∧ w2.cell? ⟨(ad.add (k * 3)).block, (ad.add (k * 3)).off + 1, none⟩ = some (.int .i64 (rd_T28 l0 k).f1) ∧ w2.cell? ⟨(ad.add (k * 3)).block, (ad.add (k * 3)).off + 2, none⟩ = some (.string (rd_T28 l0 k).f2) from fun w2 hb => by
        obtain ⟨ad2, e2, g0, g1, g2⟩ := at_T28 (Kd.C_below HR.out hb) (k : Int) (Int.natCast_nonneg _) (by omega)
        cases e2
        simp only [Int.toNat_natCast] at g0 g1 g2
        exact ⟨g0, g1, g2⟩)
      obtain ⟨s0, s1, s2⟩ := HS0.out _ HQ.out.below
      generalize rd_T28 l0 k = x at HS0 s0 s1 s2
      have hk1 : (k : Int) < (l0.length : Int) := by omega
      have hk0 : (0 : Int) ≤ (k : Int) := Int.natCast_nonneg _
      by_cases a0 : (x.f2.size : Int) > 400
      · have a0b : decide ((x.f2.size : Int) > 400) = true := decide_eq_true a0
        go_wp2_with (first | (go_at_call 7; refine (lives_after (w := w) HQ.out.below).mono ?_; rintro e w2 ⟨rfl, hb⟩; have HB2 := Aside0.mk hb; clear hb))
        go_ret
        exact ⟨by first | rfl | (simp; done), HB2.out⟩
      · have a0b : decide ((x.f2.size : Int) > 400) = false := decide_eq_false a0
        clear a0
        have HL := Aside0.mk (show (hist n al pl).log.length < 1000000 from by show (lg al pl).length < 1000000; rw [lg_length HI.out.len]; have := HI.out.le; have := HX.out.2.2; omega)
        go_wp2
        by_cases cc : 0 ≤ x.f1 ∧ x.f1 < (n : Int) ∧ x.f2.size ≤ 64
        · have HW2 := Aside0.mk (hist_ok HI.out cc.1 cc.2.1 cc.2.2)
          have HI2 := Aside0.mk (HI.out.snoc cc.1 cc.2.1 cc.2.2)
          have e1 : decide (x.f1 ≥ 0) = true := decide_eq_true cc.1
          have e2 : decide (x.f1 < (n : Int)) = true := decide_eq_true cc.2.1
          have e3 : decide ((x.f2.size : Int) ≤ 64) = true := decide_eq_true (by omega)
          clear cc
          obtain ⟨rr, hrr⟩ : ∃ rr : Int, rr = 0 := ⟨_, rfl⟩
          obtain ⟨d2, hd2⟩ : ∃ d2, d2 = hist n (al ++ [x.f1]) (pl ++ [x.f2]) := ⟨_, rfl⟩
          rw [← hrr, ← hd2] at HW2
          have n1_ := Aside0.mk (LD.step_below (stay_own _ _ _ _ _ (stay_own _ _ _ _ _ stay_non)) HQ.out (below_drew1 (Below.refl _ _)))
          clear HQ
          have HQ := n1_
          clear n1_
          (try clear s0 s1 s2)
          refine start_ (n := 13) (S := fun w' => Below w.heap.size w w') (ds := []) #[false, false, false, false, false, false, false, false, false, false, false, false, false] (by kernel_rfl) rfl rfl HQ.out.below (fun hHeld => ?_)
          refine pure_ (i := 0) (N := some 52) (v := ?_) (a' := ?_) #[true, false, false, false, false, false, false, false, false, false, false, false, false] rfl rfl (by kernel_rfl) (fun _ _ _ h => h) (Or.inl ⟨by rfl, ?_⟩) ?_ ?_
          rotate_left
          · intro w'
            go_simp
            with_reducible rfl
          rotate_left
          · simp only [Act.put, List.setIfInBounds_toArray, List.set_cons_zero, List.set_cons_succ, i64_w, i32_w]
            rfl
          refine pure_ (i := 1) (N := some 53) (v := ?_) (a' := ?_) #[true, true, false, false, false, false, false, false, false, false, false, false, false] rfl rfl (by kernel_rfl) (fun _ _ _ h => h) (Or.inl ⟨by rfl, ?_⟩) ?_ ?_
          rotate_left
          · intro w'
            go_simp
            with_reducible rfl
          rotate_left
          · simp only [Act.put, List.setIfInBounds_toArray, List.set_cons_zero, List.set_cons_succ, i64_w, i32_w]
            rfl
          refine pure_ (i := 2) (N := some 54) (v := ?_) (a' := ?_) #[true, true, true, false, false, false, false, false, false, false, false, false, false] rfl rfl (by kernel_rfl) (fun _ _ _ h => h) (Or.inl ⟨by rfl, ?_⟩) ?_ ?_
          rotate_left
          · intro w'
            go_simp
            with_reducible rfl
          rotate_left
          · simp only [Act.put, List.setIfInBounds_toArray, List.set_cons_zero, List.set_cons_succ, i64_w, i32_w]
            rfl
          refine pure_ (i := 3) (N := some 55) (v := ?_) (a' := ?_) #[true, true, true, true, false, false, false, false, false, false, false, false, false] rfl rfl (by kernel_rfl) (fun _ _ _ h => h) (Or.inl ⟨by rfl, ?_⟩) ?_ ?_
          rotate_left
          · intro w'
            go_simp
            with_reducible rfl
          rotate_left
          · simp only [Act.put, List.setIfInBounds_toArray, List.set_cons_zero, List.set_cons_succ, i64_w, i32_w]
            rfl
          refine pure_ (i := 4) (N := some 56) (v := ?_) (a' := ?_) #[true, true, true, true, true, false, false, false, false, false, false, false, false] rfl rfl (by kernel_rfl) (fun _ _ _ h => h) (Or.inl ⟨by rfl, ?_⟩) ?_ ?_
          rotate_left
          · intro w'
            go_simp
            with_reducible rfl
          rotate_left
          · simp only [Act.put, List.setIfInBounds_toArray, List.set_cons_zero, List.set_cons_succ, i64_w, i32_w]
            rfl
          refine take_ (i := 5) (N := some 57) (v := ?_) (a' := ?_) #[true, true, true, true, true, true, false, false, false, false, false, false, false] rfl rfl (by kernel_rfl) (fun _ _ _ h => h) (Or.inl ⟨by rfl, ?_⟩) hHeld ?_ ?_
          rotate_left
          · rintro w' hS
            obtain ⟨y0, y1, y2⟩ := HS0.out w' hS
            go_simp
            with_reducible rfl
          rotate_left
          · simp only [Act.put, List.setIfInBounds_toArray, List.set_cons_zero, List.set_cons_succ, i64_w, i32_w]
            rfl
          refine pure_ (i := 6) (N := some 58) (v := ?_) (a' := ?_) #[true, true, true, true, true, true, true, false, false, false, false, false, false] rfl rfl (by kernel_rfl) (fun _ _ _ h => h) (Or.inl ⟨by rfl, ?_⟩) ?_ ?_
          rotate_left
          · intro w'
            go_simp
            with_reducible rfl
          rotate_left
          · simp only [Act.put, List.setIfInBounds_toArray, List.set_cons_zero, List.set_cons_succ, i64_w, i32_w]
            rfl
          refine pure_ (i := 7) (N := some 59) (v := ?_) (a' := ?_) #[true, true, true, true, true, true, true, true, false, false, false, false, false] rfl rfl (by kernel_rfl) (fun _ _ _ h => h) (Or.inl ⟨by rfl, ?_⟩) ?_ ?_
          rotate_left
          · intro w'
            go_simp
            with_reducible rfl
          rotate_left
          · simp only [Act.put, List.setIfInBounds_toArray, List.set_cons_zero, List.set_cons_succ, i64_w, i32_w]
            rfl
          refine pure_ (i := 8) (N := some 60) (v := ?_) (a' := ?_) #[true, true, true, true, true, true, true, true, true, false, false, false, false] rfl rfl (by kernel_rfl) (fun _ _ _ h => h) (Or.inl ⟨by rfl, ?_⟩) ?_ ?_
          rotate_left
          · intro w'
            go_simp
            with_reducible rfl
          rotate_left
          · simp only [Act.put, List.setIfInBounds_toArray, List.set_cons_zero, List.set_cons_succ, i64_w, i32_w]
            rfl
          refine pure_ (i := 9) (N := some 61) (v := ?_) (a' := ?_) #[true, true, true, true, true, true, true, true, true, true, false, false, false] rfl rfl (by kernel_rfl) (fun _ _ _ h => h) (Or.inl ⟨by rfl, ?_⟩) ?_ ?_
          rotate_left
          · intro w'
            go_simp
            with_reducible rfl
          rotate_left
          · simp only [Act.put, List.setIfInBounds_toArray, List.set_cons_zero, List.set_cons_succ, i64_w, i32_w]
            rfl
          refine take_ (i := 10) (N := some 62) (v := ?_) (a' := ?_) #[true, true, true, true, true, true, true, true, true, true, true, false, false] rfl rfl (by kernel_rfl) (fun _ _ _ h => h) (Or.inl ⟨by rfl, ?_⟩) hHeld ?_ ?_
          rotate_left
          · rintro w' hS
            obtain ⟨y0, y1, y2⟩ := HS0.out w' hS
            go_simp
            with_reducible rfl
          rotate_left
          · simp only [Act.put, List.setIfInBounds_toArray, List.set_cons_zero, List.set_cons_succ, i64_w, i32_w]
            rfl
          refine one_ (i := 11) (N := some 63) #[true, true, true, true, true, true, true, true, true, true, true, true, false] rfl rfl (by kernel_rfl) (by decide) (fun K hK => ?_)
          refine goes_ (f := 10) Try.func10 (by kernel_rfl) rfl #[(.pointer (some ⟨p, 0, none⟩)), .int .i64 x.f1, .string x.f2] (by rfl) rfl rfl (by first | rfl | (simp [Act.eval]; done)) ?_
          refine (LD_Write (stay_own _ _ _ _ _ (stay_own _ _ _ _ _ stay_non)) HQ.out HL.out x.f1 x.f2 rr d2 HW2.out).mono ?_
          rintro e w3 ⟨rfl, hq⟩
          refine ⟨_, rfl, ?_⟩
          have HQ2 := Aside0.mk hq
          clear hq HQ
          have HQ := HQ2
          clear HQ2
          refine hK.out _ _ HQ.out.below (fun hHeld2 => ?_)
          clear hK K hHeld
          have hHeld := hHeld2
          clear hHeld2
          refine norm_ (a' := ?_) ?_ ?_
          rotate_left
          · show Act.put _ (some 63) _ = _
            simp only [Act.put, List.setIfInBounds_toArray, List.set_cons_zero, List.set_cons_succ, i64_w, i32_w]
            rfl
          refine pure_ (i := 12) (N := some 11) (v := ?_) (a' := ?_) #[true, true, true, true, true, true, true, true, true, true, true, true, true] rfl rfl (by kernel_rfl) (fun _ _ _ h => h) (Or.inl ⟨by rfl, ?_⟩) ?_ ?_
          rotate_left
          · intro w'
            go_simp
            with_reducible rfl
          rotate_left
          · simp only [Act.put, List.setIfInBounds_toArray, List.set_cons_zero, List.set_cons_succ, i64_w, i32_w]
            rfl
          refine done_ (by kernel_rfl) ?_
          clear hHeld
          obtain ⟨s0, s1, s2⟩ := HS0.out _ HQ.out.below
          subst hrr hd2
          go_wp2
          have n1_ := Aside0.mk (LD.step_below (stay_own _ _ _ _ _ (stay_own _ _ _ _ _ stay_non)) HQ.out (below_drew1 (Below.refl _ _)))
          clear HQ
          have HQ := n1_
          clear n1_
          (try clear s0 s1 s2)
          refine start_ (n := 18) (S := fun w' => Below w.heap.size w w') (ds := []) #[false, false, false, false, false, false, false, false, false, false, false, false, false, false, false, false, false, false] (by kernel_rfl) rfl rfl HQ.out.below (fun hHeld => ?_)
          generalize w3.drew = wq at HQ hHeld ⊢
          refine pure_ (i := 0) (N := some 93) (v := ?_) (a' := ?_) #[true, false, false, false, false, false, false, false, false, false, false, false, false, false, false, false, false, false] rfl rfl (by kernel_rfl) (fun _ _ _ h => h) (Or.inl ⟨by rfl, ?_⟩) ?_ ?_
          rotate_left
          · intro w'
            go_simp
            with_reducible rfl
          rotate_left
          · simp only [Act.put, List.setIfInBounds_toArray, List.set_cons_zero, List.set_cons_succ, i64_w, i32_w]
            rfl
          refine pure_ (i := 1) (N := some 94) (v := ?_) (a' := ?_) #[true, true, false, false, false, false, false, false, false, false, false, false, false, false, false, false, false, false] rfl rfl (by kernel_rfl) (fun _ _ _ h => h) (Or.inl ⟨by rfl, ?_⟩) ?_ ?_
          rotate_left
          · intro w'
            go_simp
            with_reducible rfl
          rotate_left
          · simp only [Act.put, List.setIfInBounds_toArray, List.set_cons_zero, List.set_cons_succ, i64_w, i32_w]
            rfl
          refine pure_ (i := 2) (N := some 95) (v := ?_) (a' := ?_) #[true, true, true, false, false, false, false, false, false, false, false, false, false, false, false, false, false, false] rfl rfl (by kernel_rfl) (fun _ _ _ h => h) (Or.inl ⟨by rfl, ?_⟩) ?_ ?_
          rotate_left
          · intro w'
            go_simp
            with_reducible rfl
          rotate_left
          · simp only [Act.put, List.setIfInBounds_toArray, List.set_cons_zero, List.set_cons_succ, i64_w, i32_w]
            rfl
          refine pure_ (i := 3) (N := some 96) (v := ?_) (a' := ?_) #[true, true, true, true, false, false, false, false, false, false, false, false, false, false, false, false, false, false] rfl rfl (by kernel_rfl) (fun _ _ _ h => h) (Or.inl ⟨by rfl, ?_⟩) ?_ ?_
          rotate_left
          · intro w'
            go_simp
            with_reducible rfl
          rotate_left
          · simp only [Act.put, List.setIfInBounds_toArray, List.set_cons_zero, List.set_cons_succ, i64_w, i32_w]
            rfl
          refine pure_ (i := 4) (N := some 97) (v := ?_) (a' := ?_) #[true, true, true, true, true, false, false, false, false, false, false, false, false, false, false, false, false, false] rfl rfl (by kernel_rfl) (fun _ _ _ h => h) (Or.inl ⟨by rfl, ?_⟩) ?_ ?_
          rotate_left
          · intro w'
            go_simp
            with_reducible rfl
          rotate_left
          · simp only [Act.put, List.setIfInBounds_toArray, List.set_cons_zero, List.set_cons_succ, i64_w, i32_w]
            rfl
          refine take_ (i := 5) (N := some 98) (v := ?_) (a' := ?_) #[true, true, true, true, true, true, false, false, false, false, false, false, false, false, false, false, false, false] rfl rfl (by kernel_rfl) (fun _ _ _ h => h) (Or.inl ⟨by rfl, ?_⟩) hHeld ?_ ?_
          rotate_left
          · rintro w' hS
            obtain ⟨y0, y1, y2⟩ := HS0.out w' hS
            go_simp
            with_reducible rfl
          rotate_left
          · simp only [Act.put, List.setIfInBounds_toArray, List.set_cons_zero, List.set_cons_succ, i64_w, i32_w]
            rfl
          refine pure_ (i := 8) (N := some 101) (v := ?_) (a' := ?_) #[true, true, true, true, true, true, false, false, true, false, false, false, false, false, false, false, false, false] rfl rfl (by kernel_rfl) (fun _ _ _ h => h) (Or.inl ⟨by rfl, ?_⟩) ?_ ?_
          rotate_left
          · intro w'
            go_simp
            with_reducible rfl
          rotate_left
          · simp only [Act.put, List.setIfInBounds_toArray, List.set_cons_zero, List.set_cons_succ, i64_w, i32_w]
            rfl
          refine pure_ (i := 9) (N := some 102) (v := ?_) (a' := ?_) #[true, true, true, true, true, true, false, false, true, true, false, false, false, false, false, false, false, false] rfl rfl (by kernel_rfl) (fun _ _ _ h => h) (Or.inl ⟨by rfl, ?_⟩) ?_ ?_
          rotate_left
          · intro w'
            go_simp
            with_reducible rfl
          rotate_left
          · simp only [Act.put, List.setIfInBounds_toArray, List.set_cons_zero, List.set_cons_succ, i64_w, i32_w]
            rfl
          refine pure_ (i := 10) (N := some 103) (v := ?_) (a' := ?_) #[true, true, true, true, true, true, false, false, true, true, true, false, false, false, false, false, false, false] rfl rfl (by kernel_rfl) (fun _ _ _ h => h) (Or.inl ⟨by rfl, ?_⟩) ?_ ?_
          rotate_left
          · intro w'
            go_simp
            with_reducible rfl
          rotate_left
          · simp only [Act.put, List.setIfInBounds_toArray, List.set_cons_zero, List.set_cons_succ, i64_w, i32_w]
            rfl
          refine pure_ (i := 11) (N := some 104) (v := ?_) (a' := ?_) #[true, true, true, true, true, true, false, false, true, true, true, true, false, false, false, false, false, false] rfl rfl (by kernel_rfl) (fun _ _ _ h => h) (Or.inl ⟨by rfl, ?_⟩) ?_ ?_
          rotate_left
          · intro w'
            go_simp
            with_reducible rfl
          rotate_left
          · simp only [Act.put, List.setIfInBounds_toArray, List.set_cons_zero, List.set_cons_succ, i64_w, i32_w]
            rfl
          refine pure_ (i := 12) (N := some 105) (v := ?_) (a' := ?_) #[true, true, true, true, true, true, false, false, true, true, true, true, true, false, false, false, false, false] rfl rfl (by kernel_rfl) (fun _ _ _ h => h) (Or.inl ⟨by rfl, ?_⟩) ?_ ?_
          rotate_left
          · intro w'
            go_simp
            with_reducible rfl
          rotate_left
          · simp only [Act.put, List.setIfInBounds_toArray, List.set_cons_zero, List.set_cons_succ, i64_w, i32_w]
            rfl
          refine take_ (i := 13) (N := some 106) (v := ?_) (a' := ?_) #[true, true, true, true, true, true, false, false, true, true, true, true, true, true, false, false, false, false] rfl rfl (by kernel_rfl) (fun _ _ _ h => h) (Or.inl ⟨by rfl, ?_⟩) hHeld ?_ ?_
          rotate_left
          · rintro w' hS
            obtain ⟨y0, y1, y2⟩ := HS0.out w' hS
            go_simp
            with_reducible rfl
          rotate_left
          · simp only [Act.put, List.setIfInBounds_toArray, List.set_cons_zero, List.set_cons_succ, i64_w, i32_w]
            rfl
          refine join_ (σ := Nat × Value × Nat) 3 #[true, true, true, true, true, true, true, true, true, true, true, true, true, true, true, false, false, false] (fun s_ => [(99, .slice (some ⟨s_.1, 0, none⟩) 1 1), (100, s_.2.1), (107, .slice (some ⟨s_.2.2, 0, none⟩) 1 1)]) (fun s_ w' => LD (OwnK (Kd.int .i64) 3 w.heap.size s_.2.1 (al ++ [x.f1]) (AndT (OwnK Kd.string 9 w.heap.size u9 pl Non) s_.2.2 (.string x.f2) 9)) w w' (.pointer (some ⟨p, 0, none⟩)) (hist n (al ++ [x.f1]) (pl ++ [x.f2]))) ?_ ?_
          rotate_left
          · intro hCont
            refine two_ (i := 6) (j := 14) (Ni := some 99) (Nj := some 107) #[true, true, true, true, true, true, true, false, true, true, true, true, true, true, false, false, false, false] #[true, true, true, true, true, true, false, false, true, true, true, true, true, true, true, false, false, false] rfl rfl rfl rfl (by kernel_rfl) (by decide) (by decide) (fun K hK => ?_) (fun K hK => ?_)
            · skip
              refine value_ (v := .slice (some ⟨wq.heap.size, 0, none⟩) 1 1) (w1 := wq.alloc (.cells #[.int .i64 x.f1] 3 (0, 0))) (by rfl) rfl ?_ ?_
              · go_simp
              have hbA := new_cell wq (.cells #[.int .i64 x.f1] 3 (0, 0))
              have hbbA := below_alloc (Below.refl wq.heap.size wq) (.cells #[.int .i64 x.f1] 3 (0, 0))
              generalize wq.alloc (.cells #[.int .i64 x.f1] 3 (0, 0)) = wA at hbA hbbA ⊢
              obtain ⟨g99, hg99⟩ : ∃ g, g = wq.heap.size := ⟨_, rfl⟩
              rw [← hg99] at hbA ⊢
              have HQa := Aside0.mk (LD.step_below (stay_own _ _ _ _ _ (stay_own _ _ _ _ _ stay_non)) HQ.out hbbA)
              have HT1 := Aside0.mk hbA
              clear hbA hbbA
              refine hK.out _ _ HQa.out.below (fun hHeld2 => ?_)
              clear hK K
              refine norm_ (a' := ?_) ?_ ?_
              rotate_left
              · show Act.put _ (some 99) _ = _
                simp only [Act.put, List.setIfInBounds_toArray, List.set_cons_zero, List.set_cons_succ, i64_w, i32_w]
                rfl
              refine two_ (i := 7) (j := 14) (Ni := some 100) (Nj := some 107) #[true, true, true, true, true, true, true, true, true, true, true, true, true, true, false, false, false, false] #[true, true, true, true, true, true, true, false, true, true, true, true, true, true, true, false, false, false] rfl rfl rfl rfl (by kernel_rfl) (by decide) (by decide) (fun K hK => ?_) (fun K hK => ?_)
              · skip
                refine LD.append (stay_own _ _ _ _ _ stay_non) (Kd.int .i64) HQa.out (by rfl) (.tmp 93) (.tmp 99) 34 (.int .i64 0) 8 rfl Try.underlying34 info3h rfl (by decide) (by omega) (Rr := fun q cs => cs = [Value.int .i64 q]) g99 x.f1 rfl rfl (read_one (enc := Value.int .i64) HT1.out) (fun q cs h => h) (by have := HI.out.le; have := HX.out.2.2; omega) ?_
                intro z8 wB hqB hbB
                have HQb := Aside0.mk hqB
                clear hqB
                refine hK.out _ _ HQb.out.below (fun hHeld2 => ?_)
                clear hK K
                refine norm_ (a' := ?_) ?_ ?_
                rotate_left
                · show Act.put _ (some 100) _ = _
                  simp only [Act.put, List.setIfInBounds_toArray, List.set_cons_zero, List.set_cons_succ, i64_w, i32_w]
                  rfl
                refine one_ (i := 14) (N := some 107) #[true, true, true, true, true, true, true, true, true, true, true, true, true, true, true, false, false, false] rfl rfl (by kernel_rfl) (by decide) (fun K hK => ?_)
                refine value_ (v := .slice (some ⟨wB.heap.size, 0, none⟩) 1 1) (w1 := wB.alloc (.cells #[.string x.f2] 9 (0, 0))) (by rfl) rfl ?_ ?_
                · go_simp
                have hbC := new_cell wB (.cells #[.string x.f2] 9 (0, 0))
                have hbbC := below_alloc (Below.refl wB.heap.size wB) (.cells #[.string x.f2] 9 (0, 0))
                generalize wB.alloc (.cells #[.string x.f2] 9 (0, 0)) = wC at hbC hbbC ⊢
                obtain ⟨g107, hg107⟩ : ∃ g, g = wB.heap.size := ⟨_, rfl⟩
                rw [← hg107] at hbC ⊢
                have HQc := Aside0.mk (LD.allocT (stay_own _ _ _ _ _ (stay_own _ _ _ _ _ stay_non)) HQb.out hbbC hg107 hbC)
                have HQz := Aside0.mk (LD.inT (stay_own _ _ _ _ _ stay_non) HQc.out)
                clear hbC hbbC
                refine hK.out _ _ HQz.out.below (fun hHeld2 => ?_)
                clear hK K
                refine norm_ (a' := ?_) ?_ ?_
                rotate_left
                · show Act.put _ (some 107) _ = _
                  simp only [Act.put, List.setIfInBounds_toArray, List.set_cons_zero, List.set_cons_succ, i64_w, i32_w]
                  rfl
                exact norm_ (by simp only [putAll, Act.put, List.setIfInBounds_toArray, List.set_cons_zero, List.set_cons_succ]) (hCont (g99, z8, g107) _ HQz.out)
              · skip
                refine value_ (v := .slice (some ⟨wA.heap.size, 0, none⟩) 1 1) (w1 := wA.alloc (.cells #[.string x.f2] 9 (0, 0))) (by rfl) rfl ?_ ?_
                · go_simp
                have hbC := new_cell wA (.cells #[.string x.f2] 9 (0, 0))
                have hbbC := below_alloc (Below.refl wA.heap.size wA) (.cells #[.string x.f2] 9 (0, 0))
                generalize wA.alloc (.cells #[.string x.f2] 9 (0, 0)) = wC at hbC hbbC ⊢
                obtain ⟨g107, hg107⟩ : ∃ g, g = wA.heap.size := ⟨_, rfl⟩
                rw [← hg107] at hbC ⊢
                have HT2 := Aside0.mk (blk_below HT1.out hbbC)
                have HQc := Aside0.mk (LD.allocT (stay_own _ _ _ _ _ (stay_own _ _ _ _ _ stay_non)) HQa.out hbbC hg107 hbC)
                have HQd := Aside0.mk (LD.inT (stay_own _ _ _ _ _ stay_non) HQc.out)
                clear HT1
                have HT1 := HT2
                clear hbC hbbC HT2
                refine hK.out _ _ HQd.out.below (fun hHeld2 => ?_)
                clear hK K
                refine norm_ (a' := ?_) ?_ ?_
                rotate_left
                · show Act.put _ (some 107) _ = _
                  simp only [Act.put, List.setIfInBounds_toArray, List.set_cons_zero, List.set_cons_succ, i64_w, i32_w]
                  rfl
                refine one_ (i := 7) (N := some 100) #[true, true, true, true, true, true, true, true, true, true, true, true, true, true, true, false, false, false] rfl rfl (by kernel_rfl) (by decide) (fun K hK => ?_)
                refine LD.append (stay_andT (stay_own _ _ _ _ _ stay_non) _ _ _) (Kd.int .i64) HQd.out (by rfl) (.tmp 93) (.tmp 99) 34 (.int .i64 0) 8 rfl Try.underlying34 info3h rfl (by decide) (by omega) (Rr := fun q cs => cs = [Value.int .i64 q]) g99 x.f1 rfl rfl (read_one (enc := Value.int .i64) HT1.out) (fun q cs h => h) (by have := HI.out.le; have := HX.out.2.2; omega) ?_
                intro z8 wB hqB hbB
                have HQz := Aside0.mk hqB
                clear hqB
                refine hK.out _ _ HQz.out.below (fun hHeld2 => ?_)
                clear hK K
                refine norm_ (a' := ?_) ?_ ?_
                rotate_left
                · show Act.put _ (some 100) _ = _
                  simp only [Act.put, List.setIfInBounds_toArray, List.set_cons_zero, List.set_cons_succ, i64_w, i32_w]
                  rfl
                exact norm_ (by simp only [putAll, Act.put, List.setIfInBounds_toArray, List.set_cons_zero, List.set_cons_succ]) (hCont (g99, z8, g107) _ HQz.out)
            · skip
              refine value_ (v := .slice (some ⟨wq.heap.size, 0, none⟩) 1 1) (w1 := wq.alloc (.cells #[.string x.f2] 9 (0, 0))) (by rfl) rfl ?_ ?_
              · go_simp
              have hbC := new_cell wq (.cells #[.string x.f2] 9 (0, 0))
              have hbbC := below_alloc (Below.refl wq.heap.size wq) (.cells #[.string x.f2] 9 (0, 0))
              generalize wq.alloc (.cells #[.string x.f2] 9 (0, 0)) = wC at hbC hbbC ⊢
              obtain ⟨g107, hg107⟩ : ∃ g, g = wq.heap.size := ⟨_, rfl⟩
              rw [← hg107] at hbC ⊢
              have HQc := Aside0.mk (LD.allocT (stay_own _ _ _ _ _ (stay_own _ _ _ _ _ stay_non)) HQ.out hbbC hg107 hbC)
              have HQb := Aside0.mk (LD.inT (stay_own _ _ _ _ _ stay_non) HQc.out)
              clear hbC hbbC
              refine hK.out _ _ HQb.out.below (fun hHeld2 => ?_)
              clear hK K
              refine norm_ (a' := ?_) ?_ ?_
              rotate_left
              · show Act.put _ (some 107) _ = _
                simp only [Act.put, List.setIfInBounds_toArray, List.set_cons_zero, List.set_cons_succ, i64_w, i32_w]
                rfl
              refine one_ (i := 6) (N := some 99) #[true, true, true, true, true, true, true, false, true, true, true, true, true, true, true, false, false, false] rfl rfl (by kernel_rfl) (by decide) (fun K hK => ?_)
              refine value_ (v := .slice (some ⟨wC.heap.size, 0, none⟩) 1 1) (w1 := wC.alloc (.cells #[.int .i64 x.f1] 3 (0, 0))) (by rfl) rfl ?_ ?_
              · go_simp
              have hbA := new_cell wC (.cells #[.int .i64 x.f1] 3 (0, 0))
              have hbbA := below_alloc (Below.refl wC.heap.size wC) (.cells #[.int .i64 x.f1] 3 (0, 0))
              generalize wC.alloc (.cells #[.int .i64 x.f1] 3 (0, 0)) = wA at hbA hbbA ⊢
              obtain ⟨g99, hg99⟩ : ∃ g, g = wC.heap.size := ⟨_, rfl⟩
              rw [← hg99] at hbA ⊢
              have HQd := Aside0.mk (LD.step_below (stay_own _ _ _ _ _ (stay_andT (stay_own _ _ _ _ _ stay_non) _ _ _)) HQb.out hbbA)
              have HT1 := Aside0.mk hbA
              clear hbA hbbA
              refine hK.out _ _ HQd.out.below (fun hHeld2 => ?_)
              clear hK K
              refine norm_ (a' := ?_) ?_ ?_
              rotate_left
              · show Act.put _ (some 99) _ = _
                simp only [Act.put, List.setIfInBounds_toArray, List.set_cons_zero, List.set_cons_succ, i64_w, i32_w]
                rfl
              refine one_ (i := 7) (N := some 100) #[true, true, true, true, true, true, true, true, true, true, true, true, true, true, true, false, false, false] rfl rfl (by kernel_rfl) (by decide) (fun K hK => ?_)
              refine LD.append (stay_andT (stay_own _ _ _ _ _ stay_non) _ _ _) (Kd.int .i64) HQd.out (by rfl) (.tmp 93) (.tmp 99) 34 (.int .i64 0) 8 rfl Try.underlying34 info3h rfl (by decide) (by omega) (Rr := fun q cs => cs = [Value.int .i64 q]) g99 x.f1 rfl rfl (read_one (enc := Value.int .i64) HT1.out) (fun q cs h => h) (by have := HI.out.le; have := HX.out.2.2; omega) ?_
              intro z8 wB hqB hbB
              have HQz := Aside0.mk hqB
              clear hqB
              refine hK.out _ _ HQz.out.below (fun hHeld2 => ?_)
              clear hK K
              refine norm_ (a' := ?_) ?_ ?_
              rotate_left
              · show Act.put _ (some 100) _ = _
                simp only [Act.put, List.setIfInBounds_toArray, List.set_cons_zero, List.set_cons_succ, i64_w, i32_w]
                rfl
              exact norm_ (by simp only [putAll, Act.put, List.setIfInBounds_toArray, List.set_cons_zero, List.set_cons_succ]) (hCont (g99, z8, g107) _ HQz.out)
          rintro ⟨g99, z8, g107⟩ w5 hq
          dsimp only at hq
          have HQ5 := Aside0.mk hq
          clear hq HQ
          have HT2 := Aside0.mk (LD.cellT2 HQ5.out)
          have HQ6 := Aside0.mk (LD.swapK stay_non (LD.outT (stay_own _ _ _ _ _ stay_non) HQ5.out))
          clear HQ5
          refine norm_ (a' := ?_) ?_ ?_
          rotate_left
          · simp only [putAll, Act.put, List.setIfInBounds_toArray, List.set_cons_zero, List.set_cons_succ]
            rfl
          refine one_ (i := 15) (N := some 108) #[true, true, true, true, true, true, true, true, true, true, true, true, true, true, true, true, false, false] rfl rfl (by kernel_rfl) (by decide) (fun K hK => ?_)
          refine LD.append (stay_own _ _ _ _ _ stay_non) Kd.string HQ6.out (by rfl) (.tmp 101) (.tmp 107) 33 (.string ⟨#[]⟩) 16 rfl Try.underlying33 info9h rfl (by decide) (by omega) (Rr := fun q cs => cs = [Value.string q]) g107 x.f2 rfl rfl (read_one (enc := Value.string) HT2.out) (fun q cs h => h) (by have := HI.out.le; have := HI.out.len; have := HX.out.2.2; omega) ?_
          intro z9 w6 hq hb6
          have HQ7 := Aside0.mk (LD.swapK stay_non hq)
          clear hq HQ6 HT2 hb6
          refine hK.out _ _ HQ7.out.below (fun hHeld => ?_)
          clear hK K
          refine norm_ (a' := ?_) ?_ ?_
          rotate_left
          · show Act.put _ (some 108) _ = _
            simp only [Act.put, List.setIfInBounds_toArray, List.set_cons_zero, List.set_cons_succ, i64_w, i32_w]
            rfl
          refine pure_ (i := 16) (N := some 8) (v := ?_) (a' := ?_) #[true, true, true, true, true, true, true, true, true, true, true, true, true, true, true, true, true, false] rfl rfl (by kernel_rfl) (fun _ _ _ h => h) (Or.inl ⟨by rfl, ?_⟩) ?_ ?_
          rotate_left
          · intro w'
            go_simp
            with_reducible rfl
          rotate_left
          · simp only [Act.put, List.setIfInBounds_toArray, List.set_cons_zero, List.set_cons_succ, i64_w, i32_w]
            rfl
          refine pure_ (i := 17) (N := some 9) (v := ?_) (a' := ?_) #[true, true, true, true, true, true, true, true, true, true, true, true, true, true, true, true, true, true] rfl rfl (by kernel_rfl) (fun _ _ _ h => h) (Or.inl ⟨by rfl, ?_⟩) ?_ ?_
          rotate_left
          · intro w'
            go_simp
            with_reducible rfl
          rotate_left
          · simp only [Act.put, List.setIfInBounds_toArray, List.set_cons_zero, List.set_cons_succ, i64_w, i32_w]
            rfl
          refine done_ (by kernel_rfl) ?_
          clear hHeld
          go_wp2
          go_roundg (l0.length - (k + 1))
          case measure => omega
          case rel => exact ⟨k + 1, _, _, by have := HX.out.2; congr 1; unfold wrap64; omega, by omega, HQ7.out, HI2.out⟩
        · obtain ⟨rr, hrr, hww⟩ := hist_err (al := al) (pl := pl) cc
          have HW2 := Aside0.mk hww
          obtain ⟨d2, hd2⟩ : ∃ d2, d2 = hist n al pl := ⟨_, rfl⟩
          have er : (rr == 0) = false := beq_eq_false_iff_ne.mpr hrr
          have HI2 := Aside0.mk (HI.out.mono (Nat.le_succ k))
          clear hww hrr
          rw [show (rr, hist n al pl) = (rr, d2) by rw [hd2]] at HW2
          have n1_ := Aside0.mk (LD.step_below (stay_own _ _ _ _ _ (stay_own _ _ _ _ _ stay_non)) HQ.out (below_drew1 (Below.refl _ _)))
          clear HQ
          have HQ := n1_
          clear n1_
          (try clear s0 s1 s2)
          refine start_ (n := 13) (S := fun w' => Below w.heap.size w w') (ds := []) #[false, false, false, false, false, false, false, false, false, false, false, false, false] (by kernel_rfl) rfl rfl HQ.out.below (fun hHeld => ?_)
          refine pure_ (i := 0) (N := some 52) (v := ?_) (a' := ?_) #[true, false, false, false, false, false, false, false, false, false, false, false, false] rfl rfl (by kernel_rfl) (fun _ _ _ h => h) (Or.inl ⟨by rfl, ?_⟩) ?_ ?_
          rotate_left
          · intro w'
            go_simp
            with_reducible rfl
          rotate_left
          · simp only [Act.put, List.setIfInBounds_toArray, List.set_cons_zero, List.set_cons_succ, i64_w, i32_w]
            rfl
          refine pure_ (i := 1) (N := some 53) (v := ?_) (a' := ?_) #[true, true, false, false, false, false, false, false, false, false, false, false, false] rfl rfl (by kernel_rfl) (fun _ _ _ h => h) (Or.inl ⟨by rfl, ?_⟩) ?_ ?_
          rotate_left
          · intro w'
            go_simp
            with_reducible rfl
          rotate_left
          · simp only [Act.put, List.setIfInBounds_toArray, List.set_cons_zero, List.set_cons_succ, i64_w, i32_w]
            rfl
          refine pure_ (i := 2) (N := some 54) (v := ?_) (a' := ?_) #[true, true, true, false, false, false, false, false, false, false, false, false, false] rfl rfl (by kernel_rfl) (fun _ _ _ h => h) (Or.inl ⟨by rfl, ?_⟩) ?_ ?_
          rotate_left
          · intro w'
            go_simp
            with_reducible rfl
          rotate_left
          · simp only [Act.put, List.setIfInBounds_toArray, List.set_cons_zero, List.set_cons_succ, i64_w, i32_w]
            rfl
          refine pure_ (i := 3) (N := some 55) (v := ?_) (a' := ?_) #[true, true, true, true, false, false, false, false, false, false, false, false, false] rfl rfl (by kernel_rfl) (fun _ _ _ h => h) (Or.inl ⟨by rfl, ?_⟩) ?_ ?_
          rotate_left
          · intro w'
            go_simp
            with_reducible rfl
          rotate_left
          · simp only [Act.put, List.setIfInBounds_toArray, List.set_cons_zero, List.set_cons_succ, i64_w, i32_w]
            rfl
          refine pure_ (i := 4) (N := some 56) (v := ?_) (a' := ?_) #[true, true, true, true, true, false, false, false, false, false, false, false, false] rfl rfl (by kernel_rfl) (fun _ _ _ h => h) (Or.inl ⟨by rfl, ?_⟩) ?_ ?_
          rotate_left
          · intro w'
            go_simp
            with_reducible rfl
          rotate_left
          · simp only [Act.put, List.setIfInBounds_toArray, List.set_cons_zero, List.set_cons_succ, i64_w, i32_w]
            rfl
          refine take_ (i := 5) (N := some 57) (v := ?_) (a' := ?_) #[true, true, true, true, true, true, false, false, false, false, false, false, false] rfl rfl (by kernel_rfl) (fun _ _ _ h => h) (Or.inl ⟨by rfl, ?_⟩) hHeld ?_ ?_
          rotate_left
          · rintro w' hS
            obtain ⟨y0, y1, y2⟩ := HS0.out w' hS
            go_simp
            with_reducible rfl
          rotate_left
          · simp only [Act.put, List.setIfInBounds_toArray, List.set_cons_zero, List.set_cons_succ, i64_w, i32_w]
            rfl
          refine pure_ (i := 6) (N := some 58) (v := ?_) (a' := ?_) #[true, true, true, true, true, true, true, false, false, false, false, false, false] rfl rfl (by kernel_rfl) (fun _ _ _ h => h) (Or.inl ⟨by rfl, ?_⟩) ?_ ?_
          rotate_left
          · intro w'
            go_simp
            with_reducible rfl
          rotate_left
          · simp only [Act.put, List.setIfInBounds_toArray, List.set_cons_zero, List.set_cons_succ, i64_w, i32_w]
            rfl
          refine pure_ (i := 7) (N := some 59) (v := ?_) (a' := ?_) #[true, true, true, true, true, true, true, true, false, false, false, false, false] rfl rfl (by kernel_rfl) (fun _ _ _ h => h) (Or.inl ⟨by rfl, ?_⟩) ?_ ?_
          rotate_left
          · intro w'
            go_simp
            with_reducible rfl
          rotate_left
          · simp only [Act.put, List.setIfInBounds_toArray, List.set_cons_zero, List.set_cons_succ, i64_w, i32_w]
            rfl
          refine pure_ (i := 8) (N := some 60) (v := ?_) (a' := ?_) #[true, true, true, true, true, true, true, true, true, false, false, false, false] rfl rfl (by kernel_rfl) (fun _ _ _ h => h) (Or.inl ⟨by rfl, ?_⟩) ?_ ?_
          rotate_left
          · intro w'
            go_simp
            with_reducible rfl
          rotate_left
          · simp only [Act.put, List.setIfInBounds_toArray, List.set_cons_zero, List.set_cons_succ, i64_w, i32_w]
            rfl
          refine pure_ (i := 9) (N := some 61) (v := ?_) (a' := ?_) #[true, true, true, true, true, true, true, true, true, true, false, false, false] rfl rfl (by kernel_rfl) (fun _ _ _ h => h) (Or.inl ⟨by rfl, ?_⟩) ?_ ?_
          rotate_left
          · intro w'
            go_simp
            with_reducible rfl
          rotate_left
          · simp only [Act.put, List.setIfInBounds_toArray, List.set_cons_zero, List.set_cons_succ, i64_w, i32_w]
            rfl
          refine take_ (i := 10) (N := some 62) (v := ?_) (a' := ?_) #[true, true, true, true, true, true, true, true, true, true, true, false, false] rfl rfl (by kernel_rfl) (fun _ _ _ h => h) (Or.inl ⟨by rfl, ?_⟩) hHeld ?_ ?_
          rotate_left
          · rintro w' hS
            obtain ⟨y0, y1, y2⟩ := HS0.out w' hS
            go_simp
            with_reducible rfl
          rotate_left
          · simp only [Act.put, List.setIfInBounds_toArray, List.set_cons_zero, List.set_cons_succ, i64_w, i32_w]
            rfl
          refine one_ (i := 11) (N := some 63) #[true, true, true, true, true, true, true, true, true, true, true, true, false] rfl rfl (by kernel_rfl) (by decide) (fun K hK => ?_)
          refine goes_ (f := 10) Try.func10 (by kernel_rfl) rfl #[(.pointer (some ⟨p, 0, none⟩)), .int .i64 x.f1, .string x.f2] (by rfl) rfl rfl (by first | rfl | (simp [Act.eval]; done)) ?_
          refine (LD_Write (stay_own _ _ _ _ _ (stay_own _ _ _ _ _ stay_non)) HQ.out HL.out x.f1 x.f2 rr d2 HW2.out).mono ?_
          rintro e w3 ⟨rfl, hq⟩
          refine ⟨_, rfl, ?_⟩
          have HQ2 := Aside0.mk hq
          clear hq HQ
          have HQ := HQ2
          clear HQ2
          refine hK.out _ _ HQ.out.below (fun hHeld2 => ?_)
          clear hK K hHeld
          have hHeld := hHeld2
          clear hHeld2
          refine norm_ (a' := ?_) ?_ ?_
          rotate_left
          · show Act.put _ (some 63) _ = _
            simp only [Act.put, List.setIfInBounds_toArray, List.set_cons_zero, List.set_cons_succ, i64_w, i32_w]
            rfl
          refine pure_ (i := 12) (N := some 11) (v := ?_) (a' := ?_) #[true, true, true, true, true, true, true, true, true, true, true, true, true] rfl rfl (by kernel_rfl) (fun _ _ _ h => h) (Or.inl ⟨by rfl, ?_⟩) ?_ ?_
          rotate_left
          · intro w'
            go_simp
            with_reducible rfl
          rotate_left
          · simp only [Act.put, List.setIfInBounds_toArray, List.set_cons_zero, List.set_cons_succ, i64_w, i32_w]
            rfl
          refine done_ (by kernel_rfl) ?_
          clear hHeld
          obtain ⟨s0, s1, s2⟩ := HS0.out _ HQ.out.below
          subst hd2
          by_cases e1' : x.f1 ≥ 0
          · have e1 : decide (x.f1 ≥ 0) = true := decide_eq_true e1'
            by_cases e2' : x.f1 < (n : Int)
            · have e2 : decide (x.f1 < (n : Int)) = true := decide_eq_true e2'
              have e3 : decide ((x.f2.size : Int) ≤ 64) = false := decide_eq_false (by omega)
              clear cc e1' e2'
              go_wp2
              go_roundg (l0.length - (k + 1))
              case measure => omega
              case rel => exact ⟨k + 1, _, _, by have := HX.out.2; congr 1; unfold wrap64; omega, by omega, HQ.out, HI2.out⟩
            · have e2 : decide (x.f1 < (n : Int)) = false := decide_eq_false e2'
              clear cc e1' e2'
              go_wp2
              go_roundg (l0.length - (k + 1))
              case measure => omega
              case rel => exact ⟨k + 1, _, _, by have := HX.out.2; congr 1; unfold wrap64; omega, by omega, HQ.out, HI2.out⟩
          · have e1 : decide (x.f1 ≥ 0) = false := decide_eq_false e1'
            clear cc e1'
            go_wp2
            go_roundg (l0.length - (k + 1))
            case measure => omega
            case rel => exact ⟨k + 1, _, _, by have := HX.out.2; congr 1; unfold wrap64; omega, by omega, HQ.out, HI2.out⟩
    · have hkb : decide ((k : Int) < (l0.length : Int)) = false := decide_eq_false (by omega)
      have HK := Aside0.mk (show k ≤ l0.length from by omega)
      clear hkg
      obtain ⟨ok8, hr8⟩ := LD.rowK HQ.out
      obtain ⟨A8, c8, e8⟩ := Kd.R_slice hr8
      clear hr8
      subst e8
      obtain ⟨ok9, hr9⟩ := LD.rowK2 HQ.out
      obtain ⟨A9, c9, e9⟩ := Kd.R_slice hr9
      clear hr9
      subst e9
      obtain ⟨dh, hdh⟩ : ∃ dh, dh = hist n al pl := ⟨_, rfl⟩
      obtain ⟨dx, hdx⟩ : ∃ dx, dx = dvAfter (hist n al pl) q := ⟨_, rfl⟩
      have HL1 := Aside0.mk (show (dh.log.length : Int) = al.length from by rw [hdh]; show ((lg al pl).length : Int) = _; rw [lg_length HI.out.len])
      have HLH := HL1
      have HL2 := Aside0.mk (show (dx.log.length : Int) = 0 from by rw [hdx]; rfl)
      have HL3 := Aside0.mk (show (dx.now.length : Int) = n from by rw [hdx]; simp [dvAfter, hist, play_length])
      have HDX := Aside0.mk (show dx = dvAfter dh q from by rw [hdx, hdh])
      have HRN := Aside0.mk (show ∀ i : Nat, i < n → dvRead dh i = (padB (lastS al pl i al.length), 0) from by rw [hdh]; exact read_now HI.out)
      have HRT := Aside0.mk (show ∀ i : Nat, i < n → dvRead dx i = (padB (lastS al pl i (kUp q al.length)), 0) from by rw [hdx]; exact read_then HI.out q)
      have HRA := Aside0.mk (show ∀ i : Int, dvRead (dvAfter dh (al.length : Int)) i = dvRead dh i from by rw [hdh]; exact after_all HI.out)
      have HOW := Aside0.mk (show ∃ d2, dvWrite dx 0 ⟨#[111, 116, 104, 101, 114]⟩ = (0, d2) ∧ d2.log.length = 1 from by rw [hdx]; exact other_write HI.out HX.out.1.1 q _ (by decide))
      rw [← hdh] at HQ
      clear hdh hdx
      have HQ2 := HQ
      clear HQ
      go_wp2_with (first
        | (go_at_call 12; with_reducible refine (LD_Writes HQ2.out _ HL1.out).mono ?_; rintro e w2 ⟨rfl, nq, rfl⟩; have HQ3 := Aside0.mk (LD.drewN (stay_own _ _ _ _ _ (stay_own _ _ _ _ _ stay_non)) HQ2.out nq); clear HQ2 HL1)
        | (go_at_call 11; with_reducible refine (LD_After2 (stay_own _ _ _ _ _ (stay_own _ _ _ _ _ stay_non)) HQ3.out q).mono ?_; rintro e w3 ⟨p2, rfl, hq⟩; have HQ4 := Aside0.mk (LD.turn (stay_own _ _ _ _ _ (stay_own _ _ _ _ _ stay_non)) hq); clear hq HQ3; rw [← HDX.out] at HQ4)
        | (go_at_call 12; with_reducible refine (LD_Writes HQ4.out _ HL2.out).mono ?_; rintro e w2 ⟨rfl, nq2, rfl⟩; have HQ5 := Aside0.mk (LD.drewN (stay_dev2 (stay_own _ _ _ _ _ (stay_own _ _ _ _ _ stay_non)) _ _ _) HQ4.out nq2); clear HQ4 HL2)
        | (go_at_call 20; with_reducible refine (LD_Blocks HQ5.out _ HL3.out).mono ?_; rintro e w2 ⟨rfl, nq3, rfl⟩; have HQ6 := Aside0.mk (LD.drewN (stay_dev2 (stay_own _ _ _ _ _ (stay_own _ _ _ _ _ stay_non)) _ _ _) HQ5.out nq3); clear HQ5 HL3))
      go_loopg [13] n (fun g v13 wr => ∃ i : Nat, v13 = .int .i64 (i : Int) ∧ i + g = n ∧ LD (Dev2 w.heap.size (.pointer (some ⟨p, 0, none⟩)) dh (OwnK (Kd.int .i64) 3 w.heap.size (.slice A8 al.length c8) al (OwnK Kd.string 9 w.heap.size (.slice A9 pl.length c9) pl Non))) w wr (.pointer (some ⟨p2, 0, none⟩)) dx)
      case atStart => exact ⟨0, rfl, by omega, by have h := HQ6.out; first | exact h | simpa using h⟩
      case round =>
        clear HQ6
        obtain ⟨i, rfl, hig, hq⟩ := hrel
        have HQ := Aside0.mk hq
        clear hq
        by_cases hi : i < n
        · have hib : decide ((i : Int) < (n : Int)) = true := decide_eq_true (by omega)
          have HI1 := Aside0.mk hi
          go_wp2
          go_loopg [14, 15, 16] al.length (fun g v14 v15 v16 wr => ∃ j : Nat, v16 = .int .i64 (j : Int) ∧ j + g = al.length ∧ v14 = .string (lastS al pl i (kUp q j)) ∧ v15 = .string (lastS al pl i j) ∧ LD (Dev2 w.heap.size (.pointer (some ⟨p, 0, none⟩)) dh (OwnK (Kd.int .i64) 3 w.heap.size (.slice A8 al.length c8) al (OwnK Kd.string 9 w.heap.size (.slice A9 pl.length c9) pl Non))) w wr (.pointer (some ⟨p2, 0, none⟩)) dx)
          case atStart => exact ⟨0, rfl, by omega, by simp [kUp, lastS], rfl, HQ.out⟩
          case round =>
            clear HQ
            obtain ⟨j, rfl, hjg, rfl, rfl, hq⟩ := hrel
            have HQ := Aside0.mk hq
            clear hq
            by_cases hj : j < al.length
            · have hjb : decide ((j : Int) < (al.length : Int)) = true := decide_eq_true (by omega)
              have hj0 : (0 : Int) ≤ (j : Int) := Int.natCast_nonneg _
              have hj1 : (j : Int) < (al.length : Int) := by omega
              have hj2 : (j : Int) < (pl.length : Int) := by have := HI.out.len; omega
              obtain ⟨ok8, hr8⟩ := LD.rowD HQ.out
              obtain ⟨ad8, e8, t8⟩ := Kd.at_int (Kd.R_reads' hr8).2.2 (j : Int) hj0 hj1
              obtain ⟨ok9, hr9⟩ := LD.rowD2 HQ.out
              obtain ⟨ad9, e9, t9⟩ := Kd.at_string (Kd.R_reads' hr9).2.2 (j : Int) hj0 hj2
              clear hr8 hr9 ok8 ok9
              simp only [Int.toNat_natCast] at t8 t9
              subst e8
              subst e9
              have HS1 := Aside0.mk (show lastS al pl i (kUp q (j + 1)) = if rd al (j : Int) = i ∧ (j : Int) < q then rdOf ByteArray.empty pl (j : Int) else lastS al pl i (kUp q j) from last_step)
              have HS2 := Aside0.mk (show lastS al pl i (j + 1) = if rd al (j : Int) = i then rdOf ByteArray.empty pl (j : Int) else lastS al pl i j from rfl)
              generalize rd al (j : Int) = xa at t8 HS1 HS2
              generalize rdOf ByteArray.empty pl (j : Int) = xp at t9 HS1 HS2
              by_cases ea : xa = i
              · have eb : (xa == (i : Int)) = true := beq_iff_eq.mpr ea
                by_cases eq : (j : Int) < q
                · have eqb : decide ((j : Int) < q) = true := decide_eq_true eq
                  have HS3 := Aside0.mk (HS1.out.trans (if_pos ⟨ea, eq⟩))
                  have HS4 := Aside0.mk (HS2.out.trans (if_pos ea))
                  clear HS1 HS2 ea eq
                  go_wp2
                  go_roundg (al.length - (j + 1))
                  case measure => omega
                  case rel => exact ⟨j + 1, by have := HI.out.le; have := HX.out.2; have := HK.out; congr 1; unfold wrap64; omega, by omega, by rw [HS3.out], by rw [HS4.out], HQ.out⟩
                · have eqb : decide ((j : Int) < q) = false := decide_eq_false eq
                  have HS3 := Aside0.mk (HS1.out.trans (if_neg (fun h => eq h.2)))
                  have HS4 := Aside0.mk (HS2.out.trans (if_pos ea))
                  clear HS1 HS2 ea eq
                  go_wp2
                  go_roundg (al.length - (j + 1))
                  case measure => omega
                  case rel => exact ⟨j + 1, by have := HI.out.le; have := HX.out.2; have := HK.out; congr 1; unfold wrap64; omega, by omega, by rw [HS3.out], by rw [HS4.out], HQ.out⟩
              · have eb : (xa == (i : Int)) = false := beq_eq_false_iff_ne.mpr ea
                have HS3 := Aside0.mk (HS1.out.trans (if_neg (fun h => ea h.1)))
                have HS4 := Aside0.mk (HS2.out.trans (if_neg ea))
                clear HS1 HS2 ea
                go_wp2
                go_roundg (al.length - (j + 1))
                case measure => omega
                case rel => exact ⟨j + 1, by have := HI.out.le; have := HX.out.2; have := HK.out; congr 1; unfold wrap64; omega, by omega, by rw [HS3.out], by rw [HS4.out], HQ.out⟩
            · have hjb : decide ((j : Int) < (al.length : Int)) = false := decide_eq_false (by omega)
              obtain rfl : j = al.length := by omega
              clear hjg hj
              have HS1 := Aside0.mk (lastS_size HI.out i (kUp q al.length) (by unfold kUp; omega))
              have HS2 := Aside0.mk (lastS_size HI.out i al.length (Nat.le_refl _))
              have HA := Aside0.mk (HRT.out i HI1.out)
              have HB := Aside0.mk (HRN.out i HI1.out)
              generalize lastS al pl i (kUp q al.length) = s1 at HS1 HA ⊢
              generalize lastS al pl i al.length = s2 at HS2 HB ⊢
              have hp1 : s1 ++ (⟨Array.replicate (64 - s1.size) 0⟩ : ByteArray) = padB s1 := pad_made
              have hp2 : s2 ++ (⟨Array.replicate (64 - s2.size) 0⟩ : ByteArray) = padB s2 := pad_made
              generalize padB s1 = r1 at HA hp1
              generalize padB s2 = r2 at HB hp2
              obtain ⟨m1, hm1⟩ : ∃ m1, m1 = 64 - s1.size := ⟨_, rfl⟩
              obtain ⟨m2, hm2⟩ : ∃ m2, m2 = 64 - s2.size := ⟨_, rfl⟩
              rw [← hm1] at hp1
              rw [← hm2] at hp2
              obtain ⟨z1, hz1⟩ : ∃ z1 : ByteArray, z1 = ⟨Array.replicate m1 0⟩ := ⟨_, rfl⟩
              obtain ⟨z2, hz2⟩ : ∃ z2 : ByteArray, z2 = ⟨Array.replicate m2 0⟩ := ⟨_, rfl⟩
              rw [← hz1] at hp1
              rw [← hz2] at hp2
              have HZ1 := Aside0.mk hz1
              have HZ2 := Aside0.mk hz2
              have HM1 := Aside0.mk (show (0 : Int) ≤ (m1 : Int) ∧ (m1 : Int) ≤ 64 from by omega)
              have HM2 := Aside0.mk (show (0 : Int) ≤ (m2 : Int) ∧ (m2 : Int) ≤ 64 from by omega)
              have k1 : wrap64 ((64 : Int) - (s1.size : Int)) = (m1 : Int) := by have := HS1.out; unfold wrap64; omega
              have k2 : wrap64 ((64 : Int) - (s2.size : Int)) = (m2 : Int) := by have := HS2.out; unfold wrap64; omega
              have k5 : (64 : Int) - (s1.size : Int) = (m1 : Int) := by have := HS1.out; omega
              have k6 : (64 : Int) - (s2.size : Int) = (m2 : Int) := by have := HS2.out; omega
              have k3 : ¬ (9223372036854775807 < s1.size + z1.size) := by rw [hz1]; have := HS1.out; show ¬ (9223372036854775807 < s1.size + (Array.replicate m1 (0 : UInt8)).size); rw [Array.size_replicate]; omega
              have k4 : ¬ (9223372036854775807 < s2.size + z2.size) := by rw [hz2]; have := HS2.out; show ¬ (9223372036854775807 < s2.size + (Array.replicate m2 (0 : UInt8)).size); rw [Array.size_replicate]; omega
              clear hz1 hz2 hm1 hm2
              have HSD := Aside0.mk (show Stay (Dev2 w.heap.size (.pointer (some ⟨p, 0, none⟩)) dh (OwnK (Kd.int .i64) 3 w.heap.size (.slice A8 al.length c8) al (OwnK Kd.string 9 w.heap.size (.slice A9 pl.length c9) pl Non))) from stay_dev2 (stay_own _ _ _ _ _ (stay_own _ _ _ _ _ stay_non)) _ _ _)
              have HSE := Aside0.mk (show Stay (Dev2 w.heap.size (.pointer (some ⟨p2, 0, none⟩)) dx (OwnK (Kd.int .i64) 3 w.heap.size (.slice A8 al.length c8) al (OwnK Kd.string 9 w.heap.size (.slice A9 pl.length c9) pl Non))) from stay_dev2 (stay_own _ _ _ _ _ (stay_own _ _ _ _ _ stay_non)) _ _ _)
              go_wp2_with (first
                | (go_at_call 16; with_reducible refine (LD_Read HSD.out HQ.out i r1 0 HA.out).mono ?_; rintro e w4 ⟨rfl, nq, rfl⟩; have HQ1 := Aside0.mk (LD.turn (stay_own _ _ _ _ _ (stay_own _ _ _ _ _ stay_non)) (LD.drewN HSD.out HQ.out nq)); clear HQ HA)
                | (go_at_call 16; with_reducible refine (LD_Read HSE.out HQ1.out i r2 0 HB.out).mono ?_; rintro e w5 ⟨rfl, nq2, rfl⟩; have HQ2 : Aside0 (LD (Dev2 w.heap.size (.pointer (some ⟨p, 0, none⟩)) dh (OwnK (Kd.int .i64) 3 w.heap.size (.slice A8 al.length c8) al (OwnK Kd.string 9 w.heap.size (.slice A9 pl.length c9) pl Non))) w (wr.drewN (nq + nq2)) (.pointer (some ⟨p2, 0, none⟩)) dx) := Aside0.mk (by have h := LD.turn (stay_own _ _ _ _ _ (stay_own _ _ _ _ _ stay_non)) (LD.drewN HSE.out HQ1.out nq2); first | exact h | simpa using h); clear HQ1 HB)
                | ((with_reducible refine gate_dst (N := 190) rfl ?_); (refine gate_guard (by rfl) ?_; dsimp only); refine LD.zeros HSD.out HQ2.out rfl (N := 190) rfl (.tmp 189) rfl (m1 : Int) ?hx190 HM1.out.1 HM1.out.2 ?hk190; (case hx190 => first | (go_simp; done) | (go_simp; rfl)); (intro A7 c7 w7 hq hst190; have HQ3 := Aside0.mk hq; clear hq HQ2; simp only [Int.toNat_natCast, ← HZ1.out] at hst190))
                | ((with_reducible refine gate_dst (N := 201) rfl ?_); (refine gate_guard (by rfl) ?_; dsimp only); refine LD.zeros HSD.out HQ3.out rfl (N := 201) rfl (.tmp 200) rfl (m2 : Int) ?hx201 HM2.out.1 HM2.out.2 ?hk201; (case hx201 => first | (go_simp; done) | (go_simp; rfl)); (intro A7 c7 w7 hq hst201; have HQ4 := Aside0.mk hq; clear hq HQ3; simp only [Int.toNat_natCast, ← HZ2.out] at hst201)))
              go_roundg (n - (i + 1))
              case measure => omega
              case rel => exact ⟨i + 1, by have := HX.out.2; congr 1; unfold wrap64; omega, by omega, HQ4.out⟩
        · have hib : decide ((i : Int) < (n : Int)) = false := decide_eq_false (by omega)
          clear hig
          obtain ⟨d2, hw0, hl0⟩ := HOW.out
          obtain ⟨b0, hb0⟩ : ∃ b0, dvRead dh (0 : Int) = (b0, 0) := ⟨_, by have := HRN.out 0 HX.out.1.1; exact this⟩
          have HW := Aside0.mk hw0
          have HLx := Aside0.mk (show dx.log.length < 1000000 from by rw [HDX.out]; show (0 : Nat) < 1000000; omega)
          have HL2 := Aside0.mk (show (d2.log.length : Int) = 1 from by omega)
          have HL1 := Aside0.mk (show (dh.log.length : Int) = al.length from HLH.out)
          have HB0 := Aside0.mk hb0
          have HB1 := Aside0.mk ((HRA.out 0).trans hb0)
          have HSD := Aside0.mk (show Stay (Dev2 w.heap.size (.pointer (some ⟨p, 0, none⟩)) dh (OwnK (Kd.int .i64) 3 w.heap.size (.slice A8 al.length c8) al (OwnK Kd.string 9 w.heap.size (.slice A9 pl.length c9) pl Non))) from stay_dev2 (stay_own _ _ _ _ _ (stay_own _ _ _ _ _ stay_non)) _ _ _)
          have HSF := Aside0.mk (show Stay (Dev2 w.heap.size (.pointer (some ⟨p2, 0, none⟩)) d2 (OwnK (Kd.int .i64) 3 w.heap.size (.slice A8 al.length c8) al (OwnK Kd.string 9 w.heap.size (.slice A9 pl.length c9) pl Non))) from stay_dev2 (stay_own _ _ _ _ _ (stay_own _ _ _ _ _ stay_non)) _ _ _)
          clear hw0 hl0 hb0
          go_wp2_with (first
            | (go_at_call 10; with_reducible refine (LD_Write HSD.out HQ.out HLx.out 0 ⟨#[111, 116, 104, 101, 114]⟩ 0 d2 HW.out).mono ?_; rintro e w4 ⟨rfl, hq⟩; have HQ1 := Aside0.mk (LD.turn (stay_own _ _ _ _ _ (stay_own _ _ _ _ _ stay_non)) hq); clear hq HQ)
            | (go_at_call 16; with_reducible refine (LD_Read HSF.out HQ1.out 0 b0 0 HB0.out).mono ?_; rintro e w5 ⟨rfl, nq, rfl⟩; have HQ2 := Aside0.mk (LD.drewN HSF.out HQ1.out nq); clear HQ1 HB0)
            | (go_at_call 11; with_reducible refine (LD_After2 HSF.out HQ2.out (al.length : Int)).mono ?_; rintro e w6 ⟨p3, rfl, hq⟩; have HQ3 := Aside0.mk (LD.turn HSF.out hq); clear hq HQ2)
            | (go_at_call 16; with_reducible refine (LD_Read (stay_dev2 HSF.out _ _ _) HQ3.out 0 b0 0 HB1.out).mono ?_; rintro e w7 ⟨rfl, nq2, rfl⟩; have HQ4 := Aside0.mk (LD.drop HSF.out (LD.turn HSF.out (LD.drewN (stay_dev2 HSF.out _ _ _) HQ3.out nq2))); clear HQ3)
            | (go_at_call 12; with_reducible refine (LD_Writes HQ4.out _ HL1.out).mono ?_; rintro e w8 ⟨rfl, nq3, rfl⟩; have HQ5 : Aside0 (LD (Dev2 w.heap.size (.pointer (some ⟨p, 0, none⟩)) dh (OwnK (Kd.int .i64) 3 w.heap.size (.slice A8 al.length c8) al (OwnK Kd.string 9 w.heap.size (.slice A9 pl.length c9) pl Non))) w (w6.drewN (nq2 + nq3)) (.pointer (some ⟨p2, 0, none⟩)) d2) := Aside0.mk (by have h := LD.turn (stay_own _ _ _ _ _ (stay_own _ _ _ _ _ stay_non)) (LD.drewN HSF.out HQ4.out nq3); first | exact h | simpa using h); clear HQ4 HL1)
            | (go_at_call 12; with_reducible refine (LD_Writes HQ5.out _ HL2.out).mono ?_; rintro e w8 ⟨rfl, nq4, rfl⟩; have HQ6 := Aside0.mk (LD.drewN (stay_dev2 (stay_own _ _ _ _ _ (stay_own _ _ _ _ _ stay_non)) _ _ _) HQ5.out nq4); clear HQ5 HL2)
            | (go_at_call 7; refine (lives_after (w := w) (by have h := HQ6.out.below; first | exact h | simpa using h)).mono ?_; rintro e wl ⟨rfl, hb⟩; have HBl := Aside0.mk hb; clear hb))
          go_ret
          exact ⟨by first | rfl | (simp; done), HBl.out⟩
theorem DeviceHistory_walk (n : Int) (A0 : Option Addr) (c0 : Nat) (l0 : List S28) (q : Int) (w : World) (hr0 : Kd.C k28 w A0 l0.length l0) (hc0 : l0.length ≤ c0) (hm : q ≤ 9223372036854775807) : Calls Try.prog 6 #[.int .i64 n, .slice A0 l0.length c0, .int .i64 q] w (LawPost w true) := by
  by_cases h1 : n ≤ 16
  · by_cases h2 : (l0.length : Int) ≤ 40
    · by_cases h3 : n < 1
      · exact History_nil n q A0 c0 l0 w hc0 h3 h2
      · obtain ⟨m, rfl⟩ : ∃ m : Nat, n = m := ⟨n.toNat, by omega⟩
        exact History_main m q A0 c0 l0 w hr0 hc0 (by omega) (by omega) h2 hm
    · exact History_big n q A0 c0 l0 w hc0 (.inr (by omega))
  · exact History_big n q A0 c0 l0 w hc0 (.inl (by omega))
end Go.Proofs.Ytfinlgckalbfoaa.PAll
