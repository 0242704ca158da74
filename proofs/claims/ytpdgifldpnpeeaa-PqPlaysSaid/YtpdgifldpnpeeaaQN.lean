/- The walk of New (package pq). -/
import Derived.Test.YtpdgifldpnpeeaaQM
namespace Go.Proofs.Ytpdgifldpnpeeaa.PAll
open Go.RowKit Go.Proofs.YtpdgifldpnpeeaaW.PrintWords Go.Proofs.YtpdgifldpnpeeaaW.PrintLast Go.Proofs.YtpdgifldpnpeeaaW.PrintMore
set_option linter.unusedVariables false
set_option linter.unusedSimpArgs false
attribute [local irreducible] Calls

theorem abs_new (n : Nat) (pl ky : List Int) (hl : pl.length = n) (hk : ky.length = n) (h : ∀ x : Int, 0 ≤ x → x < n → rd pl x = -1) : QAbs (List.replicate n none) [] pl ky := by
  have hc : ∀ n, cnt (List.replicate n none) = 0 := fun n => by
    induction n with
    | zero => rfl
    | succ n ih => rw [List.replicate_succ, cnt]; exact ih
  refine ⟨⟨by simpa using hl, by simpa using hk, fun j j0 j1 => by simp at j1; omega, fun x x0 x1 => .inl (h x x0 (by simpa using x1))⟩, fun k k0 k1 => by simp at k1; omega, fun x x0 x1 => ?_, (hc n).symm⟩
  have hx1 : x < n := by simpa using x1
  rw [if_pos (by rw [h x x0 hx1]; decide)]
  unfold gm
  rw [List.getD_eq_getElem?_getD, List.getElem?_replicate, if_pos (by omega)]
  rfl

def NewPost (w : World) (n : Nat) (e : Ending) (w' : World) : Prop := ∃ v0_ : Value, e = .returned v0_ ∧ QR w' w.heap.size (fun _ => True) v0_ (List.replicate n none) ∧ Below w.heap.size w w'
theorem tr_below {w w' : World} (h : Tr w.heap.size (fun _ => True) w w') : Below w.heap.size w w' := (h w w (fun _ => True) rfl (fun _ _ => .inl trivial)).1 (Below.refl _ _)

set_option maxHeartbeats 16000000 in
set_option maxRecDepth 1000000 in
theorem pq_New.calls (a0 : Int) (r : List (Option Int)) (w : World) (h : pq_New.f a0 = some r) :
    Calls Try.prog 9 #[.int .i64 a0] w fun e w' => ∃ v0_ : Value, e = .returned v0_ ∧ QR w' w.heap.size (fun _ => True) v0_ r ∧ Below w.heap.size w w' := by
  unfold pq_New.f at h
  by_cases hin : 0 ≤ a0 ∧ a0 ≤ 1048576
  case neg => rw [if_neg hin] at h; cases h
  rw [if_pos hin] at h
  obtain rfl := Option.some.inj h
  obtain ⟨h0, h1⟩ := hin
  clear h
  have HB := Aside0.mk (Below.refl w.heap.size w)
  show Calls Try.prog 9 #[.int .i64 a0] w (NewPost w a0.toNat)
  go_enter Try.func9, Try.ntmps9
  go_wp2
  have n1_ := Aside0.mk (below_drew1 HB.out)
  clear HB
  have HB := n1_
  clear n1_
  refine start_ (n := 7) (S := fun w' => True) (ds := []) #[false, false, false, false, false, false, false] (by kernel_rfl) rfl rfl trivial (fun hHeld => ?_)
  generalize w.drew = w6 at HB hHeld ⊢
  refine pure_ (i := 0) (N := some 11) (v := ?_) (a' := ?_) #[true, false, false, false, false, false, false] rfl rfl (by kernel_rfl) (fun _ _ _ h => h) (Or.inl ⟨by rfl, ?_⟩) ?_ ?_
  rotate_left
  · intro w'
    go_simp
    with_reducible rfl
  rotate_left
  · simp only [Act.put, List.setIfInBounds_toArray, List.set_cons_zero, List.set_cons_succ, i64_w, i32_w]
    rfl
  refine pure_ (i := 2) (N := some 13) (v := ?_) (a' := ?_) #[true, false, true, false, false, false, false] rfl rfl (by kernel_rfl) (fun _ _ _ h => h) (Or.inl ⟨by rfl, ?_⟩) ?_ ?_
  rotate_left
  · intro w'
    go_simp
    with_reducible rfl
  rotate_left
  · simp only [Act.put, List.setIfInBounds_toArray, List.set_cons_zero, List.set_cons_succ, i64_w, i32_w]
    rfl
  refine join_ (σ := Value × Value) 3 #[true, true, true, true, false, false, false] (fun s_ => [(12, s_.1), (14, s_.2)]) (fun s_ w' => Kd.R (Kd.int .i64) 3 w' w.heap.size (fun _ => True) s_.1 (List.replicate a0.toNat 0) ∧ Kd.R (Kd.int .i64) 3 w' w.heap.size (fun _ => True) s_.2 (List.replicate a0.toNat 0) ∧ (∀ k, s_.1.ownBlock = some k → s_.2.ownBlock ≠ some k) ∧ Below w.heap.size w w') ?_ ?_
  rotate_left
  · intro hCont
    refine two_ (i := 1) (j := 3) (Ni := some 12) (Nj := some 14) #[true, true, true, false, false, false, false] #[true, false, true, true, false, false, false] rfl rfl rfl rfl (by kernel_rfl) (by decide) (by decide) (fun K hK => ?_) (fun K hK => ?_)
    · skip
      refine Kd.R_make_step (Kd.int .i64) _ 3 (by rfl) (N := 12) rfl 22 _ _ rfl a0 rfl rfl Try.underlying22 (.int .i64 0) 8 info3q rfl (by decide) (by omega) 0 (ok := fun _ => True) (okp := fun _ => True) rfl (fun _ hk => hk) trivial h0 (by omega) (Below.refl _ _) (Nat.le_refl _) ?_
      intro v1 w7 ho8 hb hg_ hnew_
      have HB1 := Aside0.mk (below_step HB.out hb)
      have HR1 := Aside0.mk (Kd.R_lower ho8 HB.out.size)
      clear hg_ hb ho8 hnew_
      refine hK.out _ _ trivial (fun hHeld => ?_)
      clear hK K
      refine norm_ (a' := ?_) ?_ ?_
      rotate_left
      · show Act.put _ (some 12) _ = _
        simp only [Act.put, List.setIfInBounds_toArray, List.set_cons_zero, List.set_cons_succ, i64_w, i32_w]
        rfl
      refine one_ (i := 3) (N := some 14) #[true, true, true, true, false, false, false] rfl rfl (by kernel_rfl) (by decide) (fun K hK => ?_)
      refine Kd.R_make_step (Kd.int .i64) _ 3 (by rfl) (N := 14) rfl 22 _ _ rfl a0 rfl rfl Try.underlying22 (.int .i64 0) 8 info3q rfl (by decide) (by omega) 0 (ok := fun _ => True) (okp := fun _ => True) rfl (fun _ hk => hk) trivial h0 (by omega) (Below.refl _ _) (Nat.le_refl _) ?_
      intro v2 w9 ho10 hb hg_ hnew_
      have HB2 := Aside0.mk (below_step HB1.out hb)
      have HR2 := Aside0.mk (Kd.R_lower ho10 HB1.out.size)
      have hne : ∀ k, v1.ownBlock = some k → v2.ownBlock ≠ some k := fun k e1 e2 => by
        have := Kd.R_lt HR1.out k e1
        obtain ⟨b, hb1, hb2⟩ := hnew_
        rw [hb1] at e2
        cases e2
        omega
      have HN := Aside0.mk hne
      have HR3 := Aside0.mk (Kd.R_below HR1.out hb)
      clear hg_ hb ho10 hnew_ hne
      obtain ⟨A1, c1, e1⟩ := Kd.R_slice HR3.out
      subst e1
      obtain ⟨A2, c2, e2⟩ := Kd.R_slice HR2.out
      subst e2
      refine hK.out _ _ trivial (fun hHeld => ?_)
      clear hK K
      refine norm_ (a' := ?_) ?_ ?_
      rotate_left
      · show Act.put _ (some 14) _ = _
        simp only [Act.put, List.setIfInBounds_toArray, List.set_cons_zero, List.set_cons_succ, i64_w, i32_w]
        rfl
      exact norm_ (by simp only [putAll, Act.put, List.setIfInBounds_toArray, List.set_cons_zero, List.set_cons_succ]) (hCont (.slice A1 _ c1, .slice A2 _ c2) _ ⟨HR3.out, HR2.out, HN.out, HB2.out⟩)
    · skip
      refine Kd.R_make_step (Kd.int .i64) _ 3 (by rfl) (N := 14) rfl 22 _ _ rfl a0 rfl rfl Try.underlying22 (.int .i64 0) 8 info3q rfl (by decide) (by omega) 0 (ok := fun _ => True) (okp := fun _ => True) rfl (fun _ hk => hk) trivial h0 (by omega) (Below.refl _ _) (Nat.le_refl _) ?_
      intro v1 w7 ho8 hb hg_ hnew_
      have HB1 := Aside0.mk (below_step HB.out hb)
      have HR1 := Aside0.mk (Kd.R_lower ho8 HB.out.size)
      clear hg_ hb ho8 hnew_
      refine hK.out _ _ trivial (fun hHeld => ?_)
      clear hK K
      refine norm_ (a' := ?_) ?_ ?_
      rotate_left
      · show Act.put _ (some 14) _ = _
        simp only [Act.put, List.setIfInBounds_toArray, List.set_cons_zero, List.set_cons_succ, i64_w, i32_w]
        rfl
      refine one_ (i := 1) (N := some 12) #[true, true, true, true, false, false, false] rfl rfl (by kernel_rfl) (by decide) (fun K hK => ?_)
      refine Kd.R_make_step (Kd.int .i64) _ 3 (by rfl) (N := 12) rfl 22 _ _ rfl a0 rfl rfl Try.underlying22 (.int .i64 0) 8 info3q rfl (by decide) (by omega) 0 (ok := fun _ => True) (okp := fun _ => True) rfl (fun _ hk => hk) trivial h0 (by omega) (Below.refl _ _) (Nat.le_refl _) ?_
      intro v2 w9 ho10 hb hg_ hnew_
      have HB2 := Aside0.mk (below_step HB1.out hb)
      have HR2 := Aside0.mk (Kd.R_lower ho10 HB1.out.size)
      have hne : ∀ k, v1.ownBlock = some k → v2.ownBlock ≠ some k := fun k e1 e2 => by
        have := Kd.R_lt HR1.out k e1
        obtain ⟨b, hb1, hb2⟩ := hnew_
        rw [hb1] at e2
        cases e2
        omega
      have HN := Aside0.mk hne
      have HR3 := Aside0.mk (Kd.R_below HR1.out hb)
      clear hg_ hb ho10 hnew_ hne
      obtain ⟨A1, c1, e1⟩ := Kd.R_slice HR3.out
      subst e1
      obtain ⟨A2, c2, e2⟩ := Kd.R_slice HR2.out
      subst e2
      refine hK.out _ _ trivial (fun hHeld => ?_)
      clear hK K
      refine norm_ (a' := ?_) ?_ ?_
      rotate_left
      · show Act.put _ (some 12) _ = _
        simp only [Act.put, List.setIfInBounds_toArray, List.set_cons_zero, List.set_cons_succ, i64_w, i32_w]
        rfl
      exact norm_ (by simp only [putAll, Act.put, List.setIfInBounds_toArray, List.set_cons_zero, List.set_cons_succ]) (hCont (.slice A2 _ c2, .slice A1 _ c1) _ ⟨HR2.out, HR3.out, fun k e1 e2 => HN.out k e2 e1, HB2.out⟩)
  rintro ⟨v1, v2⟩ w13 ⟨h0_, h1_, h2_, h3_⟩
  clear HB
  obtain ⟨A1, c1, e1⟩ := Kd.R_slice h0_
  dsimp only at e1 h0_ h1_ h2_
  subst e1
  obtain ⟨A2, c2, e2⟩ := Kd.R_slice h1_
  subst e2
  simp only [List.length_replicate] at h0_ h1_ h2_
  have HR1 := Aside0.mk h0_
  have HR2 := Aside0.mk h1_
  have HN := Aside0.mk h2_
  have HB := Aside0.mk h3_
  clear h0_ h1_ h2_ h3_
  have hHeld := trivial
  refine norm_ (a' := ?_) ?_ ?_
  rotate_left
  · simp only [putAll, Act.put, List.setIfInBounds_toArray, List.set_cons_zero, List.set_cons_succ]
    rfl
  refine pure_ (i := 4) (N := some 15) (v := ?_) (a' := ?_) #[true, true, true, true, true, false, false] rfl rfl (by kernel_rfl) (fun _ _ _ h => h) (Or.inl ⟨by rfl, ?_⟩) ?_ ?_
  rotate_left
  · intro w'
    go_simp
    with_reducible rfl
  rotate_left
  · simp only [Act.put, List.setIfInBounds_toArray, List.set_cons_zero, List.set_cons_succ, i64_w, i32_w]
    rfl
  refine one_ (i := 5) (N := some 16) #[true, true, true, true, true, true, false] rfl rfl (by kernel_rfl) (by decide) (fun K hK => ?_)
  refine value_ (v := .pointer (some ⟨w13.heap.size, 0, none⟩)) (w1 := w13.alloc (.cells #[.slice none 0 0, .slice A1 a0.toNat c1, .slice A2 a0.toNat c2] 54 (0, 0))) (by rfl) rfl ?_ ?_
  · go_simp
  refine hK.out _ _ trivial (fun hHeld => ?_)
  clear hK K
  refine norm_ (a' := ?_) ?_ ?_
  rotate_left
  · show Act.put _ (some 16) _ = _
    simp only [Act.put, List.setIfInBounds_toArray, List.set_cons_zero, List.set_cons_succ, i64_w, i32_w]
    rfl
  refine pure_ (i := 6) (N := some 3) (v := ?_) (a' := ?_) #[true, true, true, true, true, true, true] rfl rfl (by kernel_rfl) (fun _ _ _ h => h) (Or.inl ⟨by rfl, ?_⟩) ?_ ?_
  rotate_left
  · intro w'
    go_simp
    with_reducible rfl
  rotate_left
  · simp only [Act.put, List.setIfInBounds_toArray, List.set_cons_zero, List.set_cons_succ, i64_w, i32_w]
    rfl
  refine done_ (by kernel_rfl) ?_
  obtain ⟨n, rfl⟩ : ∃ n : Nat, a0 = n := ⟨a0.toNat, by omega⟩
  simp only [Int.toNat_natCast, List.length_replicate] at HR1 HR2 HN ⊢
  have hblk := blk_new w13 (Obj.cells #[Value.slice none 0 0, .slice A1 n c1, .slice A2 n c2] 54 (0, 0))
  have HB14 := Aside0.mk (below_alloc HB.out (Obj.cells #[Value.slice none 0 0, .slice A1 n c1, .slice A2 n c2] 54 (0, 0)))
  have HR14 := Aside0.mk (Kd.R_alloc HR1.out (Obj.cells #[Value.slice none 0 0, .slice A1 n c1, .slice A2 n c2] 54 (0, 0)))
  have HR24 := Aside0.mk (Kd.R_alloc HR2.out (Obj.cells #[Value.slice none 0 0, .slice A1 n c1, .slice A2 n c2] 54 (0, 0)))
  have hbp := HB.out.size
  generalize (w13.alloc (Obj.cells #[Value.slice none 0 0, .slice A1 n c1, .slice A2 n c2] 54 (0, 0))) = w14 at *
  generalize w13.heap.size = p at *
  have HBK := Aside0.mk hblk
  clear hblk HB HR1 HR2
  have e1 : w14.cell? ⟨p, 1, none⟩ = some (.slice A1 n c1) := (blk_cell HBK.out 1).trans rfl
  have HN := HN
  go_wp2
  go_loopg [22] n (fun g vi wr => ∃ (k : Nat) (pl : List Int), vi = .int .i64 (k : Int) ∧ k + g = n ∧ wr.heap[p]? = some (.cells #[.slice none 0 0, .slice A1 n c1, .slice A2 n c2] 54 (0, 0)) ∧ Kd.R (Kd.int .i64) 3 wr w.heap.size (fun _ => True) (.slice A1 n c1) pl ∧ (∀ x : Int, 0 ≤ x → x < k → rd pl x = -1) ∧ Kd.R (Kd.int .i64) 3 wr w.heap.size (fun _ => True) (.slice A2 n c2) (List.replicate n 0) ∧ Below w.heap.size w wr)
  case atStart => exact ⟨0, _, rfl, by omega, HBK.out, HR14.out, fun x a b => by omega, HR24.out, HB14.out⟩
  case round =>
    clear e1 HBK HR14 HR24 HB14
    obtain ⟨k, pl, rfl, hkg, hbk, hr1, hlow, hr2, hbel⟩ := hrel
    have HBK := Aside0.mk hbk
    have HR1 := Aside0.mk hr1
    have HR2 := Aside0.mk hr2
    have HB := Aside0.mk hbel
    have HLow := Aside0.mk hlow
    clear hbk hr1 hr2 hbel hlow
    by_cases c : k < n
    · have hlen := (Kd.R_reads' HR1.out).1
      obtain ⟨g1, c1', e1, hg1, _⟩ := Kd.R_form HR1.out (by omega)
      injection e1 with e1 e2_ e3
      clear e2_
      subst e1
      subst e3
      have HLen := Aside0.mk hlen
      clear hlen
      obtain ⟨r3, f3⟩ := Kd.R_celln (0 : Int) HR1.out (k : Int) (Int.natCast_nonneg _) (by omega)
      have HS := Aside0.mk (Kd.R_putn HR1.out (k : Int) (-1))
      have HS2 := Aside0.mk (QD.farv HR2.out (q := g1) (fun k2 e2 e4 => HN.out g1 rfl (by rw [e2, e4])) (k : Int).toNat (.int .i64 (-1)))
      have HSB := Aside0.mk (below_set HB.out hg1 (j := (k : Int).toNat) (v := .int .i64 (-1)))
      have HSK := Aside0.mk (QC.blkfar HBK.out (QC.ne_of HR1.out HBK.out) (k : Int).toNat (.int .i64 (-1)))
      have e1 : wr.cell? ⟨p, 1, none⟩ = some (.slice (some ⟨g1, 0, none⟩) n c1) := (blk_cell HBK.out 1).trans rfl
      have hn20 : (n : Int) ≤ 1048576 := h1
      have hklt : (k : Int) < (n : Int) := by omega
      have hk0 : (0 : Int) ≤ (k : Int) := Int.natCast_nonneg _
      simp only [Int.toNat_natCast] at r3 f3 HS HS2 HSB HSK
      go_wp2_with (first
        | ((with_reducible refine gate_store (t := 3) (p := 30) rfl ?_); refine store_event (t := 3) (p := 30) (v := ?vo) (w1 := (wr.setCell ⟨g1, k, none⟩ (.int .i64 (-1)))) ?hg ?ho ?hn ?hr ?_; (case ho => rfl); (case hg => rfl); (case hn => rfl); (case hr => first | (go_simp; done) | (go_simp; rfl)); intro w15 hw; rw [← hw] at HS HS2 HSB HSK; clear hw e1 r3 f3 HBK HR1 HR2 HB))
      go_roundg (n - (k + 1))
      case measure => omega
      case rel => exact ⟨k + 1, _, by go_num, by omega, HSK.out, HS.out, fun x x0 x1 => by
        rw [rd_set _ _ _ _ (by have := HLen.out; omega)]
        by_cases e : x.toNat = k
        · rw [if_pos e]
        · rw [if_neg e]
          exact HLow.out x x0 (by omega), HS2.out, HSB.out⟩
    · have c' : decide ((k : Int) < (n : Int)) = false := decide_eq_false (by omega)
      have hkn : k = n := by omega
      subst hkn
      go_wp2
      go_ret
      refine ⟨_, rfl, ⟨by simp; omega, p, _, _, _, [], pl, _, rfl, hbp, trivial, HBK.out, Kd.R_nil _ _ _ _ _, HR1.out, HR2.out, fun k2 e2 => by simp [Value.ownBlock] at e2, fun k2 e2 => HN.out k2 e2, abs_new _ _ _ (Kd.R_reads' HR1.out).1.symm (by simp) (fun x x0 x1 => HLow.out x x0 x1)⟩, HB.out⟩
end Go.Proofs.Ytpdgifldpnpeeaa.PAll
