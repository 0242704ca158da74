/- same: a device against the reference's. -/
import Derived.Test.YtfinlgckalbfoaaDq
import Derived.Test.YtfinlgckalbfoaaPAllx5
import Derived.Test.YtfinlgckalbfoaaPAllx6
import Derived.Test.YtfinlgckalbfoaaPAllx4
namespace Go.Proofs.Ytfinlgckalbfoaa.PAll
open Go.RowKit Go.Proofs.YtfinlgckalbfoaaW.PrintWords Go.Proofs.YtfinlgckalbfoaaW.PrintLast Go.Proofs.YtfinlgckalbfoaaW.PrintMore
set_option linter.unusedVariables false
set_option linter.unusedSimpArgs false
attribute [local irreducible] Calls

/-- What the reference's Read says. -/
def rRead (m : RM) (i : Int) : ByteArray × Int := if m.nil = true then (⟨#[]⟩, 1) else if 0 ≤ i ∧ i < (m.bl.length : Int) then (m.bl.getD i.toNat ⟨#[]⟩, 0) else (⟨#[]⟩, 2)
theorem rRead_f (m : RM) (i : Int) : mapmakerref54_Read.f m.nil m.bl m.fi m.at_ m.pu m.left i = some (rRead m i) := by
  unfold mapmakerref54_Read.f rRead
  by_cases c : m.nil = true
  · rw [if_pos c, if_pos c]
  · rw [if_neg c, if_neg c]
    by_cases c1 : i < 0
    · rw [if_pos c1, if_neg (by omega)]
    · rw [if_neg c1]
      by_cases c2 : i ≥ (m.bl.length : Int)
      · rw [if_pos c2, if_neg (by omega)]
      · rw [if_neg c2, if_pos (by omega), if_pos (by omega), if_pos (by omega)]
        unfold rdOf
        rfl
section
variable {w : World} {ok : Nat → Prop} {A1 A2 A3 A4 : Option Addr} {c1 c2 c3 c4 : Nat} {m : RM}
theorem ref_Read (h : MV w ok (.slice A1 m.bl.length c1) (.slice A2 m.fi.length c2) (.slice A3 m.at_.length c3) (.slice A4 m.pu.length c4) m) (i : Int) (r1 : ByteArray) (r2 : Int) (hr : rRead m i = (r1, r2)) :
    Calls Try.prog 17 #[.agg #[.bool m.nil, .slice A1 m.bl.length c1, .slice A2 m.fi.length c2, .slice A3 m.at_.length c3, .slice A4 m.pu.length c4, .int .i64 m.left], .int .i64 i] w fun e w' => e = .returned (.tuple #[.string r1, .int .i64 r2]) ∧ Below w.heap.size w w' := by
  obtain ⟨_, l1, q1⟩ := Kd.V_reads' h.r1
  obtain ⟨_, l2, q2⟩ := Kd.V_reads' h.r2
  obtain ⟨_, l3, q3⟩ := Kd.V_reads' h.r3
  obtain ⟨_, l4, q4⟩ := Kd.V_reads' h.r4
  exact mapmakerref54_Read.calls m.nil A1 c1 m.bl A2 c2 m.fi A3 c3 m.at_ A4 c4 m.pu m.left i r1 r2 w q1 l1 q2 l2 q3 l3 q4 l4 (by rw [rRead_f, hr])
theorem ref_Writes (h : MV w ok (.slice A1 m.bl.length c1) (.slice A2 m.fi.length c2) (.slice A3 m.at_.length c3) (.slice A4 m.pu.length c4) m) :
    Calls Try.prog 23 #[.agg #[.bool m.nil, .slice A1 m.bl.length c1, .slice A2 m.fi.length c2, .slice A3 m.at_.length c3, .slice A4 m.pu.length c4, .int .i64 m.left]] w fun e w' => e = .returned (.int .i64 m.at_.length) ∧ Below w.heap.size w w' := by
  obtain ⟨_, l1, q1⟩ := Kd.V_reads' h.r1
  obtain ⟨_, l2, q2⟩ := Kd.V_reads' h.r2
  obtain ⟨_, l3, q3⟩ := Kd.V_reads' h.r3
  obtain ⟨_, l4, q4⟩ := Kd.V_reads' h.r4
  exact mapmakerref54_Writes.calls m.nil A1 c1 m.bl A2 c2 m.fi A3 c3 m.at_ A4 c4 m.pu m.left m.at_.length w q1 l1 q2 l2 q3 l3 q4 l4 rfl
end
/-- A pointer to a device that reads as the reference's does, in every world that keeps what lies in w. -/
structure Sames (w : World) (v : Value) (m : RM) : Prop where
  form : (v = .pointer none ∧ m.nil = true) ∨ ∃ p, v = .pointer (some ⟨p, 0, none⟩) ∧ m.nil = false
  blocks : ∀ w2, Below w.heap.size w w2 → Calls Try.prog 20 #[v] w2 fun e w' => e = .returned (.int .i64 m.bl.length) ∧ Below w2.heap.size w2 w'
  writes : ∀ w2, Below w.heap.size w w2 → Calls Try.prog 12 #[v] w2 fun e w' => e = .returned (.int .i64 m.at_.length) ∧ Below w2.heap.size w2 w'
  reads : ∀ w2 i, Below w.heap.size w w2 → Calls Try.prog 16 #[v, .int .i64 i] w2 fun e w' => e = .returned (.tuple #[.string (rRead m i).1, .int .i64 (rRead m i).2]) ∧ Below w2.heap.size w2 w'
theorem drawn_below {w w' : World} (h : Drawn0 w w') : Below w.heap.size w w' := by
  obtain ⟨n, rfl⟩ := h.out
  exact pw_below_drewN (Below.refl _ _) n
/-- The device against the reference's, plain. -/
structure RelD (d : Dv) (m : RM) : Prop where
  n : m.nil = false
  b : m.bl = d.now
  f : m.fi = d.first
  a : m.at_ = d.log.map Prod.fst
  p : m.pu = d.log.map Prod.snd
  l1 : d.lim = true → m.left = d.left ∧ 0 ≤ d.left ∧ d.left ≤ 9223372036854775807
  l2 : d.lim = false → m.left = -1
theorem sames_dev {w : World} {base : Nat} {ok : Nat → Prop} {v : Value} {d : Dv} {m : RM} (h : DR w base ok v d) (hr : RelD d m) : Sames w v m := by
  obtain ⟨p, rfl⟩ := DR_ptr h
  refine ⟨.inr ⟨p, rfl, hr.n⟩, fun w2 hb => ?_, fun w2 hb => ?_, fun w2 i hb => ?_⟩
  · rw [hr.b]
    exact (dev_Blocks (DR_below h hb)).mono fun e w' ⟨g1, g2⟩ => ⟨g1, drawn_below g2⟩
  · rw [hr.a, List.length_map]
    exact (dev_Writes (DR_below h hb)).mono fun e w' ⟨g1, g2⟩ => ⟨g1, drawn_below g2⟩
  · have e : dvRead d i = ((rRead m i).1, (rRead m i).2) := by
      unfold dvRead rRead
      rw [hr.n, hr.b]
      rfl
    exact (dev_Read (DR_below h hb) i _ _ e).mono fun e w' ⟨g1, g2⟩ => ⟨g1, drawn_below g2⟩
theorem sames_nil (w : World) {m : RM} (hn : m.nil = true) (hb : m.bl = []) (ha : m.at_ = []) : Sames w (.pointer none) m := by
  refine ⟨.inl ⟨rfl, hn⟩, fun w2 h => ?_, fun w2 h => ?_, fun w2 i h => ?_⟩
  · rw [hb]
    exact (dev_Blocks_nil w2).mono fun e w' ⟨g1, g2⟩ => ⟨g1, drawn_below g2⟩
  · rw [ha]
    exact (dev_Writes_nil w2).mono fun e w' ⟨g1, g2⟩ => ⟨g1, drawn_below g2⟩
  · have e : rRead m i = (⟨#[]⟩, 1) := by
      unfold rRead
      rw [if_pos hn]
    rw [e]
    exact (dev_Read_nil w2 i).mono fun e w' ⟨g1, g2⟩ => ⟨g1, drawn_below g2⟩
def SamePost (w : World) (e : Ending) (w' : World) : Prop := e = .returned (.bool true) ∧ Below w.heap.size w w'
set_option maxHeartbeats 16000000 in
set_option maxRecDepth 1000000 in
theorem same_nil {w : World} {ok : Nat → Prop} {A1 A2 A3 A4 : Option Addr} {c1 c2 c3 c4 : Nat} {mb mf : List ByteArray} {ma : List Int} {mp : List ByteArray} {ml : Int} (hs : Sames w (.pointer none) ⟨true, mb, mf, ma, mp, ml⟩) (h : MV w ok (.slice A1 mb.length c1) (.slice A2 mf.length c2) (.slice A3 ma.length c3) (.slice A4 mp.length c4) ⟨true, mb, mf, ma, mp, ml⟩) (hl : mb.length ≤ 65536) : Calls Try.prog 14 #[.pointer none, .agg #[.bool true, .slice A1 mb.length c1, .slice A2 mf.length c2, .slice A3 ma.length c3, .slice A4 mp.length c4, .int .i64 ml]] w (SamePost w) := by
  have HM := Aside0.mk h
  have HS := Aside0.mk hs
  have HL := Aside0.mk hl
  clear h hs hl
  go_enter Try.func14, Try.ntmps14
  go_wp2_with (first
    | ((with_reducible refine gate_dst (N := 3) rfl ?_); refine box_event rfl (N := 3) rfl (cs := #[.bool true, .slice A1 mb.length c1, .slice A2 mf.length c2, .slice A3 ma.length c3, .slice A4 mp.length c4, .int .i64 ml]) (t := 36) ?hrp ?_; (case hrp => first | (go_simp; done) | (go_simp; rfl)); intro gp hgp wp hbox hbb; have BP := Aside0.mk hbox; have HB := Aside0.mk hbb; obtain ⟨q0, q1, q2, q3, q4, q5⟩ := c6 hbox; clear hbox hgp hbb))
  refine start_ (n := 13) (S := fun w' => Below w.heap.size w w' ∧ w'.heap[gp]? = some (.cells #[.bool true, .slice A1 mb.length c1, .slice A2 mf.length c2, .slice A3 ma.length c3, .slice A4 mp.length c4, .int .i64 ml] 36 (0, 0))) (ds := []) #[false, false, false, false, false, false, false, false, false, false, false, false, false] (by kernel_rfl) rfl rfl ⟨below_drew1 HB.out, blk_drew BP.out⟩ (fun hHeld => ?_)
  clear BP HB q0 q1 q2 q3 q4 q5
  refine pure_ (i := 0) (N := some 15) (v := ?_) (a' := ?_) #[true, false, false, false, false, false, false, false, false, false, false, false, false] rfl rfl (by kernel_rfl) (fun _ _ _ h => h) (Or.inl ⟨by rfl, ?_⟩) ?_ ?_
  rotate_left
  · intro w'
    go_simp
    with_reducible rfl
  rotate_left
  · simp only [Act.put, List.setIfInBounds_toArray, List.set_cons_zero, List.set_cons_succ, i64_w, i32_w]
    rfl
  refine pure_ (i := 2) (N := some 17) (v := ?_) (a' := ?_) #[true, false, true, false, false, false, false, false, false, false, false, false, false] rfl rfl (by kernel_rfl) (fun _ _ _ h => h) (Or.inl ⟨by rfl, ?_⟩) ?_ ?_
  rotate_left
  · intro w'
    go_simp
    with_reducible rfl
  rotate_left
  · simp only [Act.put, List.setIfInBounds_toArray, List.set_cons_zero, List.set_cons_succ, i64_w, i32_w]
    rfl
  refine take_ (i := 3) (N := some 18) (v := ?_) (a' := ?_) #[true, false, true, true, false, false, false, false, false, false, false, false, false] rfl rfl (by kernel_rfl) (fun _ _ _ h => h) (Or.inl ⟨by rfl, ?_⟩) hHeld ?_ ?_
  rotate_left
  · rintro w' hS
    obtain ⟨x0, x1, x2, x3, x4, x5⟩ := c6 hS.2
    go_simp
    with_reducible rfl
  rotate_left
  · simp only [Act.put, List.setIfInBounds_toArray, List.set_cons_zero, List.set_cons_succ, i64_w, i32_w]
    rfl
  refine pure_ (i := 4) (N := some 19) (v := ?_) (a' := ?_) #[true, false, true, true, true, false, false, false, false, false, false, false, false] rfl rfl (by kernel_rfl) (fun _ _ _ h => h) (Or.inl ⟨by rfl, ?_⟩) ?_ ?_
  rotate_left
  · intro w'
    go_simp
    with_reducible rfl
  rotate_left
  · simp only [Act.put, List.setIfInBounds_toArray, List.set_cons_zero, List.set_cons_succ, i64_w, i32_w]
    rfl
  refine one_ (i := 1) (N := some 16) #[true, true, true, true, true, false, false, false, false, false, false, false, false] rfl rfl (by kernel_rfl) (by decide) (fun K hK => ?_)
  refine goes_ (f := 20) Try.func20 (by kernel_rfl) rfl #[.pointer none] (by rfl) rfl rfl (by first | rfl | (simp [Act.eval]; done)) ?_
  refine (HS.out.blocks _ hHeld.1).mono ?_
  rintro e wa ⟨rfl, hb⟩
  refine ⟨_, rfl, ?_⟩
  refine hK.out _ _ ⟨below_step hHeld.1 hb, blk_below hHeld.2 hb⟩ (fun hHeld2 => ?_)
  clear hK K hb hHeld
  have hHeld := hHeld2
  clear hHeld2
  refine norm_ (a' := ?_) ?_ ?_
  rotate_left
  · show Act.put _ (some 16) _ = _
    simp only [Act.put, List.setIfInBounds_toArray, List.set_cons_zero, List.set_cons_succ, i64_w, i32_w]
    rfl
  refine pure_ (i := 5) (N := some 20) (v := ?_) (a' := ?_) #[true, true, true, true, true, true, false, false, false, false, false, false, false] rfl rfl (by kernel_rfl) (fun _ _ _ h => h) (Or.inl ⟨by rfl, ?_⟩) ?_ ?_
  rotate_left
  · intro w'
    go_simp
    with_reducible rfl
  rotate_left
  · simp only [Act.put, List.setIfInBounds_toArray, List.set_cons_zero, List.set_cons_succ, i64_w, i32_w]
    rfl
  refine pure_ (i := 6) (N := some 21) (v := ?_) (a' := ?_) #[true, true, true, true, true, true, true, false, false, false, false, false, false] rfl rfl (by kernel_rfl) (fun _ _ _ h => h) (Or.inl ⟨by rfl, ?_⟩) ?_ ?_
  rotate_left
  · intro w'
    go_simp
    with_reducible rfl
  rotate_left
  · simp only [Act.put, List.setIfInBounds_toArray, List.set_cons_zero, List.set_cons_succ, i64_w, i32_w]
    rfl
  refine pure_ (i := 7) (N := some 22) (v := ?_) (a' := ?_) #[true, true, true, true, true, true, true, true, false, false, false, false, false] rfl rfl (by kernel_rfl) (fun _ _ _ h => h) (Or.inl ⟨by rfl, ?_⟩) ?_ ?_
  rotate_left
  · intro w'
    go_simp
    with_reducible rfl
  rotate_left
  · simp only [Act.put, List.setIfInBounds_toArray, List.set_cons_zero, List.set_cons_succ, i64_w, i32_w]
    rfl
  refine take_ (i := 9) (N := some 24) (v := ?_) (a' := ?_) #[true, true, true, true, true, true, true, true, false, true, false, false, false] rfl rfl (by kernel_rfl) (fun _ _ _ h => h) (Or.inl ⟨by rfl, ?_⟩) hHeld ?_ ?_
  rotate_left
  · rintro w' hS
    obtain ⟨x0, x1, x2, x3, x4, x5⟩ := c6 hS.2
    go_simp
    with_reducible rfl
  rotate_left
  · simp only [Act.put, List.setIfInBounds_toArray, List.set_cons_zero, List.set_cons_succ, i64_w, i32_w]
    rfl
  refine one_ (i := 8) (N := some 23) #[true, true, true, true, true, true, true, true, true, true, false, false, false] rfl rfl (by kernel_rfl) (by decide) (fun K hK => ?_)
  refine goes_ (f := 12) Try.func12 (by kernel_rfl) rfl #[.pointer none] (by rfl) rfl rfl (by first | rfl | (simp [Act.eval]; done)) ?_
  refine (HS.out.writes _ hHeld.1).mono ?_
  rintro e wb ⟨rfl, hb⟩
  refine ⟨_, rfl, ?_⟩
  refine hK.out _ _ ⟨below_step hHeld.1 hb, blk_below hHeld.2 hb⟩ (fun hHeld2 => ?_)
  clear hK K hb hHeld
  have hHeld := hHeld2
  clear hHeld2
  refine norm_ (a' := ?_) ?_ ?_
  rotate_left
  · show Act.put _ (some 23) _ = _
    simp only [Act.put, List.setIfInBounds_toArray, List.set_cons_zero, List.set_cons_succ, i64_w, i32_w]
    rfl
  refine one_ (i := 10) (N := some 25) #[true, true, true, true, true, true, true, true, true, true, true, false, false] rfl rfl (by kernel_rfl) (by decide) (fun K hK => ?_)
  refine goes_ (f := 23) Try.func23 (by kernel_rfl) rfl #[.agg #[.bool true, .slice A1 mb.length c1, .slice A2 mf.length c2, .slice A3 ma.length c3, .slice A4 mp.length c4, .int .i64 ml]] (by rfl) rfl rfl (by first | rfl | (simp [Act.eval]; done)) ?_
  refine (ref_Writes (m := ⟨true, mb, mf, ma, mp, ml⟩) (HM.out.below hHeld.1)).mono ?_
  rintro e wc ⟨rfl, hb⟩
  refine ⟨_, rfl, ?_⟩
  refine hK.out _ _ ⟨below_step hHeld.1 hb, blk_below hHeld.2 hb⟩ (fun hHeld2 => ?_)
  clear hK K hb hHeld
  have hHeld := hHeld2
  clear hHeld2
  refine norm_ (a' := ?_) ?_ ?_
  rotate_left
  · show Act.put _ (some 25) _ = _
    simp only [Act.put, List.setIfInBounds_toArray, List.set_cons_zero, List.set_cons_succ, i64_w, i32_w]
    rfl
  refine pure_ (i := 11) (N := some 26) (v := ?_) (a' := ?_) #[true, true, true, true, true, true, true, true, true, true, true, true, false] rfl rfl (by kernel_rfl) (fun _ _ _ h => h) (Or.inl ⟨by rfl, ?_⟩) ?_ ?_
  rotate_left
  · intro w'
    go_simp
    with_reducible rfl
  rotate_left
  · simp only [Act.put, List.setIfInBounds_toArray, List.set_cons_zero, List.set_cons_succ, i64_w, i32_w]
    rfl
  refine pure_ (i := 12) (N := some 27) (v := ?_) (a' := ?_) #[true, true, true, true, true, true, true, true, true, true, true, true, true] rfl rfl (by kernel_rfl) (fun _ _ _ h => h) (Or.inl ⟨by rfl, ?_⟩) ?_ ?_
  rotate_left
  · intro w'
    go_simp
    with_reducible rfl
  rotate_left
  · simp only [Act.put, List.setIfInBounds_toArray, List.set_cons_zero, List.set_cons_succ, i64_w, i32_w]
    rfl
  refine done_ (by kernel_rfl) ?_
  have HB := Aside0.mk hHeld.1
  have BP := Aside0.mk hHeld.2
  clear hHeld
  go_wp2
  go_loopg [5] (mb.length + 2) (fun g vi wr => ∃ i : Int, vi = .int .i64 i ∧ -1 ≤ i ∧ i + g = (mb.length : Int) + 1 ∧ Below w.heap.size w wr ∧ wr.heap[gp]? = some (.cells #[.bool true, .slice A1 mb.length c1, .slice A2 mf.length c2, .slice A3 ma.length c3, .slice A4 mp.length c4, .int .i64 ml] 36 (0, 0)))
  case atStart => exact ⟨-1, rfl, by omega, by push_cast; omega, HB.out, BP.out⟩
  case round =>
    clear HB BP
    obtain ⟨i, rfl, hi1, hig, hb, hbp⟩ := hrel
    have HB := Aside0.mk hb
    have BP := Aside0.mk hbp
    obtain ⟨q0, q1, q2, q3, q4, q5⟩ := c6 hbp
    clear hb hbp
    by_cases c : i ≤ (mb.length : Int)
    · have HR1 := Aside0.mk (fun w2 hb => HS.out.reads w2 i hb)
      have HR2 := Aside0.mk (fun w2 (hb : Below w.heap.size w w2) => ref_Read (m := ⟨true, mb, mf, ma, mp, ml⟩) (HM.out.below hb) i (rRead ⟨true, mb, mf, ma, mp, ml⟩ i).1 (rRead ⟨true, mb, mf, ma, mp, ml⟩ i).2 rfl)
      generalize (rRead ⟨true, mb, mf, ma, mp, ml⟩ i).1 = ra at HR1 HR2
      generalize (rRead ⟨true, mb, mf, ma, mp, ml⟩ i).2 = rb at HR1 HR2
      dsimp only at HR2
      go_wp2_with (first
        | (go_at_call 16; with_reducible refine (HR1.out _ HB.out).mono ?_; rintro e w2 ⟨rfl, hb⟩; have n1_ := Aside0.mk (blk_below BP.out hb); have n2_ := Aside0.mk (below_step HB.out hb); clear BP HB q0 q1 q2 q3 q4 q5 hb; have BP := n1_; have HB := n2_; clear n1_ n2_; obtain ⟨q0, q1, q2, q3, q4, q5⟩ := c6 BP.out)
        | (go_at_call 17; with_reducible refine (HR2.out _ HB.out).mono ?_; rintro e w2 ⟨rfl, hb⟩; have n1_ := Aside0.mk (blk_below BP.out hb); have n2_ := Aside0.mk (below_step HB.out hb); clear BP HB q0 q1 q2 q3 q4 q5 hb; have BP := n1_; have HB := n2_; clear n1_ n2_; obtain ⟨q0, q1, q2, q3, q4, q5⟩ := c6 BP.out))
      go_roundg ((mb.length : Int) + 1 - (i + 1)).toNat
      case measure => omega
      case rel => exact ⟨i + 1, by have := HL.out; congr 1; unfold wrap64; omega, by omega, by omega, HB.out, BP.out⟩
    · have cb : decide (i ≤ (mb.length : Int)) = false := decide_eq_false c
      go_wp2
      go_ret
      exact ⟨by first | rfl | (simp; done), HB.out⟩
set_option maxHeartbeats 16000000 in
set_option maxRecDepth 1000000 in
theorem same_some {w : World} {ok : Nat → Prop} {p : Nat} {A1 A2 A3 A4 : Option Addr} {c1 c2 c3 c4 : Nat} {mb mf : List ByteArray} {ma : List Int} {mp : List ByteArray} {ml : Int} (hs : Sames w (.pointer (some ⟨p, 0, none⟩)) ⟨false, mb, mf, ma, mp, ml⟩) (h : MV w ok (.slice A1 mb.length c1) (.slice A2 mf.length c2) (.slice A3 ma.length c3) (.slice A4 mp.length c4) ⟨false, mb, mf, ma, mp, ml⟩) (hl : mb.length ≤ 65536) : Calls Try.prog 14 #[.pointer (some ⟨p, 0, none⟩), .agg #[.bool false, .slice A1 mb.length c1, .slice A2 mf.length c2, .slice A3 ma.length c3, .slice A4 mp.length c4, .int .i64 ml]] w (SamePost w) := by
  have HM := Aside0.mk h
  have HS := Aside0.mk hs
  have HL := Aside0.mk hl
  clear h hs hl
  go_enter Try.func14, Try.ntmps14
  go_wp2_with (first
    | ((with_reducible refine gate_dst (N := 3) rfl ?_); refine box_event rfl (N := 3) rfl (cs := #[.bool false, .slice A1 mb.length c1, .slice A2 mf.length c2, .slice A3 ma.length c3, .slice A4 mp.length c4, .int .i64 ml]) (t := 36) ?hrp ?_; (case hrp => first | (go_simp; done) | (go_simp; rfl)); intro gp hgp wp hbox hbb; have BP := Aside0.mk hbox; have HB := Aside0.mk hbb; obtain ⟨q0, q1, q2, q3, q4, q5⟩ := c6 hbox; clear hbox hgp hbb))
  refine start_ (n := 13) (S := fun w' => Below w.heap.size w w' ∧ w'.heap[gp]? = some (.cells #[.bool false, .slice A1 mb.length c1, .slice A2 mf.length c2, .slice A3 ma.length c3, .slice A4 mp.length c4, .int .i64 ml] 36 (0, 0))) (ds := []) #[false, false, false, false, false, false, false, false, false, false, false, false, false] (by kernel_rfl) rfl rfl ⟨below_drew1 HB.out, blk_drew BP.out⟩ (fun hHeld => ?_)
  clear BP HB q0 q1 q2 q3 q4 q5
  refine pure_ (i := 0) (N := some 15) (v := ?_) (a' := ?_) #[true, false, false, false, false, false, false, false, false, false, false, false, false] rfl rfl (by kernel_rfl) (fun _ _ _ h => h) (Or.inl ⟨by rfl, ?_⟩) ?_ ?_
  rotate_left
  · intro w'
    go_simp
    with_reducible rfl
  rotate_left
  · simp only [Act.put, List.setIfInBounds_toArray, List.set_cons_zero, List.set_cons_succ, i64_w, i32_w]
    rfl
  refine pure_ (i := 2) (N := some 17) (v := ?_) (a' := ?_) #[true, false, true, false, false, false, false, false, false, false, false, false, false] rfl rfl (by kernel_rfl) (fun _ _ _ h => h) (Or.inl ⟨by rfl, ?_⟩) ?_ ?_
  rotate_left
  · intro w'
    go_simp
    with_reducible rfl
  rotate_left
  · simp only [Act.put, List.setIfInBounds_toArray, List.set_cons_zero, List.set_cons_succ, i64_w, i32_w]
    rfl
  refine take_ (i := 3) (N := some 18) (v := ?_) (a' := ?_) #[true, false, true, true, false, false, false, false, false, false, false, false, false] rfl rfl (by kernel_rfl) (fun _ _ _ h => h) (Or.inl ⟨by rfl, ?_⟩) hHeld ?_ ?_
  rotate_left
  · rintro w' hS
    obtain ⟨x0, x1, x2, x3, x4, x5⟩ := c6 hS.2
    go_simp
    with_reducible rfl
  rotate_left
  · simp only [Act.put, List.setIfInBounds_toArray, List.set_cons_zero, List.set_cons_succ, i64_w, i32_w]
    rfl
  refine pure_ (i := 4) (N := some 19) (v := ?_) (a' := ?_) #[true, false, true, true, true, false, false, false, false, false, false, false, false] rfl rfl (by kernel_rfl) (fun _ _ _ h => h) (Or.inl ⟨by rfl, ?_⟩) ?_ ?_
  rotate_left
  · intro w'
    go_simp
    with_reducible rfl
  rotate_left
  · simp only [Act.put, List.setIfInBounds_toArray, List.set_cons_zero, List.set_cons_succ, i64_w, i32_w]
    rfl
  refine one_ (i := 1) (N := some 16) #[true, true, true, true, true, false, false, false, false, false, false, false, false] rfl rfl (by kernel_rfl) (by decide) (fun K hK => ?_)
  refine goes_ (f := 20) Try.func20 (by kernel_rfl) rfl #[.pointer (some ⟨p, 0, none⟩)] (by rfl) rfl rfl (by first | rfl | (simp [Act.eval]; done)) ?_
  refine (HS.out.blocks _ hHeld.1).mono ?_
  rintro e wa ⟨rfl, hb⟩
  refine ⟨_, rfl, ?_⟩
  refine hK.out _ _ ⟨below_step hHeld.1 hb, blk_below hHeld.2 hb⟩ (fun hHeld2 => ?_)
  clear hK K hb hHeld
  have hHeld := hHeld2
  clear hHeld2
  refine norm_ (a' := ?_) ?_ ?_
  rotate_left
  · show Act.put _ (some 16) _ = _
    simp only [Act.put, List.setIfInBounds_toArray, List.set_cons_zero, List.set_cons_succ, i64_w, i32_w]
    rfl
  refine pure_ (i := 5) (N := some 20) (v := ?_) (a' := ?_) #[true, true, true, true, true, true, false, false, false, false, false, false, false] rfl rfl (by kernel_rfl) (fun _ _ _ h => h) (Or.inl ⟨by rfl, ?_⟩) ?_ ?_
  rotate_left
  · intro w'
    go_simp
    with_reducible rfl
  rotate_left
  · simp only [Act.put, List.setIfInBounds_toArray, List.set_cons_zero, List.set_cons_succ, i64_w, i32_w]
    rfl
  refine pure_ (i := 6) (N := some 21) (v := ?_) (a' := ?_) #[true, true, true, true, true, true, true, false, false, false, false, false, false] rfl rfl (by kernel_rfl) (fun _ _ _ h => h) (Or.inl ⟨by rfl, ?_⟩) ?_ ?_
  rotate_left
  · intro w'
    go_simp
    with_reducible rfl
  rotate_left
  · simp only [Act.put, List.setIfInBounds_toArray, List.set_cons_zero, List.set_cons_succ, i64_w, i32_w]
    rfl
  refine pure_ (i := 7) (N := some 22) (v := ?_) (a' := ?_) #[true, true, true, true, true, true, true, true, false, false, false, false, false] rfl rfl (by kernel_rfl) (fun _ _ _ h => h) (Or.inl ⟨by rfl, ?_⟩) ?_ ?_
  rotate_left
  · intro w'
    go_simp
    with_reducible rfl
  rotate_left
  · simp only [Act.put, List.setIfInBounds_toArray, List.set_cons_zero, List.set_cons_succ, i64_w, i32_w]
    rfl
  refine take_ (i := 9) (N := some 24) (v := ?_) (a' := ?_) #[true, true, true, true, true, true, true, true, false, true, false, false, false] rfl rfl (by kernel_rfl) (fun _ _ _ h => h) (Or.inl ⟨by rfl, ?_⟩) hHeld ?_ ?_
  rotate_left
  · rintro w' hS
    obtain ⟨x0, x1, x2, x3, x4, x5⟩ := c6 hS.2
    go_simp
    with_reducible rfl
  rotate_left
  · simp only [Act.put, List.setIfInBounds_toArray, List.set_cons_zero, List.set_cons_succ, i64_w, i32_w]
    rfl
  refine one_ (i := 8) (N := some 23) #[true, true, true, true, true, true, true, true, true, true, false, false, false] rfl rfl (by kernel_rfl) (by decide) (fun K hK => ?_)
  refine goes_ (f := 12) Try.func12 (by kernel_rfl) rfl #[.pointer (some ⟨p, 0, none⟩)] (by rfl) rfl rfl (by first | rfl | (simp [Act.eval]; done)) ?_
  refine (HS.out.writes _ hHeld.1).mono ?_
  rintro e wb ⟨rfl, hb⟩
  refine ⟨_, rfl, ?_⟩
  refine hK.out _ _ ⟨below_step hHeld.1 hb, blk_below hHeld.2 hb⟩ (fun hHeld2 => ?_)
  clear hK K hb hHeld
  have hHeld := hHeld2
  clear hHeld2
  refine norm_ (a' := ?_) ?_ ?_
  rotate_left
  · show Act.put _ (some 23) _ = _
    simp only [Act.put, List.setIfInBounds_toArray, List.set_cons_zero, List.set_cons_succ, i64_w, i32_w]
    rfl
  refine one_ (i := 10) (N := some 25) #[true, true, true, true, true, true, true, true, true, true, true, false, false] rfl rfl (by kernel_rfl) (by decide) (fun K hK => ?_)
  refine goes_ (f := 23) Try.func23 (by kernel_rfl) rfl #[.agg #[.bool false, .slice A1 mb.length c1, .slice A2 mf.length c2, .slice A3 ma.length c3, .slice A4 mp.length c4, .int .i64 ml]] (by rfl) rfl rfl (by first | rfl | (simp [Act.eval]; done)) ?_
  refine (ref_Writes (m := ⟨false, mb, mf, ma, mp, ml⟩) (HM.out.below hHeld.1)).mono ?_
  rintro e wc ⟨rfl, hb⟩
  refine ⟨_, rfl, ?_⟩
  refine hK.out _ _ ⟨below_step hHeld.1 hb, blk_below hHeld.2 hb⟩ (fun hHeld2 => ?_)
  clear hK K hb hHeld
  have hHeld := hHeld2
  clear hHeld2
  refine norm_ (a' := ?_) ?_ ?_
  rotate_left
  · show Act.put _ (some 25) _ = _
    simp only [Act.put, List.setIfInBounds_toArray, List.set_cons_zero, List.set_cons_succ, i64_w, i32_w]
    rfl
  refine pure_ (i := 11) (N := some 26) (v := ?_) (a' := ?_) #[true, true, true, true, true, true, true, true, true, true, true, true, false] rfl rfl (by kernel_rfl) (fun _ _ _ h => h) (Or.inl ⟨by rfl, ?_⟩) ?_ ?_
  rotate_left
  · intro w'
    go_simp
    with_reducible rfl
  rotate_left
  · simp only [Act.put, List.setIfInBounds_toArray, List.set_cons_zero, List.set_cons_succ, i64_w, i32_w]
    rfl
  refine pure_ (i := 12) (N := some 27) (v := ?_) (a' := ?_) #[true, true, true, true, true, true, true, true, true, true, true, true, true] rfl rfl (by kernel_rfl) (fun _ _ _ h => h) (Or.inl ⟨by rfl, ?_⟩) ?_ ?_
  rotate_left
  · intro w'
    go_simp
    with_reducible rfl
  rotate_left
  · simp only [Act.put, List.setIfInBounds_toArray, List.set_cons_zero, List.set_cons_succ, i64_w, i32_w]
    rfl
  refine done_ (by kernel_rfl) ?_
  have HB := Aside0.mk hHeld.1
  have BP := Aside0.mk hHeld.2
  clear hHeld
  go_wp2
  go_loopg [5] (mb.length + 2) (fun g vi wr => ∃ i : Int, vi = .int .i64 i ∧ -1 ≤ i ∧ i + g = (mb.length : Int) + 1 ∧ Below w.heap.size w wr ∧ wr.heap[gp]? = some (.cells #[.bool false, .slice A1 mb.length c1, .slice A2 mf.length c2, .slice A3 ma.length c3, .slice A4 mp.length c4, .int .i64 ml] 36 (0, 0)))
  case atStart => exact ⟨-1, rfl, by omega, by push_cast; omega, HB.out, BP.out⟩
  case round =>
    clear HB BP
    obtain ⟨i, rfl, hi1, hig, hb, hbp⟩ := hrel
    have HB := Aside0.mk hb
    have BP := Aside0.mk hbp
    obtain ⟨q0, q1, q2, q3, q4, q5⟩ := c6 hbp
    clear hb hbp
    by_cases c : i ≤ (mb.length : Int)
    · have HR1 := Aside0.mk (fun w2 hb => HS.out.reads w2 i hb)
      have HR2 := Aside0.mk (fun w2 (hb : Below w.heap.size w w2) => ref_Read (m := ⟨false, mb, mf, ma, mp, ml⟩) (HM.out.below hb) i (rRead ⟨false, mb, mf, ma, mp, ml⟩ i).1 (rRead ⟨false, mb, mf, ma, mp, ml⟩ i).2 rfl)
      generalize (rRead ⟨false, mb, mf, ma, mp, ml⟩ i).1 = ra at HR1 HR2
      generalize (rRead ⟨false, mb, mf, ma, mp, ml⟩ i).2 = rb at HR1 HR2
      dsimp only at HR2
      go_wp2_with (first
        | (go_at_call 16; with_reducible refine (HR1.out _ HB.out).mono ?_; rintro e w2 ⟨rfl, hb⟩; have n1_ := Aside0.mk (blk_below BP.out hb); have n2_ := Aside0.mk (below_step HB.out hb); clear BP HB q0 q1 q2 q3 q4 q5 hb; have BP := n1_; have HB := n2_; clear n1_ n2_; obtain ⟨q0, q1, q2, q3, q4, q5⟩ := c6 BP.out)
        | (go_at_call 17; with_reducible refine (HR2.out _ HB.out).mono ?_; rintro e w2 ⟨rfl, hb⟩; have n1_ := Aside0.mk (blk_below BP.out hb); have n2_ := Aside0.mk (below_step HB.out hb); clear BP HB q0 q1 q2 q3 q4 q5 hb; have BP := n1_; have HB := n2_; clear n1_ n2_; obtain ⟨q0, q1, q2, q3, q4, q5⟩ := c6 BP.out))
      go_roundg ((mb.length : Int) + 1 - (i + 1)).toNat
      case measure => omega
      case rel => exact ⟨i + 1, by have := HL.out; congr 1; unfold wrap64; omega, by omega, by omega, HB.out, BP.out⟩
    · have cb : decide (i ≤ (mb.length : Int)) = false := decide_eq_false c
      go_wp2
      go_ret
      exact ⟨by first | rfl | (simp; done), HB.out⟩
theorem same_calls {w : World} {ok : Nat → Prop} {v v1 v2 v3 v4 : Value} {m : RM} (hs : Sames w v m) (h : MV w ok v1 v2 v3 v4 m) (hl : m.bl.length ≤ 65536) : Calls Try.prog 14 #[v, .agg #[.bool m.nil, v1, v2, v3, v4, .int .i64 m.left]] w (SamePost w) := by
  obtain ⟨A1, c1, rfl⟩ := Kd.V_slice h.r1
  obtain ⟨A2, c2, rfl⟩ := Kd.V_slice h.r2
  obtain ⟨A3, c3, rfl⟩ := Kd.V_slice h.r3
  obtain ⟨A4, c4, rfl⟩ := Kd.V_slice h.r4
  obtain ⟨mn, mb, mf, ma, mp, ml⟩ := m
  rcases hs.form with ⟨rfl, e⟩ | ⟨p, rfl, e⟩
  · dsimp only at e
    subst e
    exact same_nil hs h hl
  · dsimp only at e
    subst e
    exact same_some hs h hl
end Go.Proofs.Ytfinlgckalbfoaa.PAll
