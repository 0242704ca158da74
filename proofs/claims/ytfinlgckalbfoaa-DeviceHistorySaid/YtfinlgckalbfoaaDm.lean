/- What the methods of a device (package device) return: Blocks, Writes, Read, Limit. -/
import Derived.Test.YtfinlgckalbfoaaDv
namespace Go.Proofs.Ytfinlgckalbfoaa.PAll
open Go.RowKit Go.Proofs.YtfinlgckalbfoaaW.PrintWords Go.Proofs.YtfinlgckalbfoaaW.PrintLast Go.Proofs.YtfinlgckalbfoaaW.PrintMore
set_option linter.unusedVariables false
set_option linter.unusedSimpArgs false
attribute [local irreducible] Calls
attribute [local go_sem] max2_int min2_int max_two min_two

section
variable {w : World} {base : Nat} {ok : Nat → Prop} {v : Value} {d : Dv}
set_option maxHeartbeats 8000000 in
set_option maxRecDepth 100000 in
theorem dev_Blocks (h : DR w base ok v d) : Calls Try.prog 20 #[v] w fun e w' => e = .returned (.int .i64 d.now.length) ∧ Drawn0 w w' := by
  obtain ⟨g, p, sf, sl, sn, rfl, hc⟩ := h
  obtain ⟨A, c, rfl⟩ := Kd.R_slice hc.N
  have e2 := hc.c2
  clear hc g
  go_enter Try.func20, Try.ntmps20
  go_wp2
  go_ret
  exact ⟨by first | rfl | (simp; done) | (simp [*]; done), by repeat (first | exact Drawn0.refl _ | apply Drawn0.step)⟩
set_option maxHeartbeats 8000000 in
set_option maxRecDepth 100000 in
theorem dev_Writes (h : DR w base ok v d) : Calls Try.prog 12 #[v] w fun e w' => e = .returned (.int .i64 d.log.length) ∧ Drawn0 w w' := by
  obtain ⟨g, p, sf, sl, sn, rfl, hc⟩ := h
  obtain ⟨A, c, rfl⟩ := Kd.R_slice hc.L
  have e2 := hc.c1
  clear hc g
  go_enter Try.func12, Try.ntmps12
  go_wp2
  go_ret
  exact ⟨by first | rfl | (simp; done) | (simp [*]; done), by repeat (first | exact Drawn0.refl _ | apply Drawn0.step)⟩
set_option maxHeartbeats 8000000 in
set_option maxRecDepth 100000 in
theorem dev_Blocks_nil (w : World) : Calls Try.prog 20 #[.pointer none] w fun e w' => e = .returned (.int .i64 0) ∧ Drawn0 w w' := by
  go_enter Try.func20, Try.ntmps20
  go_wp2
  go_ret
  exact ⟨by first | rfl | (simp; done) | (simp [*]; done), by repeat (first | exact Drawn0.refl _ | apply Drawn0.step)⟩
set_option maxHeartbeats 8000000 in
set_option maxRecDepth 100000 in
theorem dev_Writes_nil (w : World) : Calls Try.prog 12 #[.pointer none] w fun e w' => e = .returned (.int .i64 0) ∧ Drawn0 w w' := by
  go_enter Try.func12, Try.ntmps12
  go_wp2
  go_ret
  exact ⟨by first | rfl | (simp; done) | (simp [*]; done), by repeat (first | exact Drawn0.refl _ | apply Drawn0.step)⟩
set_option maxHeartbeats 8000000 in
set_option maxRecDepth 100000 in
theorem dev_Read_nil (w : World) (i : Int) : Calls Try.prog 16 #[.pointer none, .int .i64 i] w fun e w' => e = .returned (.tuple #[.string ⟨#[]⟩, .int .i64 1]) ∧ Drawn0 w w' := by
  go_enter Try.func16, Try.ntmps16
  go_wp2
  go_ret2
  exact ⟨by first | rfl | (simp; done) | (simp [*]; done), by repeat (first | exact Drawn0.refl _ | apply Drawn0.step)⟩
set_option maxHeartbeats 8000000 in
set_option maxRecDepth 100000 in
theorem dev_Limit_nil (w : World) (i : Int) : Calls Try.prog 9 #[.pointer none, .int .i64 i] w fun e w' => e = .returned (.tuple #[]) ∧ Drawn0 w w' := by
  go_enter Try.func9, Try.ntmps9
  go_wp2
  go_end0
  exact ⟨by first | rfl | (simp; done) | (simp [*]; done), by repeat (first | exact Drawn0.refl _ | apply Drawn0.step)⟩
set_option maxHeartbeats 8000000 in
set_option maxRecDepth 100000 in
theorem dev_Write_nil (w : World) (i : Int) (s : ByteArray) : Calls Try.prog 10 #[.pointer none, .int .i64 i, .string s] w fun e w' => e = .returned (.int .i64 1) ∧ Drawn0 w w' := by
  go_enter Try.func10, Try.ntmps10
  go_wp2
  go_ret
  exact ⟨by first | rfl | (simp; done) | (simp [*]; done), by repeat (first | exact Drawn0.refl _ | apply Drawn0.step)⟩
set_option maxHeartbeats 8000000 in
set_option maxRecDepth 100000 in
theorem dev_After_nil (w : World) (i : Int) : Calls Try.prog 11 #[.pointer none, .int .i64 i] w fun e w' => e = .returned (.pointer none) ∧ Drawn0 w w' := by
  go_enter Try.func11, Try.ntmps11
  go_wp2
  go_ret
  exact ⟨by first | rfl | (simp; done) | (simp [*]; done), by repeat (first | exact Drawn0.refl _ | apply Drawn0.step)⟩
theorem str_bytes (b : ByteArray) : strOfNums (bytesOf b) = b := by
  unfold strOfNums bytesOf
  cases b with
  | mk a =>
    congr 1
    rw [List.map_map]
    apply Array.ext'
    show List.map _ a.toList = a.toList
    rw [List.map_congr_left (g := id) (fun x _ => by simp), List.map_id]
/-- Read. -/
def dvRead (d : Dv) (i : Int) : ByteArray × Int := if 0 ≤ i ∧ i < (d.now.length : Int) then (d.now.getD i.toNat ⟨#[]⟩, 0) else (⟨#[]⟩, 2)
theorem block_string {g n c : Nat} {xs : List ByteArray} (h : Kd.R kB 54 w base ok (.slice (some ⟨g, 0, none⟩) n c) xs) (i : Int) (h0 : 0 ≤ i) (h1 : i < n) : (convert 47 9 (.slice (some ⟨g, i.toNat * 64, none⟩) 64 64)).run Try.prog w = .ok (.string (xs.getD i.toNat ⟨#[]⟩)) w := by
  obtain ⟨cs, hl, hM, hcc, _⟩ := Kd.R_elem h (⟨#[]⟩ : ByteArray) i h0 h1
  obtain ⟨hs, rfl⟩ := hM
  have hC : (Kd.int .u8).C w (some ⟨g, i.toNat * 64, none⟩) 64 (bytesOf (xs.getD i.toNat ⟨#[]⟩)) := by
    have hr : ReadsOf (Value.int .u8) 0 w (some ⟨g, i.toNat * 64, none⟩) 64 (bytesOf (xs.getD i.toNat ⟨#[]⟩)) := by
      refine ⟨by rw [bytesOf_length]; exact hs, by decide, fun _ => ⟨_, rfl, fun j hj => ?_⟩⟩
      have hj2 : j < (bytesOf (xs.getD i.toNat ⟨#[]⟩)).length := by rw [bytesOf_length, hs]; exact hj
      have := hcc j _ (by rw [bcs, List.getElem?_map, List.getElem?_eq_getElem hj2]; rfl)
      rw [Addr.add_mid]
      rw [List.getD_eq_getElem?_getD, List.getElem?_eq_getElem hj2]
      exact this
    exact Kd.C_of_reads hr
  rw [Kd.C_string Try.underlying47 Try.underlying5 Try.underlying9 hC]
  rw [str_bytes]
set_option maxHeartbeats 8000000 in
set_option maxRecDepth 100000 in
theorem dev_Read (h : DR w base ok v d) (i : Int) (r1 : ByteArray) (r2 : Int) (hr : dvRead d i = (r1, r2)) : Calls Try.prog 16 #[v, .int .i64 i] w fun e w' => e = .returned (.tuple #[.string r1, .int .i64 r2]) ∧ Drawn0 w w' := by
  obtain ⟨g, p, sf, sl, sn, rfl, hc⟩ := h
  have e2 := hc.c2
  unfold dvRead at hr
  by_cases c1 : 0 ≤ i
  · by_cases c2 : i < (d.now.length : Int)
    · rw [if_pos ⟨c1, c2⟩] at hr
      simp only [Prod.mk.injEq] at hr
      obtain ⟨rfl, rfl⟩ := hr
      obtain ⟨gn, cn, rfl, _⟩ := Kd.R_form hc.N (by omega)
      have hst := block_string hc.N i c1 c2
      generalize d.now.getD i.toNat (⟨#[]⟩ : ByteArray) = blk at hst ⊢
      clear hc g
      go_enter Try.func16, Try.ntmps16
      go_wp2
      go_ret2
      exact ⟨by first | rfl | (simp; done) | (simp [*]; done), by repeat (first | exact Drawn0.refl _ | apply Drawn0.step)⟩
    · rw [if_neg (fun h => c2 h.2)] at hr
      simp only [Prod.mk.injEq] at hr
      obtain ⟨rfl, rfl⟩ := hr
      obtain ⟨A, c, rfl⟩ := Kd.R_slice hc.N
      clear hc g
      have c2b : decide ((d.now.length : Int) ≤ i) = true := decide_eq_true (by omega)
      go_enter Try.func16, Try.ntmps16
      go_wp2
      go_ret2
      exact ⟨by first | rfl | (simp; done) | (simp [*]; done), by repeat (first | exact Drawn0.refl _ | apply Drawn0.step)⟩
  · rw [if_neg (fun h => c1 h.1)] at hr
    simp only [Prod.mk.injEq] at hr
    obtain ⟨rfl, rfl⟩ := hr
    obtain ⟨A, c, rfl⟩ := Kd.R_slice hc.N
    clear hc g
    have c1b : decide (i < 0) = true := decide_eq_true (by omega)
    go_enter Try.func16, Try.ntmps16
    go_wp2
    go_ret2
    exact ⟨by first | rfl | (simp; done) | (simp [*]; done), by repeat (first | exact Drawn0.refl _ | apply Drawn0.step)⟩

/-- Limit. -/
def dvLimit (d : Dv) (n : Int) : Dv := { d with lim := true, left := max n 0 }
theorem DC.limit {p : Nat} {sf sl sn : Value} (h : DC w base ok p sf sl sn d) (n : Int) : DC ((w.setCell ⟨p, 3, none⟩ (.bool true)).setCell ⟨p, 4, none⟩ (.int .i64 n)) base ok p sf sl sn { d with lim := true, left := n } := by
  have far : ∀ {α : Type} {k : Kd α} {e : Nat} {u : Value} {xs : List α}, Kd.R k e w base ok u xs → some p ≠ u.ownBlock → (∀ q, q ∈ e :: k.E → q ≠ 52) → Kd.R k e ((w.setCell ⟨p, 3, none⟩ (.bool true)).setCell ⟨p, 4, none⟩ (.int .i64 n)) base ok u xs := by
    intro α k e u xs hr hne ht
    have h1 := Kd.R_types hr h.cells ht
    exact Kd.R_mono (Kd.R_step h1 (fun k hk _ => (Below.heap_setCell _ ⟨p, 4, none⟩ _ k hk.2).trans (Below.heap_setCell _ ⟨p, 3, none⟩ _ k hk.2))) (fun k hk => hk.1)
  exact ⟨h.bp, h.op, blk_set (cs := #[sf, sl, sn, .bool true, .int .i64 d.left]) (blk_set (cs := #[sf, sl, sn, .bool d.lim, .int .i64 d.left]) h.cells 3 _) 4 _, far h.F h.npf (by decide), far h.L h.npl (by decide), far h.N h.npn (by decide), h.ap⟩
set_option maxHeartbeats 8000000 in
set_option maxRecDepth 100000 in
theorem dev_Limit (h : DR w base ok v d) (n : Int) : Calls Try.prog 9 #[v, .int .i64 n] w fun e w' => e = .returned (.tuple #[]) ∧ DR w' base ok v (dvLimit d n) ∧ Tr base ok w w' := by
  obtain ⟨g, p, sf, sl, sn, rfl, hc⟩ := h
  have e3 := hc.c3
  have e4 := hc.c4
  have f3 := hc.fz 3
  have f4 := hc.fz 4
  have HC := Aside0.mk hc
  have HG := Aside0.mk g
  clear hc g
  go_enter Try.func9, Try.ntmps9
  go_wp2
  all_goals
    go_end0
    refine ⟨rfl, ⟨⟨HG.out.n1, HG.out.n2, HG.out.nf, HG.out.ll, HG.out.at_⟩, p, sf, sl, sn, rfl, ?_⟩, ((Tr.refl base ok w).set HC.out.bp HC.out.op _ _).set HC.out.bp HC.out.op _ _⟩
    unfold dvLimit
    first
    | (rw [show max n 0 = n by omega]; exact HC.out.limit n)
    | (rw [show max n 0 = 0 by omega]; exact HC.out.limit 0)
end
end Go.Proofs.Ytfinlgckalbfoaa.PAll
