/- The walks of less and swap (package pq). -/
import Derived.Test.YtpdgifldpnpeeaaQP
namespace Go.Proofs.Ytpdgifldpnpeeaa.PAll
open Go.RowKit Go.Proofs.YtpdgifldpnpeeaaW.PrintWords Go.Proofs.YtpdgifldpnpeeaaW.PrintLast Go.Proofs.YtpdgifldpnpeeaaW.PrintMore
set_option linter.unusedVariables false
set_option linter.unusedSimpArgs false
attribute [local irreducible] Calls

set_option maxHeartbeats 8000000 in
set_option maxRecDepth 100000 in
theorem pq_less.calls {w : World} {base : Nat} {ok : Nat → Prop} {p gh gp gk ch cp ck nh n : Nat} {hp pl ky : List Int} (h : QC w base ok p gh gp gk ch cp ck nh n hp pl ky) (i k : Int) (hi0 : 0 ≤ i) (hi1 : i < nh) (hk0 : 0 ≤ k) (hk1 : k < nh)
    (ha0 : 0 ≤ rd hp i) (ha1 : rd hp i < n) (hb0 : 0 ≤ rd hp k) (hb1 : rd hp k < n) :
    Calls Try.prog 26 #[.pointer (some ⟨p, 0, none⟩), .int .i64 i, .int .i64 k] w fun e w' => e = .returned (.bool (ltk ky (rd hp i) (rd hp k))) ∧ Drawn0 w w' := by
  have e0 := h.c0
  have e2 := h.c2
  have r1 := (h.rh hi0 hi1).1
  have r2 := (h.rh hk0 hk1).1
  have r3 := (h.rk ha0 ha1).1
  have r4 := (h.rk hb0 hb1).1
  clear h
  generalize rd hp i = a at *
  generalize rd hp k = b at *
  unfold ltk
  by_cases c1 : rd ky a < rd ky b
  · have d1 : decide (rd ky a < rd ky b) = true := decide_eq_true c1
    go_enter Try.func26, Try.ntmps26
    go_wp2
    repeat (go_quiet (fail); try go_wp2)
    go_ret
    exact ⟨by simp [*], by repeat (first | exact Drawn0.refl _ | apply Drawn0.step)⟩
  · have d1 : decide (rd ky a < rd ky b) = false := decide_eq_false c1
    by_cases c2 : rd ky a = rd ky b
    · have d2 : (rd ky a == rd ky b) = true := beq_iff_eq.2 c2
      clear c1 c2
      generalize rd ky a = x at *
      generalize rd ky b = y at *
      go_enter Try.func26, Try.ntmps26
      go_wp2
      repeat (go_quiet (fail); try go_wp2)
      go_ret
      exact ⟨by simp [*], by repeat (first | exact Drawn0.refl _ | apply Drawn0.step)⟩
    · have d2 : (rd ky a == rd ky b) = false := beq_eq_false_iff_ne.2 c2
      clear c1 c2
      generalize rd ky a = x at *
      generalize rd ky b = y at *
      go_enter Try.func26, Try.ntmps26
      go_wp2
      repeat (go_quiet (fail); try go_wp2)
      go_ret
      exact ⟨by simp [*], by repeat (first | exact Drawn0.refl _ | apply Drawn0.step)⟩

set_option maxHeartbeats 16000000 in
set_option maxRecDepth 1000000 in
theorem pq_swap.calls {w : World} {base : Nat} {ok : Nat → Prop} {p gh gp gk ch cp ck nh n : Nat} {hp pl ky : List Int} (h : QC w base ok p gh gp gk ch cp ck nh n hp pl ky) (i k : Int) (hi0 : 0 ≤ i) (hi1 : i < nh) (hk0 : 0 ≤ k) (hk1 : k < nh)
    (ha0 : 0 ≤ rd hp i) (ha1 : rd hp i < n) (hb0 : 0 ≤ rd hp k) (hb1 : rd hp k < n) :
    Calls Try.prog 24 #[.pointer (some ⟨p, 0, none⟩), .int .i64 i, .int .i64 k] w fun e w' => e = .returned (.tuple #[]) ∧ QC w' base ok p gh gp gk ch cp ck nh n (swh hp i k) (swp hp pl i k) ky ∧ Tr base ok w w' := by
  have e0 := h.c0
  have e1 := h.c1
  have r1 := h.rh hi0 hi1
  have r2 := h.rh hk0 hk1
  have HQ := Aside0.mk h
  have hnh := h.hl.1
  have HT := Aside0.mk (Tr.refl base ok w)
  clear h
  obtain ⟨r1, f1⟩ := r1
  obtain ⟨r2, f2⟩ := r2
  obtain ⟨r3, f3⟩ := (HQ.out.setH i (rd hp k)).rh hk0 hk1
  have HQ2 := Aside0.mk ((HQ.out.setH i (rd hp k)).setH k (rd hp i))
  have HT2 := Aside0.mk ((HT.out.set HQ.out.bh.1 HQ.out.bh.2 i.toNat (.int .i64 (rd hp k))).set HQ.out.bh.1 HQ.out.bh.2 k.toNat (.int .i64 (rd hp i)))
  have hl1 : i.toNat < hp.length := by omega
  have hl2 : k.toNat < hp.length := by omega
  have v1 : rd (swh hp i k) i = if i.toNat = k.toNat then rd hp i else rd hp k := by
    unfold swh
    rw [rd_set _ _ _ _ (by simpa using hl2), rd_set _ _ _ _ hl1, if_pos rfl]
  have v2 : rd (swh hp i k) k = rd hp i := by
    unfold swh
    rw [rd_set _ _ _ _ (by simpa using hl2), if_pos rfl]
  have u0 : 0 ≤ rd (swh hp i k) i := by rw [v1]; split <;> assumption
  have u1 : rd (swh hp i k) i < n := by rw [v1]; split <;> assumption
  have w0' : 0 ≤ rd (swh hp i k) k := by rw [v2]; assumption
  have w1' : rd (swh hp i k) k < n := by rw [v2]; assumption
  have hfin : (pl.set (rd (swh hp i k) i).toNat i).set (rd (swh hp i k) k).toNat k = swp hp pl i k := rfl
  have hfin2 : (hp.set i.toNat (rd hp k)).set k.toNat (rd hp i) = swh hp i k := rfl
  rw [hfin2] at HQ2
  generalize swp hp pl i k = PL at hfin ⊢
  have HF := Aside0.mk hfin
  clear hnh v1 v2 hl1 hl2 hfin hfin2
  generalize swh hp i k = HH at *
  go_enter Try.func24, Try.ntmps24
  go_wp2
  go_region
  generalize hW1 : ((w.setCell ⟨gh, i.toNat, none⟩ (.int .i64 (rd hp k))).setCell ⟨gh, k.toNat, none⟩ (.int .i64 (rd hp i))).drew = W1
  have HQ3 : Aside0 (QC W1 base ok p gh gp gk ch cp ck nh n HH pl ky) := Aside0.mk (by rw [← hW1]; exact HQ2.out.drew)
  have HT3 : Aside0 (Tr base ok w W1) := Aside0.mk (by rw [← hW1]; exact HT2.out.drew)
  clear hW1 HQ2 HT2 e0 e1 r1 r2 f1 f2 r3 f3
  have e0 := HQ3.out.c0
  have e1 := HQ3.out.c1
  obtain ⟨r1, f1⟩ := HQ3.out.rh hi0 hi1
  obtain ⟨r2, f2⟩ := HQ3.out.rh hk0 hk1
  obtain ⟨r3, f3⟩ := HQ3.out.rp u0 u1
  obtain ⟨r4, f4⟩ := HQ3.out.rp w0' w1'
  obtain ⟨r5, f5⟩ := (HQ3.out.setP (rd HH i) i).rp w0' w1'
  go_wp2
  go_region
  go_end0
  exact ⟨rfl, by rw [← HF.out]; exact ((HQ3.out.setP (rd HH i) i).setP (rd HH k) k).drew, ((HT3.out.set HQ3.out.bpl.1 HQ3.out.bpl.2 _ _).set HQ3.out.bpl.1 HQ3.out.bpl.2 _ _).drew⟩
end Go.Proofs.Ytpdgifldpnpeeaa.PAll
