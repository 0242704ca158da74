/- A queue (package pq) as a value: what its methods return and leave. -/
import Derived.Test.YtpdgifldpnpeeaaQA
import Derived.Test.YtpdgifldpnpeeaaQS
namespace Go.Proofs.Ytpdgifldpnpeeaa.PAll
open Go.RowKit Go.Proofs.YtpdgifldpnpeeaaW.PrintWords Go.Proofs.YtpdgifldpnpeeaaW.PrintLast Go.Proofs.YtpdgifldpnpeeaaW.PrintMore
set_option linter.unusedVariables false
set_option linter.unusedSimpArgs false
attribute [local irreducible] Calls

def pq_New.f (a0 : Int) : Option (List (Option Int)) := if 0 ≤ a0 ∧ a0 ≤ 1048576 then some (List.replicate a0.toNat none) else none
def pq_Queue_Len.f (l0 : List (Option Int)) : Option Int := some (cnt l0 : Int)
def pq_Queue_Key.f (l0 : List (Option Int)) (a1 : Int) : Option (Int × Bool) := some (if 0 ≤ a1 ∧ a1 < (l0.length : Int) then (match gm l0 a1 with | some k => (k, true) | none => (0, false)) else (0, false))
def pq_Queue_Set.f (l0 : List (Option Int)) (a1 a2 : Int) : Option (Bool × List (Option Int)) := some (if 0 ≤ a1 ∧ a1 < (l0.length : Int) then (true, l0.set a1.toNat (some a2)) else (false, l0))
def pq_Queue_Drop.f (l0 : List (Option Int)) (a1 : Int) : Option (Bool × List (Option Int)) := some (if 0 ≤ a1 ∧ a1 < (l0.length : Int) then (match gm l0 a1 with | some _ => (true, l0.set a1.toNat none) | none => (false, l0)) else (false, l0))
def pq_Queue_Pop.f (l0 : List (Option Int)) : Option (Int × Int × Bool × List (Option Int)) := some (if (bestFrom l0 0 (-1) 0).1 < 0 then (0, 0, false, l0) else ((bestFrom l0 0 (-1) 0).1, (bestFrom l0 0 (-1) 0).2, true, l0.set (bestFrom l0 0 (-1) 0).1.toNat none))

/-- v points to a queue; its blocks are from base on, and in ok. -/
def QR (w : World) (base : Nat) (ok : Nat → Prop) (v : Value) (m : List (Option Int)) : Prop :=
  m.length ≤ 1048576 ∧ ∃ (p : Nat) (sh sp sk : Value) (hp pl ky : List Int), v = .pointer (some ⟨p, 0, none⟩) ∧ base ≤ p ∧ ok p ∧ w.heap[p]? = some (.cells #[sh, sp, sk] 54 (0, 0)) ∧
    Kd.R (Kd.int .i64) 3 w base ok sh hp ∧ Kd.R (Kd.int .i64) 3 w base ok sp pl ∧ Kd.R (Kd.int .i64) 3 w base ok sk ky ∧
    (∀ k, sh.ownBlock = some k → sp.ownBlock ≠ some k ∧ sk.ownBlock ≠ some k) ∧ (∀ k, sp.ownBlock = some k → sk.ownBlock ≠ some k) ∧ QAbs m hp pl ky
section
variable {w w1 W : World} {base base' : Nat} {ok ok' : Nat → Prop} {v : Value} {m : List (Option Int)}
theorem QR_ptr (h : QR w base ok v m) : ∃ p, v = .pointer (some ⟨p, 0, none⟩) := by
  obtain ⟨_, p, _, _, _, _, _, _, he, _⟩ := h
  exact ⟨p, he⟩
theorem QR_mono (h : QR w base ok v m) (hok : ∀ k, ok k → ok' k) : QR w base ok' v m := by
  obtain ⟨h0, p, sh, sp, sk, hp, pl, ky, he, h1, h2, h3, h4, h5, h6, h7⟩ := h
  exact ⟨h0, p, sh, sp, sk, hp, pl, ky, he, h1, hok _ h2, h3, Kd.R_mono h4 hok, Kd.R_mono h5 hok, Kd.R_mono h6 hok, h7⟩
theorem QR_lower (h : QR w base ok v m) (hb : base' ≤ base) : QR w base' ok v m := by
  obtain ⟨h0, p, sh, sp, sk, hp, pl, ky, he, h1, h2, h3, h4, h5, h6, h7⟩ := h
  exact ⟨h0, p, sh, sp, sk, hp, pl, ky, he, Nat.le_trans hb h1, h2, h3, Kd.R_lower h4 hb, Kd.R_lower h5 hb, Kd.R_lower h6 hb, h7⟩
theorem QR_bound (h : QR w base ok v m) : QR w base (fun k => ok k ∧ base ≤ k ∧ k < w.heap.size) v m := by
  obtain ⟨h0, p, sh, sp, sk, hp, pl, ky, he, h1, h2, h3, h4, h5, h6, h7⟩ := h
  exact ⟨h0, p, sh, sp, sk, hp, pl, ky, he, h1, ⟨h2, h1, blk_lt h3⟩, h3, Kd.R_mono (Kd.R_bound h4) (fun k hk => ⟨hk.1, hk.2.1, hk.2.2.1⟩), Kd.R_mono (Kd.R_bound h5) (fun k hk => ⟨hk.1, hk.2.1, hk.2.2.1⟩), Kd.R_mono (Kd.R_bound h6) (fun k hk => ⟨hk.1, hk.2.1, hk.2.2.1⟩), h7⟩
theorem QR_step (h : QR w base ok v m) (hm : ∀ k, ok k → k < w.heap.size → w1.heap[k]? = w.heap[k]?) : QR w1 base ok v m := by
  obtain ⟨h0, p, sh, sp, sk, hp, pl, ky, he, h1, h2, h3, h4, h5, h6, h7⟩ := h
  exact ⟨h0, p, sh, sp, sk, hp, pl, ky, he, h1, h2, (hm p h2 (blk_lt h3)).trans h3, Kd.R_step h4 hm, Kd.R_step h5 hm, Kd.R_step h6 hm, h7⟩
theorem QR_below (h : QR w base ok v m) (hb : Below w.heap.size w w1) : QR w1 base ok v m := QR_step h (fun k _ hk => hb.block k hk)
theorem QR_alloc (h : QR w base ok v m) (o : Obj) : QR (w.alloc o) base ok v m := QR_below h (below_alloc (Below.refl _ _) o)
theorem QR_drew (h : QR w base ok v m) : QR w.drew base ok v m := QR_below h (below_drew (Below.refl _ _))
theorem QR_drewN (h : QR w base ok v m) (n : Nat) : QR (w.drewN n) base ok v m := QR_below h (pw_below_drewN (Below.refl _ _) n)
theorem QR_keptB {S : Nat → Prop} (h : QR w base ok v m) (hk : Kept w w1 S) (hne : ∀ k, ok k → ¬ S k) : QR w1 base (fun k => ok k ∧ (¬ S k ∧ k < w.heap.size)) v m :=
  QR_step (QR_mono (QR_bound h) (fun k hk => ⟨hk.1, hne k hk.1, hk.2.2⟩)) (fun k hk' hl => hk.2 k hl hk'.2.1)
theorem QR_grown {W2 : World} {row : Option Nat} (h : QR W base ok v m) (hg : W.grownBy W2 row) (hne : ∀ k, ok k → some k ≠ row) : QR W2 base ok v m := QR_step h (fun k hk hl => hg.block k hl (hne k hk))
/-- A queue for one item or more, its rows in sight. -/
theorem QR_open (h : QR w base ok v m) (hn : 0 < m.length) : ∃ p sh gp gk cp ck hp pl ky, v = .pointer (some ⟨p, 0, none⟩) ∧ QD w base ok p sh gp gk cp ck m.length hp pl ky ∧ QAbs m hp pl ky ∧ m.length ≤ 1048576 := by
  obtain ⟨h0, p, sh, sp, sk, hp, pl, ky, he, h1, h2, h3, h4, h5, h6, h7, h8, h9⟩ := h
  have lp := h9.I.lp
  have lk := h9.I.lk
  obtain ⟨gp, cp, rfl, _⟩ := Kd.R_form h5 (by omega)
  obtain ⟨gk, ck, rfl, _⟩ := Kd.R_form h6 (by omega)
  rw [lp] at h3 h5
  rw [lk] at h3 h6
  exact ⟨p, sh, gp, gk, cp, ck, hp, pl, ky, he, ⟨h1, h2, h3, h4, h5, h6, fun k e => ⟨fun e2 => (h7 k e).1 (by rw [e2]; rfl), fun e2 => (h7 k e).2 (by rw [e2]; rfl)⟩, fun e => h8 gp rfl (by rw [e]; rfl)⟩, h9, h0⟩
theorem QR_close {p gp gk cp ck : Nat} {sh : Value} {hp pl ky : List Int} (h : QD w base ok p sh gp gk cp ck m.length hp pl ky) (ha : QAbs m hp pl ky) (hn : m.length ≤ 1048576) : QR w base ok (.pointer (some ⟨p, 0, none⟩)) m :=
  ⟨hn, p, sh, _, _, hp, pl, ky, rfl, h.bp, h.op, h.cells, h.H, h.P, h.K, fun k e => ⟨fun e2 => (h.ah k e).1 (by cases e2; rfl), fun e2 => (h.ah k e).2 (by cases e2; rfl)⟩, fun k e e2 => h.npk (by cases e; cases e2; rfl), ha⟩
theorem QR_c1 (h : QR w base ok v m) : ∃ p A c, v = .pointer (some ⟨p, 0, none⟩) ∧ w.cell? ⟨p, 1, none⟩ = some (.slice A m.length c) := by
  obtain ⟨h0, p, sh, sp, sk, hp, pl, ky, he, h1, h2, h3, h4, h5, h6, h7, h8, h9⟩ := h
  obtain ⟨A, c, rfl⟩ := Kd.R_slice h5
  exact ⟨p, A, c, he, by rw [← h9.I.lp]; exact (blk_cell h3 1).trans rfl⟩
theorem QR_c0 (h : QR w base ok v m) : ∃ p A c, v = .pointer (some ⟨p, 0, none⟩) ∧ w.cell? ⟨p, 0, none⟩ = some (.slice A (cnt m) c) := by
  obtain ⟨h0, p, sh, sp, sk, hp, pl, ky, he, h1, h2, h3, h4, h5, h6, h7, h8, h9⟩ := h
  obtain ⟨A, c, rfl⟩ := Kd.R_slice h4
  exact ⟨p, A, c, he, by rw [← h9.len]; exact (blk_cell h3 0).trans rfl⟩
end

set_option maxHeartbeats 8000000 in
set_option maxRecDepth 100000 in
theorem pq_has.calls {w : World} {p n c : Nat} {A : Option Addr} (hc : w.cell? ⟨p, 1, none⟩ = some (.slice A n c)) (x : Int) (b : Bool) (hb : decide (0 ≤ x ∧ x < (n : Int)) = b) :
    Calls Try.prog 22 #[.pointer (some ⟨p, 0, none⟩), .int .i64 x] w fun e w' => e = .returned (.bool b) ∧ w = w' := by
  subst hb
  by_cases c1 : 0 ≤ x
  · by_cases c2 : x < (n : Int)
    · rw [decide_eq_true (⟨c1, c2⟩ : 0 ≤ x ∧ x < (n : Int))]
      go_enter Try.func22, Try.ntmps22
      go_wp2
      go_ret
      exact ⟨by first | rfl | (simp; done) | (simp [*]; done), rfl⟩
    · rw [decide_eq_false (fun h : 0 ≤ x ∧ x < (n : Int) => c2 h.2)]
      have c2b : decide (x < (n : Int)) = false := decide_eq_false c2
      go_enter Try.func22, Try.ntmps22
      go_wp2
      go_ret
      exact ⟨by first | rfl | (simp; done) | (simp [*]; done), rfl⟩
  · rw [decide_eq_false (fun h : 0 ≤ x ∧ x < (n : Int) => c1 h.1)]
    have c1b : decide (0 ≤ x) = false := decide_eq_false c1
    go_enter Try.func22, Try.ntmps22
    go_wp2
    go_ret
    exact ⟨by first | rfl | (simp; done) | (simp [*]; done), rfl⟩

set_option maxHeartbeats 8000000 in
set_option maxRecDepth 100000 in
theorem pq_Queue_Len.calls {ok : Nat → Prop} {base : Nat} {u : Value} (l0 : List (Option Int)) (r : Int) (w : World) (ho : QR w base ok u l0) (h : pq_Queue_Len.f l0 = some r) :
    Calls Try.prog 12 #[u] w fun e w' => e = .returned (.int .i64 r) ∧ Drawn0 w w' := by
  obtain rfl := Option.some.inj h
  obtain ⟨p, A, c, rfl, hc0⟩ := QR_c0 ho
  clear ho h
  go_enter Try.func12, Try.ntmps12
  go_wp2
  go_ret
  exact ⟨by first | rfl | (simp; done) | (simp [*]; done), by repeat (first | exact Drawn0.refl _ | apply Drawn0.step)⟩

set_option maxHeartbeats 8000000 in
set_option maxRecDepth 100000 in
theorem pq_Queue_Key.calls {ok : Nat → Prop} {base : Nat} {u : Value} (l0 : List (Option Int)) (a1 : Int) (r1 : Int) (r2 : Bool) (w : World) (ho : QR w base ok u l0) (h : pq_Queue_Key.f l0 a1 = some (r1, r2)) :
    Calls Try.prog 16 #[u, .int .i64 a1] w fun e w' => e = .returned (.tuple #[.int .i64 r1, .bool r2]) ∧ Drawn0 w w' := by
  have h := Option.some.inj h
  by_cases hin : 0 ≤ a1 ∧ a1 < (l0.length : Int)
  · rw [if_pos hin] at h
    obtain ⟨p, sh, gp, gk, cp, ck, hp, pl, ky, rfl, hD, hA, hm⟩ := QR_open ho (by omega)
    have e1 := hD.c1
    have e2 := hD.c2
    have r3 := (hD.rp hin.1 hin.2).1
    have r4 := (hD.rk hin.1 hin.2).1
    have hab := hA.ab a1 hin.1 hin.2
    have hd : decide (0 ≤ a1 ∧ a1 < (l0.length : Int)) = true := decide_eq_true hin
    have HD := Aside0.mk hd
    obtain ⟨q0, q1⟩ := hin
    clear hd hD hA ho
    by_cases c : rd pl a1 < 0
    · rw [if_pos c] at hab
      rw [hab] at h
      simp only [Prod.mk.injEq] at h
      obtain ⟨rfl, rfl⟩ := h
      clear hab
      go_enter Try.func16, Try.ntmps16
      go_wp2_with (first | (go_at_call 22; refine (pq_has.calls e1 a1 true HD.out).mono ?_; rintro e w2 ⟨rfl, rfl⟩))
      go_ret2
      exact ⟨by first | rfl | (simp; done) | (simp [*]; done), by repeat (first | exact Drawn0.refl _ | apply Drawn0.step)⟩
    · rw [if_neg c] at hab
      rw [hab] at h
      simp only [Prod.mk.injEq] at h
      obtain ⟨rfl, rfl⟩ := h
      have cb : decide (rd pl a1 < 0) = false := decide_eq_false c
      clear hab c
      go_enter Try.func16, Try.ntmps16
      go_wp2_with (first | (go_at_call 22; refine (pq_has.calls e1 a1 true HD.out).mono ?_; rintro e w2 ⟨rfl, rfl⟩))
      go_ret2
      exact ⟨by first | rfl | (simp; done) | (simp [*]; done), by repeat (first | exact Drawn0.refl _ | apply Drawn0.step)⟩
  · rw [if_neg hin] at h
    simp only [Prod.mk.injEq] at h
    obtain ⟨rfl, rfl⟩ := h
    obtain ⟨p, A, c, rfl, e1⟩ := QR_c1 ho
    have HD := Aside0.mk (decide_eq_false hin)
    clear hin ho
    go_enter Try.func16, Try.ntmps16
    go_wp2_with (first | (go_at_call 22; refine (pq_has.calls e1 a1 false HD.out).mono ?_; rintro e w2 ⟨rfl, rfl⟩))
    go_ret2
    exact ⟨by first | rfl | (simp; done) | (simp [*]; done), by repeat (first | exact Drawn0.refl _ | apply Drawn0.step)⟩

/-- What Set leaves: by Tr, Below and Kept in one. -/
def SetPost (base : Nat) (ok : Nat → Prop) (w : World) (v : Value) (r : Bool) (m : List (Option Int)) (e : Ending) (w' : World) : Prop := e = .returned (.bool r) ∧ QR w' base ok v m ∧ Tr base ok w w'
theorem SetPost.of {base : Nat} {ok : Nat → Prop} {w : World} {v : Value} {r : Bool} {m : List (Option Int)} {w' : World} (a : QR w' base ok v m) (b : Tr base ok w w') : SetPost base ok w v r m (.returned (.bool r)) w' := ⟨rfl, a, b⟩

/-- Behind settle: the queue is whole. -/
theorem settled {w w' : World} {base : Nat} {ok : Nat → Prop} {p gh gp gy ch cp ck nh n : Nat} {pl ky hp : List Int} {m : List (Option Int)} (hpre : QPre m hp pl ky) (hnh : nh = hp.length) (hn : n = m.length) (hm : m.length ≤ 1048576) {e : Ending} (h : SettlePost w base ok p gh gp gy ch cp ck nh n pl ky e w') :
    e = .returned (.tuple #[]) ∧ QR w' base ok (.pointer (some ⟨p, 0, none⟩)) m ∧ Tr base ok w w' := by
  obtain ⟨he, hp2, pl2, ⟨hq, hI, hs, ht⟩, hh⟩ := h
  subst hn
  exact ⟨he, QR_close hq.toQD (hpre.fin (by have := hq.hl.1; omega) hI hs hh) hm, ht⟩

set_option maxHeartbeats 16000000 in
set_option maxRecDepth 1000000 in
theorem pq_set_old {w : World} {base : Nat} {ok : Nat → Prop} {p gp gk cp ck : Nat} {sh : Value} {hp pl ky : List Int} {m : List (Option Int)} (x v : Int) (hD : QD w base ok p sh gp gk cp ck m.length hp pl ky) (hA : QAbs m hp pl ky) (hm : m.length ≤ 1048576) (h0 : 0 ≤ x) (h1 : x < (m.length : Int)) (hin : ¬ rd pl x < 0) :
    Calls Try.prog 10 #[.pointer (some ⟨p, 0, none⟩), .int .i64 x, .int .i64 v] w (SetPost base ok w (.pointer (some ⟨p, 0, none⟩)) true (m.set x.toNat (some v))) := by
  obtain ⟨hpre, hole, i0, i1⟩ := set_old (v := v) hA h0 h1 (by omega)
  have hlen : hp.length ≤ m.length := by have := hA.len; have := cnt_le m; omega
  obtain ⟨gh, ch, rfl, hC⟩ := hD.toQC (by omega)
  have e1 := hD.c1
  have e2 := hD.c2
  obtain ⟨r3, f3⟩ := hD.rp h0 h1
  obtain ⟨r4, f4⟩ := hD.rk h0 h1
  have HP := Aside0.mk hpre
  have HO := Aside0.mk hole
  have HC := Aside0.mk (hC.setK x v)
  have HT := Aside0.mk ((Tr.refl base ok w).set hD.bk.1 hD.bk.2 x.toNat (.int .i64 v))
  have HL := Aside0.mk (show (hp.length : Int) ≤ 1048576 by omega)
  have HH := Aside0.mk (decide_eq_true (⟨h0, h1⟩ : 0 ≤ x ∧ x < (m.length : Int)))
  have HM := Aside0.mk hm
  have cb : decide (rd pl x < 0) = false := decide_eq_false hin
  clear hD hA hpre hole hin hC hm hlen
  go_enter Try.func10, Try.ntmps10
  go_wp2_with (first | (go_at_call 22; refine (pq_has.calls e1 x true HH.out).mono ?_; rintro e w2 ⟨rfl, rfl⟩) | ((with_reducible refine gate_store (t := 3) (p := 17) rfl ?_); refine store_event (t := 3) (p := 17) (v := ?vo) (w1 := (w.setCell ⟨gk, x.toNat, none⟩ (.int .i64 v))) ?hg ?ho ?hn ?hr ?_; (case ho => rfl); (case hg => rfl); (case hn => rfl); (case hr => first | (go_simp; done) | (go_simp; rfl)); intro w3 hw; have HC2 := Aside0.mk (show QC w3 base ok p gh gp gk ch cp ck hp.length m.length hp pl (ky.set x.toNat v) from by (rw [hw]; exact HC.out)); have HT2 := Aside0.mk (show Tr base ok w w3 from by (rw [hw]; exact HT.out)); clear HC HT hw e1 e2 r3 r4 f3 f4; have e1 := HC2.out.c1; obtain ⟨r3, f3⟩ := HC2.out.rp h0 h1) | (go_at_call 23; refine (pq_settle.calls HC2.out (by have := HP.out.I; rw [List.length_set] at this; exact this) _ i0 i1 HO.out HL.out).mono ?_; intro e w4 hs; obtain ⟨rfl, hq, ht⟩ := settled HP.out rfl (by simp) (by have := HM.out; rw [List.length_set]; exact this) hs; have HQ := Aside0.mk hq; have HT4 := Aside0.mk (HT2.out.trans ht); clear hs hq ht))

  go_ret
  exact SetPost.of HQ.out HT4.out

theorem info3q : (Try.prog.info? 3).map (fun i => (i.zero, i.size, i.bytes)) = some (some (.int .i64 0), 1, 8) := by kernel_rfl
set_option maxHeartbeats 16000000 in
set_option maxRecDepth 1000000 in
theorem pq_set_new {w : World} {base : Nat} {ok : Nat → Prop} {p gp gk cp ck : Nat} {sh : Value} {hp pl ky : List Int} {m : List (Option Int)} (x v : Int) (hD : QD w base ok p sh gp gk cp ck m.length hp pl ky) (hA : QAbs m hp pl ky) (hm : m.length ≤ 1048576) (hz : base ≤ w.heap.size) (hfresh : ∀ k, w.heap.size ≤ k → ok k) (h0 : 0 ≤ x) (h1 : x < (m.length : Int)) (hin : rd pl x < 0) :
    Calls Try.prog 10 #[.pointer (some ⟨p, 0, none⟩), .int .i64 x, .int .i64 v] w (SetPost base ok w (.pointer (some ⟨p, 0, none⟩)) true (m.set x.toNat (some v))) := by
  obtain ⟨hpre, hole, hrd⟩ := set_new (v := v) hA h0 h1 hin
  have hlen : hp.length ≤ m.length := by have := hA.len; have := cnt_le m; omega
  have hlt : hp.length + 1 ≤ m.length := by
    have e := hpre.len
    have := cnt_le (m.set x.toNat (some v))
    rw [← e, List.length_set, List.length_append] at this
    exact this
  obtain ⟨A, c, rfl⟩ := Kd.R_slice hD.H
  have e0 := hD.c0
  have e1 := hD.c1
  have e2 := hD.c2
  obtain ⟨r3, f3⟩ := hD.rp h0 h1
  obtain ⟨r4, f4⟩ := hD.rk h0 h1
  have HP := Aside0.mk hpre
  have HO := Aside0.mk hole
  have HD := Aside0.mk (hD.setK x v)
  have HT := Aside0.mk ((Tr.refl base ok w).set hD.bk.1 hD.bk.2 x.toNat (.int .i64 v))
  have HL := Aside0.mk (show (hp.length : Int) + 1 ≤ 1048576 by omega)
  have HH := Aside0.mk (decide_eq_true (⟨h0, h1⟩ : 0 ≤ x ∧ x < (m.length : Int)))
  have HM := Aside0.mk hm
  have HZ := Aside0.mk hz
  have HF := Aside0.mk hfresh
  have HR := Aside0.mk hrd
  have hsz0 : (w.setCell ⟨gk, x.toNat, none⟩ (.int .i64 v)).heap.size = w.heap.size := by simp [World.setCell]
  have HS0 := Aside0.mk hsz0
  clear hD hA hpre hole hm hlen hlt hz hfresh hrd hsz0
  go_enter Try.func10, Try.ntmps10
  go_wp2_with (first | (go_at_call 22; refine (pq_has.calls e1 x true HH.out).mono ?_; rintro e w2 ⟨rfl, rfl⟩) | ((with_reducible refine gate_store (t := 3) (p := 17) rfl ?_); refine store_event (t := 3) (p := 17) (v := ?vo) (w1 := (w.setCell ⟨gk, x.toNat, none⟩ (.int .i64 v))) ?hg ?ho ?hn ?hr ?_; (case ho => rfl); (case hg => rfl); (case hn => rfl); (case hr => first | (go_simp; done) | (go_simp; rfl)); intro w3 hw; have HD2 := Aside0.mk (show QD w3 base ok p (.slice A hp.length c) gp gk cp ck m.length hp pl (ky.set x.toNat v) from by (rw [hw]; exact HD.out)); have HT2 := Aside0.mk (show Tr base ok w w3 from by (rw [hw]; exact HT.out)); have HS2 := Aside0.mk (show w3.heap.size = w.heap.size from by (rw [hw]; exact HS0.out)); clear HD HT HS0 hw e0 e1 e2 r3 r4 f3 f4; have e0 := HD2.out.c0; have e1 := HD2.out.c1; obtain ⟨r3, f3⟩ := HD2.out.rp h0 h1))
  go_region
  generalize hW : (w3.setCell ⟨gp, x.toNat, none⟩ (.int .i64 (hp.length : Int))).drew = w4
  have HD4 := Aside0.mk (show QD w4 base ok p (.slice A hp.length c) gp gk cp ck m.length hp (pl.set x.toNat hp.length) (ky.set x.toNat v) from by (rw [← hW]; exact (HD2.out.setP x hp.length).drew))
  have HT4 := Aside0.mk (show Tr base ok w w4 from by (rw [← hW]; exact (HT2.out.set HD2.out.bpl.1 HD2.out.bpl.2 _ _).drew))
  have HS4 := Aside0.mk (show w4.heap.size = w.heap.size from by (rw [← hW]; exact Eq.trans (by simp [World.setCell]) HS2.out))
  clear hW HD2 HT2 HS2 e0 e1 r3 f3
  have e0 := HD4.out.c0
  go_wp2_with (first
    | ((with_reducible refine gate_builtin (b := .append) (xs := #[.tmp 41, .tmp 43]) rfl ?_); at_builtin; refine Kd.R_append (Kd.int .i64) (w0 := w4) base rfl (.tmp 41) (.tmp 43) 22 3 (.int .i64 0) 8 rfl Try.underlying22 info3q rfl (by decide) (by omega) (.slice A hp.length c) hp x [.int .i64 x] ok (fun _ => False) rfl rfl rfl (fun _ hk => hk.elim) ?aF HD4.out.H (Below.refl _ _) (by rw [HS4.out]; exact HZ.out) (by have := HL.out; omega) ?_; (case aF => intro k hk; exact HF.out k (by rw [← HS4.out]; exact hk)); intro v1 w5 ho5 hb5 hg5 hat5; obtain ⟨A2, c2, ev1⟩ := Kd.R_slice ho5; subst ev1; have n1_ := Aside0.mk (HD4.out.after hg5 ho5 hat5); have n2_ := Aside0.mk (HT4.out.grown hg5 (fun k e_ => HD4.out.bh k e_) (by rw [HS4.out]; exact HZ.out)); clear hg5 hat5 hb5 e0 HT4; have e0 := (blk_cell n1_.out.1 0).trans rfl; have f0 := blk_frozen n1_.out.1 0)
    | ((with_reducible refine gate_store (t := 22) (p := 46) rfl ?_); refine store_event (t := 22) (p := 46) (v := ?vo2) (w1 := (w5.setCell ⟨p, 0, none⟩ (.slice A2 (hp ++ [x]).length c2))) ?hg2 ?ho2 ?hn2 ?hr2 ?_; (case ho2 => rfl); (case hg2 => rfl); (case hn2 => rfl); (case hr2 => first | (go_simp; done) | (go_simp; rfl)); intro w6 hw; have HD6 := Aside0.mk (show QD w6 base ok p (.slice A2 (hp ++ [x]).length c2) gp gk cp ck m.length (hp ++ [x]) (pl.set x.toNat hp.length) (ky.set x.toNat v) from by (rw [hw]; exact n1_.out.2)); have HT6 := Aside0.mk (show Tr base ok w w6 from by (rw [hw]; exact n2_.out.set HD4.out.bp HD4.out.op _ _)); clear n1_ n2_ hw e0 f0 HS4 ho5; have e1 := HD6.out.c1; obtain ⟨r3, f3⟩ := HD6.out.rp h0 h1; rw [HR.out] at r3)
    | (go_at_call 23; obtain ⟨gh, ch, ee, hC⟩ := HD6.out.toQC (by simp); refine (pq_settle.calls hC (by have := HP.out.I; rw [List.length_set] at this; exact this) _ (Int.natCast_nonneg _) (by simp <;> omega) HO.out (by have := HL.out; simp; omega)).mono ?_; intro e w7 hs; obtain ⟨rfl, hq, ht⟩ := settled HP.out rfl (by simp) (by have := HM.out; rw [List.length_set]; exact this) hs; have HQ := Aside0.mk hq; have HT7 := Aside0.mk (HT6.out.trans ht); clear hs hq ht hC ee))
  go_ret
  exact SetPost.of HQ.out HT7.out

set_option maxHeartbeats 16000000 in
set_option maxRecDepth 1000000 in
theorem pq_Queue_Set.calls (P0_ : Nat → Prop) (u9000_ : Value) (l0 : List (Option Int)) (a1 a2 : Int) (r1 : Bool) (r2 : List (Option Int)) (w0 w : World) (hB : Below w0.heap.size w0 w) (ho0 : QR w w0.heap.size P0_ u9000_ l0) (h : pq_Queue_Set.f l0 a1 a2 = some (r1, r2)) :
    Calls Try.prog 10 #[u9000_, .int .i64 a1, .int .i64 a2] w fun e w' => e = .returned (.bool r1) ∧ QR w' w0.heap.size (fun k_ => (P0_ k_ ∨ w.heap.size ≤ k_)) u9000_ r2 ∧ Below w0.heap.size w0 w' ∧ Kept w w' (fun k_ => P0_ k_) := by
  have hall := QR_mono (ok' := fun k_ => (P0_ k_ ∨ w.heap.size ≤ k_)) ho0 (fun _ hk => .inl hk)
  have h := Option.some.inj h
  by_cases hin : 0 ≤ a1 ∧ a1 < (l0.length : Int)
  · rw [if_pos hin] at h
    simp only [Prod.mk.injEq] at h
    obtain ⟨rfl, rfl⟩ := h
    obtain ⟨p, sh, gp, gk, cp, ck, hp, pl, ky, rfl, hD, hA, hm⟩ := QR_open hall (by omega)
    have fin : ∀ e w', SetPost w0.heap.size (fun k_ => (P0_ k_ ∨ w.heap.size ≤ k_)) w (.pointer (some ⟨p, 0, none⟩)) true (l0.set a1.toNat (some a2)) e w' → e = .returned (.bool true) ∧ QR w' w0.heap.size (fun k_ => (P0_ k_ ∨ w.heap.size ≤ k_)) (.pointer (some ⟨p, 0, none⟩)) (l0.set a1.toNat (some a2)) ∧ Below w0.heap.size w0 w' ∧ Kept w w' (fun k_ => P0_ k_) := by
      rintro e w' ⟨g1, g2, g3⟩
      obtain ⟨g4, g5⟩ := g3 w0 w (fun k_ => P0_ k_) rfl (fun k hk => hk)
      exact ⟨g1, g2, g4 hB, g5 (Kept.refl _ _)⟩
    by_cases c : rd pl a1 < 0
    · exact (pq_set_new a1 a2 hD hA hm hB.size (fun k hk => .inr hk) hin.1 hin.2 c).mono fin
    · exact (pq_set_old a1 a2 hD hA hm hin.1 hin.2 c).mono fin
  · rw [if_neg hin] at h
    simp only [Prod.mk.injEq] at h
    obtain ⟨rfl, rfl⟩ := h
    obtain ⟨p, A, c, rfl, e1⟩ := QR_c1 ho0
    have HD := Aside0.mk (decide_eq_false hin)
    have HA := Aside0.mk hall
    have HB := Aside0.mk hB
    clear hin ho0 hall hB
    go_enter Try.func10, Try.ntmps10
    go_wp2_with (first | (go_at_call 22; refine (pq_has.calls e1 a1 false HD.out).mono ?_; rintro e w2 ⟨rfl, rfl⟩))
    go_ret
    exact ⟨by first | rfl | (simp; done), HA.out, HB.out, Kept.refl _ _⟩

set_option maxHeartbeats 16000000 in
set_option maxRecDepth 1000000 in
theorem pq_drop_in {w : World} {base : Nat} {ok : Nat → Prop} {p gp gk cp ck : Nat} {sh : Value} {hp pl ky : List Int} {m : List (Option Int)} (x : Int) (hD : QD w base ok p sh gp gk cp ck m.length hp pl ky) (hA : QAbs m hp pl ky) (hm : m.length ≤ 1048576) (h0 : 0 ≤ x) (h1 : x < (m.length : Int)) (hin : ¬ rd pl x < 0) :
    Calls Try.prog 13 #[.pointer (some ⟨p, 0, none⟩), .int .i64 x] w (SetPost base ok w (.pointer (some ⟨p, 0, none⟩)) true (m.set x.toNat none)) := by
  obtain ⟨hpre, hheap, hhole, i0, i1, hl0⟩ := drop_item hA h0 h1 (by omega)
  have hlen : hp.length ≤ m.length := by have := hA.len; have := cnt_le m; omega
  obtain ⟨gh, ch, rfl, hC⟩ := hD.toQC hl0
  have hI := hA.I
  obtain ⟨L, hL⟩ : ∃ L : Nat, hp.length = L + 1 := ⟨hp.length - 1, by omega⟩
  have eL : (hp.length : Int) - 1 = L := by omega
  have eL2 : hp.length - 1 = L := by omega
  rw [eL] at hpre hheap hhole
  rw [eL2] at hpre hheap hhole
  rw [hL] at hC
  have hcap : L ≤ ch := by have := (Kd.R_reads' hC.H).2.1; omega
  have e0 := hC.c0
  have e1 := hC.c1
  obtain ⟨r3, f3⟩ := hC.rp h0 h1
  have HS : SQ w w base ok p gh gp gk ch cp ck (L + 1) m.length pl ky hp pl := ⟨hC, hI, Same.refl _ _, Tr.refl _ _ _⟩
  have cb : decide (rd pl x < 0) = false := decide_eq_false hin
  generalize hi : rd pl x = i at *
  have hiL : i < ((L + 1 : Nat) : Int) := by omega
  have HS := Aside0.mk HS
  have HP := Aside0.mk hpre
  have HHe := Aside0.mk hheap
  have HHo := Aside0.mk hhole
  have HH := Aside0.mk (decide_eq_true (⟨h0, h1⟩ : 0 ≤ x ∧ x < (m.length : Int)))
  have HM := Aside0.mk hm
  have HL := Aside0.mk (show (L : Int) + 1 ≤ 1048576 by omega)
  have HCap := Aside0.mk hcap
  have HI := Aside0.mk hi
  have hLn : (L : Int) < ((L + 1 : Nat) : Int) := by omega
  have HTL := Aside0.mk (show ((swh hp i L).take L).length = L by rw [List.length_take, swh_len]; omega)
  clear hD hA hpre hheap hhole hlen hm hC hI hL eL eL2 hi hin hl0 i1
  have cap2 : (L : Int) ≤ (ch : Int) := by omega
  go_enter Try.func13, Try.ntmps13
  go_wp2_with (first | (go_at_call 22; refine (pq_has.calls e1 x true HH.out).mono ?_; rintro e w2 ⟨rfl, rfl⟩))
  go_quiet (fail)
  rw [show wrap64 (L : Int) = (L : Int) from by (have := HL.out; unfold wrap64; omega)]
  go_wp2_with (first
    | (go_at_call 24; refine (pq_swap_s (HS.out.drewN _) _ _ i0 hiL (Int.natCast_nonneg _) hLn).mono ?_; rintro e w3 ⟨rfl, hs3⟩; obtain ⟨q1, q2, q3, q4⟩ := hs3; have HQ3 := Aside0.mk q1; have HI3 := Aside0.mk q2; have HT3 := Aside0.mk q4; clear q1 q2 q3 q4 e0 e1 r3 f3; have e0 := HQ3.out.c0; have f0 := HQ3.out.toQD.f0 0)
    | ((with_reducible refine gate_store (t := 22) (p := 46) rfl ?_); refine store_event (t := 22) (p := 46) (v := ?vo2) (w1 := (w3.setCell ⟨p, 0, none⟩ (.slice (some ⟨gh, 0, none⟩) L ch))) ?hg2 ?ho2 ?hn2 ?hr2 ?_; (case ho2 => rfl); (case hg2 => rfl); (case hn2 => rfl); (case hr2 => first | (go_simp; done) | (go_simp; rfl)); intro w4 hw; have HD4 := Aside0.mk (show QD w4 base ok p (.slice (some ⟨gh, 0, none⟩) L ch) gp gk cp ck m.length ((swh hp i L).take L) (swp hp pl i L) ky from by (rw [hw]; exact HQ3.out.toQD.putH (Kd.R_take HQ3.out.H (by have := HQ3.out.hl.1; omega)) HQ3.out.toQD.ah)); have HT4 := Aside0.mk (show Tr base ok w w4 from by (rw [hw]; exact HT3.out.set HQ3.out.bp HQ3.out.op _ _)); clear hw e0 f0 HQ3 HT3; have e1 := HD4.out.c1; obtain ⟨r3, f3⟩ := HD4.out.rp h0 h1)
    | ((with_reducible refine gate_store (t := 3) (p := 52) rfl ?_); refine store_event (t := 3) (p := 52) (v := ?vo3) (w1 := (w4.setCell ⟨gp, x.toNat, none⟩ (.int .i64 (-1)))) ?hg3 ?ho3 ?hn3 ?hr3 ?_; (case ho3 => rfl); (case hg3 => rfl); (case hn3 => rfl); (case hr3 => first | (go_simp; done) | (go_simp; rfl)); intro w5 hw; have HD5 := Aside0.mk (show QD w5 base ok p (.slice (some ⟨gh, 0, none⟩) L ch) gp gk cp ck m.length ((swh hp i L).take L) ((swp hp pl i L).set x.toNat (-1)) ky from by (rw [hw]; exact HD4.out.setP x (-1))); have HT5 := Aside0.mk (show Tr base ok w w5 from by (rw [hw]; exact HT4.out.set HD4.out.bpl.1 HD4.out.bpl.2 _ _)); clear hw e1 r3 f3 HD4 HT4)
    | (go_at_call 23; refine (pq_settle.calls (hp := (swh hp i L).take L) (pl := (swp hp pl i L).set x.toNat (-1)) (gh := gh) (gp := gp) (gy := gk) (ch := ch) (cp := cp) (ck := ck) (nh := L) (n := m.length) (ky := ky) (base := base) (ok := ok) ⟨HD5.out.bp, HD5.out.op, HD5.out.cells, HD5.out.H, HD5.out.P, HD5.out.K, (HD5.out.ah gh rfl).1, (HD5.out.ah gh rfl).2, HD5.out.npk⟩ (by have := HP.out.I; rw [List.length_set] at this; exact this) _ i0 (by assumption) (HHo.out (by assumption)) (by have := HL.out; omega)).mono ?_; intro e w6 hs; obtain ⟨rfl, hq, ht⟩ := settled HP.out HTL.out.symm (by simp) (by have := HM.out; rw [List.length_set]; exact this) hs; have HQ6 := Aside0.mk hq; have HT6 := Aside0.mk (HT5.out.trans ht); clear hs hq ht))
  · go_ret
    exact SetPost.of HQ6.out HT6.out
  · go_ret
    have hlt : (L : Int) ≤ i := by assumption
    exact SetPost.of (QR_close (m := m.set x.toNat none) (by rw [List.length_set]; exact HD5.out) (HP.out.fin rfl HP.out.I (Same.refl _ _) (HHe.out (by have := hiL; omega))) (by have := HM.out; rw [List.length_set]; exact this)) HT5.out

set_option maxHeartbeats 16000000 in
set_option maxRecDepth 1000000 in
theorem pq_Queue_Drop.calls (P0_ : Nat → Prop) (u9000_ : Value) (l0 : List (Option Int)) (a1 : Int) (r1 : Bool) (r2 : List (Option Int)) (w0 w : World) (hB : Below w0.heap.size w0 w) (ho0 : QR w w0.heap.size P0_ u9000_ l0) (h : pq_Queue_Drop.f l0 a1 = some (r1, r2)) :
    Calls Try.prog 13 #[u9000_, .int .i64 a1] w fun e w' => e = .returned (.bool r1) ∧ QR w' w0.heap.size (fun k_ => (P0_ k_ ∨ w.heap.size ≤ k_)) u9000_ r2 ∧ Below w0.heap.size w0 w' ∧ Kept w w' (fun k_ => P0_ k_) := by
  have hall := QR_mono (ok' := fun k_ => (P0_ k_ ∨ w.heap.size ≤ k_)) ho0 (fun _ hk => .inl hk)
  have h := Option.some.inj h
  by_cases hin : 0 ≤ a1 ∧ a1 < (l0.length : Int)
  · rw [if_pos hin] at h
    obtain ⟨p, sh, gp, gk, cp, ck, hp, pl, ky, rfl, hD, hA, hm⟩ := QR_open hall (by omega)
    have hab := hA.ab a1 hin.1 hin.2
    by_cases c : rd pl a1 < 0
    · rw [if_pos c] at hab
      rw [hab] at h
      simp only [Prod.mk.injEq] at h
      obtain ⟨rfl, rfl⟩ := h
      have e1 := hD.c1
      have r3 := (hD.rp hin.1 hin.2).1
      have HD := Aside0.mk (decide_eq_true hin)
      have HA := Aside0.mk hall
      have HB := Aside0.mk hB
      obtain ⟨q0, q1⟩ := hin
      clear hD hA ho0 hall hab hB
      go_enter Try.func13, Try.ntmps13
      go_wp2_with (first | (go_at_call 22; refine (pq_has.calls e1 a1 true HD.out).mono ?_; rintro e w2 ⟨rfl, rfl⟩))
      go_ret
      exact ⟨by first | rfl | (simp; done), HA.out, HB.out, Kept.refl _ _⟩
    · rw [if_neg c] at hab
      rw [hab] at h
      simp only [Prod.mk.injEq] at h
      obtain ⟨rfl, rfl⟩ := h
      refine (pq_drop_in a1 hD hA hm hin.1 hin.2 c).mono ?_
      rintro e w' ⟨g1, g2, g3⟩
      obtain ⟨g4, g5⟩ := g3 w0 w (fun k_ => P0_ k_) rfl (fun k hk => hk)
      exact ⟨g1, g2, g4 hB, g5 (Kept.refl _ _)⟩
  · rw [if_neg hin] at h
    simp only [Prod.mk.injEq] at h
    obtain ⟨rfl, rfl⟩ := h
    obtain ⟨p, A, c, rfl, e1⟩ := QR_c1 ho0
    have HD := Aside0.mk (decide_eq_false hin)
    have HA := Aside0.mk hall
    have HB := Aside0.mk hB
    clear hin ho0 hall hB
    go_enter Try.func13, Try.ntmps13
    go_wp2_with (first | (go_at_call 22; refine (pq_has.calls e1 a1 false HD.out).mono ?_; rintro e w2 ⟨rfl, rfl⟩))
    go_ret
    exact ⟨by first | rfl | (simp; done), HA.out, HB.out, Kept.refl _ _⟩

def PopPost (w0 w : World) (P0_ : Nat → Prop) (v : Value) (r1 r2 : Int) (r3 : Bool) (m : List (Option Int)) (e : Ending) (w' : World) : Prop :=
  e = .returned (.tuple #[.int .i64 r1, .int .i64 r2, .bool r3]) ∧ QR w' w0.heap.size (fun k_ => (P0_ k_ ∨ w.heap.size ≤ k_)) v m ∧ Below w0.heap.size w0 w' ∧ Kept w w' (fun k_ => P0_ k_)

set_option maxHeartbeats 16000000 in
set_option maxRecDepth 1000000 in
theorem pq_Queue_Pop.calls (P0_ : Nat → Prop) (u9000_ : Value) (l0 : List (Option Int)) (r1 r2 : Int) (r3 : Bool) (r4 : List (Option Int)) (w0 w : World) (hB : Below w0.heap.size w0 w) (ho0 : QR w w0.heap.size P0_ u9000_ l0) (h : pq_Queue_Pop.f l0 = some (r1, r2, r3, r4)) :
    Calls Try.prog 11 #[u9000_] w fun e w' => e = .returned (.tuple #[.int .i64 r1, .int .i64 r2, .bool r3]) ∧ QR w' w0.heap.size (fun k_ => (P0_ k_ ∨ w.heap.size ≤ k_)) u9000_ r4 ∧ Below w0.heap.size w0 w' ∧ Kept w w' (fun k_ => P0_ k_) := by
  have hall := QR_mono (ok' := fun k_ => (P0_ k_ ∨ w.heap.size ≤ k_)) ho0 (fun _ hk => .inl hk)
  have h := Option.some.inj h
  have HLen := Aside0.mk (pq_Queue_Len.calls l0 (cnt l0) w ho0 rfl)
  by_cases hc : cnt l0 = 0
  · rw [best_none hc, if_pos (by decide)] at h
    simp only [Prod.mk.injEq] at h
    obtain ⟨rfl, rfl, rfl, rfl⟩ := h
    obtain ⟨p, hp⟩ := QR_ptr ho0
    subst hp
    have HA := Aside0.mk hall
    have HB := Aside0.mk hB
    have hcb : ((cnt l0 : Int) == 0) = true := by rw [hc]; rfl
    clear ho0 hall hB hc
    show Calls Try.prog 11 #[.pointer (some ⟨p, 0, none⟩)] w (PopPost w0 w P0_ (.pointer (some ⟨p, 0, none⟩)) 0 0 false l0)
    go_enter Try.func11, Try.ntmps11
    go_wp2_with (first | (go_at_call 12; refine (HLen.out).mono ?_; rintro e w2 ⟨rfl, ⟨⟨nq, rfl⟩⟩⟩))
    refine bodyPost_ret (v := .tuple #[.int .i64 0, .int .i64 0, .bool false]) (by simp [results, Try.results11, go_sem]) rfl ?_
    exact ⟨rfl, QR_drewN HA.out _, pw_below_drewN HB.out _, (Kept.refl _ _).drewN _⟩
  · obtain ⟨hm, p, sh, sp, sk, hp, pl, ky, hrest⟩ := id ho0
    have hq := hrest.2.2.2.2.2.2.2.2.2
    have hlen := hq.len
    have hle := hq.I.lp
    have hn : 0 < l0.length := by have := cnt_le l0; omega
    clear hrest hq hlen hle
    obtain ⟨p, sh, gp, gk, cp, ck, hp, pl, ky, rfl, hD, hA, hm⟩ := QR_open ho0 hn
    have hlen := hA.len
    obtain ⟨hb1, x0, x1, x2⟩ := best_heap hA (by omega)
    rw [hb1, if_neg (by show ¬ rd hp 0 < 0; omega)] at h
    simp only [Prod.mk.injEq] at h
    obtain ⟨rfl, rfl, rfl, rfl⟩ := h
    obtain ⟨gh, ch, rfl, hC⟩ := hD.toQC (by omega)
    have e0 := hC.c0
    have e2 := hC.c2
    have hpos : (0 : Int) < (hp.length : Int) := by omega
    have r1 := (hC.rh (i := 0) (by omega) hpos).1
    have r2 := (hC.rk x0 x1).1
    have hcb : ((cnt l0 : Int) == 0) = false := beq_eq_false_iff_ne.2 (by omega)
    have hab := hA.ab _ x0 x1
    rw [if_neg (by omega)] at hab
    have HDrop : ∀ n, Calls Try.prog 13 #[.pointer (some ⟨p, 0, none⟩), .int .i64 (rd hp 0)] (w.drewN n) fun e w' => e = .returned (.bool true) ∧ QR w' w0.heap.size (fun k_ => (P0_ k_ ∨ (w.drewN n).heap.size ≤ k_)) (.pointer (some ⟨p, 0, none⟩)) (l0.set (rd hp 0).toNat none) ∧ Below w0.heap.size w0 w' ∧ Kept (w.drewN n) w' (fun k_ => P0_ k_) := fun n =>
      pq_Queue_Drop.calls P0_ _ l0 (rd hp 0) true _ w0 (w.drewN n) (pw_below_drewN hB n) (QR_drewN ho0 n) (by unfold pq_Queue_Drop.f; rw [if_pos ⟨x0, x1⟩, hab])
    have HDr := Aside0.mk HDrop
    clear ho0 hall hB hc hn hm hlen hb1 hab hA hC hD HDrop x2
    generalize rd hp 0 = x at *
    generalize rd ky x = kx at *
    show Calls Try.prog 11 #[.pointer (some ⟨p, 0, none⟩)] w (PopPost w0 w P0_ (.pointer (some ⟨p, 0, none⟩)) x kx true (l0.set x.toNat none))
    have r1 : w.cell? ⟨gh, 0, none⟩ = some (.int .i64 x) := r1
    go_enter Try.func11, Try.ntmps11
    go_wp2_with (first | (go_at_call 12; refine (HLen.out).mono ?_; rintro e w2 ⟨rfl, ⟨⟨nq, rfl⟩⟩⟩) | (go_at_call 13; refine (HDr.out _).mono ?_; rintro e w3 ⟨rfl, g1, g2, g3⟩; have G1 := Aside0.mk g1; have G2 := Aside0.mk g2; have G3 := Aside0.mk g3; clear g1 g2 g3))
    refine bodyPost_ret (v := .tuple #[.int .i64 x, .int .i64 kx, .bool true]) (by simp [results, Try.results11, go_sem]) rfl ?_
    exact ⟨rfl, G1.out, G2.out, G3.out⟩
end Go.Proofs.Ytpdgifldpnpeeaa.PAll
