/- Two queues that hold the same give the same: PqMoves and PqDrops. -/
import Derived.Test.YtpdgifldpnpeeaaQO
namespace Go.Proofs.Ytpdgifldpnpeeaa.PAll
open Go.RowKit Go.Proofs.YtpdgifldpnpeeaaW.PrintWords Go.Proofs.YtpdgifldpnpeeaaW.PrintLast Go.Proofs.YtpdgifldpnpeeaaW.PrintMore
set_option linter.unusedVariables false
set_option linter.unusedSimpArgs false
attribute [local irreducible] Calls

/-- A second queue, apart from the first. -/
def Qs (base : Nat) (u : Value) (m : List (Option Int)) (w : World) (ok : Nat → Prop) : Prop := QR w base ok u m
theorem stay_qs (base : Nat) (u : Value) (m : List (Option Int)) : Stay (Qs base u m) := ⟨fun h hk => QR_mono h hk, fun h hk hne => QR_keptB h hk hne⟩
theorem LQ.swap {w0 w : World} {v u : Value} {m m2 : List (Option Int)} (h : LQ (Qs w0.heap.size u m2) w0 w v m) : LQ (Qs w0.heap.size v m) w0 w u m2 := by
  obtain ⟨PT, h1, h2, h3⟩ := h
  exact ⟨fun k => ¬ PT k, h2, QR_mono h1 (fun k hk h => h hk), h3⟩
theorem LQ_second {w0 w w' : World} {v u : Value} {m m2 : List (Option Int)} (h : LQ Non w0 w v m) (h2 : QR w' w0.heap.size (fun k => w.heap.size ≤ k) u m2) (hb : Below w.heap.size w w') (hb0 : Below w0.heap.size w0 w') : LQ (Qs w0.heap.size u m2) w0 w' v m := by
  obtain ⟨PT, h1, _, h3⟩ := h
  exact ⟨fun k => PT k ∧ k < w.heap.size, QR_below (QR_mono (QR_bound h1) (fun k hk => ⟨hk.1, hk.2.2⟩)) hb, QR_mono h2 (fun k hk h => by omega), hb0⟩
theorem gm_ext {m m2 : List (Option Int)} (hl : m.length = m2.length) (h : ∀ x : Int, 0 ≤ x → x < m.length → gm m x = gm m2 x) : m = m2 := by
  refine List.ext_getElem hl (fun i h1 h2 => ?_)
  have := h i (by omega) (by omega)
  unfold gm at this
  rw [List.getD_eq_getElem?_getD, List.getD_eq_getElem?_getD, Int.toNat_natCast, List.getElem?_eq_getElem h1, List.getElem?_eq_getElem h2] at this
  exact this
/-- Below i: f; from i on: g. -/
def Upto (n : Nat) (f g : Int → Option Int) (m : List (Option Int)) (i : Int) : Prop := m.length = n ∧ ∀ x : Int, 0 ≤ x → x < n → gm m x = if x < i then f x else g x
theorem upto_new (n : Nat) (f : Int → Option Int) : Upto n f (fun _ => none) (List.replicate n none) 0 := ⟨by simp, fun x x0 x1 => by
  rw [if_neg (by omega)]
  unfold gm
  rw [List.getD_eq_getElem?_getD, List.getElem?_replicate, if_pos (by omega)]
  rfl⟩
theorem upto_set {n : Nat} {f g : Int → Option Int} {m : List (Option Int)} {i k : Int} (h : Upto n f g m i) (h0 : 0 ≤ i) (h1 : i < n) (hf : f i = some k) : pq_Queue_Set.f m i k = some (true, m.set i.toNat (some k)) ∧ Upto n f g (m.set i.toNat (some k)) (i + 1) := by
  refine ⟨by unfold pq_Queue_Set.f; rw [if_pos ⟨h0, by rw [h.1]; exact h1⟩], by rw [List.length_set]; exact h.1, fun x x0 x1 => ?_⟩
  rw [gm_set h0 (by rw [h.1]; exact h1) x0]
  by_cases c : x = i
  · rw [if_pos c, if_pos (by omega), c, hf]
  · rw [if_neg c, h.2 x x0 x1]
    by_cases c2 : x < i
    · rw [if_pos c2, if_pos (by omega)]
    · rw [if_neg c2, if_neg (by omega)]
theorem upto_skip {n : Nat} {f g : Int → Option Int} {m : List (Option Int)} {i : Int} (h : Upto n f g m i) (hf : f i = g i) : Upto n f g m (i + 1) := by
  refine ⟨h.1, fun x x0 x1 => ?_⟩
  rw [h.2 x x0 x1]
  by_cases c : x = i
  · rw [if_neg (by omega), if_pos (by omega), c, hf]
  · by_cases c2 : x < i
    · rw [if_pos c2, if_pos (by omega)]
    · rw [if_neg c2, if_neg (by omega)]
theorem upto_drop {n : Nat} {f g : Int → Option Int} {m : List (Option Int)} {i k : Int} (h : Upto n f g m i) (h0 : 0 ≤ i) (h1 : i < n) (hg : g i = some k) (hf : f i = none) : pq_Queue_Drop.f m i = some (true, m.set i.toNat none) ∧ pq_Queue_Drop.f (m.set i.toNat none) i = some (false, m.set i.toNat none) ∧ Upto n f g (m.set i.toNat none) (i + 1) := by
  have hl : i < m.length := by rw [h.1]; exact h1
  have e : gm m i = some k := by rw [h.2 i h0 h1, if_neg (by omega), hg]
  have e2 : gm (m.set i.toNat none) i = none := by rw [gm_set h0 hl h0, if_pos rfl]
  refine ⟨by unfold pq_Queue_Drop.f; rw [if_pos ⟨h0, hl⟩, e], by unfold pq_Queue_Drop.f; rw [if_pos ⟨h0, by rw [List.length_set]; exact hl⟩, e2], by rw [List.length_set]; exact h.1, fun x x0 x1 => ?_⟩
  rw [gm_set h0 hl x0]
  by_cases c : x = i
  · rw [if_pos c, if_pos (by omega), c, hf]
  · rw [if_neg c, h.2 x x0 x1]
    by_cases c2 : x < i
    · rw [if_pos c2, if_pos (by omega)]
    · rw [if_neg c2, if_neg (by omega)]
theorem upto_done {n : Nat} {f g f2 g2 : Int → Option Int} {m m2 : List (Option Int)} {i j : Int} (h : Upto n f g m i) (k : Upto n f2 g2 m2 j) (hi : n ≤ i) (hj : n ≤ j) (hf : ∀ x : Int, 0 ≤ x → x < n → f x = f2 x) : m = m2 :=
  gm_ext (h.1.trans k.1.symm) (fun x x0 x1 => by rw [h.1] at x1; rw [h.2 x x0 x1, k.2 x x0 x1, if_pos (by omega), if_pos (by omega), hf x x0 x1])
theorem upto_from {n : Nat} {f g f2 : Int → Option Int} {m : List (Option Int)} {i : Int} (h : Upto n f g m i) (hi : n ≤ i) : Upto n f2 f m 0 := ⟨h.1, fun x x0 x1 => by rw [if_neg (by omega), h.2 x x0 x1, if_pos (by omega)]⟩

def MovRel1 (w w' : World) (v u : Value) (n g : Nat) (i : Int) : Prop := 0 ≤ i ∧ i ≤ n ∧ n ≤ i + g ∧ ∃ m, m.length = n ∧ LQ (Qs w.heap.size u (List.replicate n none)) w w' v m
def MovRel2 (w w' : World) (v u : Value) (n : Nat) (f1 f2 : Int → Option Int) (g1 g2 : Int → Option Int) (g : Nat) (i : Int) : Prop := 0 ≤ i ∧ i ≤ n ∧ n ≤ i + g ∧ ∃ m m2, LQ (Qs w.heap.size u m2) w w' v m ∧ Upto n f1 g1 m i ∧ Upto n f2 g2 m2 i
def MovRel3 (w w' : World) (v u : Value) (n g : Nat) (i : Int) : Prop := 0 ≤ i ∧ i ≤ n + 1 ∧ n + 1 ≤ i + g ∧ ∃ m, LQ (Qs w.heap.size u m) w w' v m
theorem set_any (m : List (Option Int)) (i k : Int) (h0 : 0 ≤ i) (h1 : i < m.length) : pq_Queue_Set.f m i k = some (true, m.set i.toNat (some k)) := by unfold pq_Queue_Set.f; rw [if_pos ⟨h0, h1⟩]
theorem pop_any (m : List (Option Int)) : ∃ r1 r2 r3 r4, pq_Queue_Pop.f m = some (r1, r2, r3, r4) := ⟨_, _, _, _, rfl⟩
/-- Key x of the list l. -/
def keyOfL (l : List Int) (x : Int) : Option Int := some (rd l x)

set_option maxHeartbeats 16000000 in
set_option maxRecDepth 1000000 in
theorem PqMoves_walk (A0 : Option Addr) (c0 : Nat) (l0 : List Int) (A1 : Option Addr) (c1 : Nat) (l1 : List Int) (w : World) (hr0 : (Kd.int .i64).C w A0 l0.length l0) (hr1 : (Kd.int .i64).C w A1 l1.length l1) :
    Calls Try.prog 4 #[.slice A0 l0.length c0, .slice A1 l1.length c1] w (LawPost w true) := by
  have HR := Aside0.mk hr0
  have HR1 := Aside0.mk hr1
  clear hr0 hr1
  by_cases hlen : (100 : Int) < (l0.length : Int)
  · go_enter Try.func4, Try.ntmps4
    go_wp2_with (first | (go_at_call 8; refine (lives.calls w).mono ?_; rintro e w2 ⟨rfl, hb⟩; have HB := Aside0.mk hb; clear hb))
    go_ret
    exact ⟨by first | rfl | (simp; done), HB.out⟩
  have hlen2 : (l0.length : Int) ≤ 100 := by omega
  have hlen3 : decide ((100 : Int) < (l0.length : Int)) = false := decide_eq_false hlen
  by_cases hle : (l1.length : Int) = (l0.length : Int)
  case neg =>
    have hleb : ((l1.length : Int) == (l0.length : Int)) = false := beq_eq_false_iff_ne.2 hle
    have hlec : ((l1.length : Int) != (l0.length : Int)) = true := by simp [bne, hleb]
    clear hle hlen
    go_enter Try.func4, Try.ntmps4
    go_wp2_with (first | (go_at_call 8; refine (lives.calls w).mono ?_; rintro e w2 ⟨rfl, hb⟩; have HB := Aside0.mk hb; clear hb))
    go_ret
    exact ⟨by first | rfl | (simp; done), HB.out⟩
  obtain ⟨n, hn⟩ : ∃ n, n = l0.length := ⟨_, rfl⟩
  have hn1 : l1.length = n := by omega
  rw [← hn] at HR hlen2 hlen3 ⊢
  rw [hn1] at HR1 ⊢
  have HN0 := Aside0.mk hn
  have HN1 := Aside0.mk hn1
  clear hle hlen hn hn1
  have HNew := Aside0.mk (fun w1 (hb : Below w.heap.size w w1) => LQ_New hb n (List.replicate n none) (by unfold pq_New.f; rw [if_pos (by omega)]; simp))
  have HB0 := Aside0.mk (Below.refl w.heap.size w)
  go_enter Try.func4, Try.ntmps4
  go_wp2_with (first
    | (go_at_call 9; refine (HNew.out _ HB0.out).mono ?_; rintro e w1 ⟨p, rfl, h1, _, h3⟩; have HQ := Aside0.mk (show LQ Non w w1 (.pointer (some ⟨p, 0, none⟩)) (List.replicate n none) from ⟨_, h1, trivial, h3⟩); clear h1 h3 HB0)
    | (go_at_call 9; refine (HNew.out _ HQ.out.below).mono ?_; rintro e w2 ⟨p2, rfl, h1, h2, h3⟩; have HQ2 := Aside0.mk (LQ_second HQ.out h1 h2 h3); clear h1 h2 h3 HQ))
  go_loopg [7] n (fun g vi wr => ∃ i : Int, vi = .int .i64 i ∧ MovRel1 w wr (.pointer (some ⟨p, 0, none⟩)) (.pointer (some ⟨p2, 0, none⟩)) n g i)
  case atStart => exact ⟨0, rfl, by omega, by omega, by omega, _, by simp, HQ2.out⟩
  case round =>
    clear HQ2
    obtain ⟨i, rfl, i0, i1, hg, m, hm, hq⟩ := hrel
    have HQ := Aside0.mk hq
    have HM := Aside0.mk hm
    clear hq hm
    by_cases c : i < (n : Int)
    · have HC := Aside0.mk (LQ_Set (stay_qs _ _ _) HQ.out i (rd l0 i) true _ (set_any m i (rd l0 i) i0 (by rw [HM.out]; exact c)))
      obtain ⟨ad, e, hx⟩ := Kd.at_int (Kd.C_below HR.out HQ.out.below) i i0 c
      subst e
      go_wp2_with (first
        | (go_at_call 10; refine (HC.out).mono ?_; rintro e w2 ⟨rfl, h⟩; have HQ2 := Aside0.mk h; clear h))
      go_roundg (n - (i + 1)).toNat
      case measure => omega
      case rel => exact ⟨i + 1, by first | rfl | go_num, by omega, by omega, by omega, _, by rw [List.length_set]; exact HM.out, HQ2.out⟩
    · have hi : i = n := by omega
      subst hi
      have HU := Aside0.mk (show MovRel2 w wr (.pointer (some ⟨p, 0, none⟩)) (.pointer (some ⟨p2, 0, none⟩)) n (keyOfL l1) (keyOfL l1) (gm m) (fun _ => none) n 0 from ⟨by omega, by omega, by omega, m, _, HQ.out, ⟨HM.out, fun x x0 x1 => by rw [if_neg (by omega)]⟩, upto_new n _⟩)
      go_wp2
      go_loopg [8] n (fun g vi wr => ∃ i : Int, vi = .int .i64 i ∧ MovRel2 w wr (.pointer (some ⟨p, 0, none⟩)) (.pointer (some ⟨p2, 0, none⟩)) n (keyOfL l1) (keyOfL l1) (gm m) (fun _ => none) g i)
      case atStart => exact ⟨0, rfl, HU.out⟩
      case round =>
        clear HU HQ i1 i0 hg c
        obtain ⟨i, rfl, i0, i1, hg, m1, m2, hq, hu1, hu2⟩ := hrel
        have HQ := Aside0.mk hq
        have HU1 := Aside0.mk hu1
        have HU2 := Aside0.mk hu2
        clear hq hu1 hu2
        by_cases c : i < (n : Int)
        · obtain ⟨s1, s2⟩ := upto_set (k := rd l1 i) HU1.out i0 c rfl
          obtain ⟨t1, t2⟩ := upto_set (k := rd l1 i) HU2.out i0 c rfl
          have HS2 := Aside0.mk s2
          have HT2 := Aside0.mk t2
          have HC := Aside0.mk (LQ_Set (stay_qs _ _ _) HQ.out i (rd l1 i) true _ s1)
          have HC2 := Aside0.mk (fun w2 (h : LQ (Qs w.heap.size (.pointer (some ⟨p2, 0, none⟩)) m2) w w2 (.pointer (some ⟨p, 0, none⟩)) (m1.set i.toNat (some (rd l1 i)))) => LQ_Set (stay_qs _ _ _) h.swap i (rd l1 i) true _ t1)
          obtain ⟨ad, e, hx⟩ := Kd.at_int HR1.out i i0 c
          subst e
          have HX := Aside0.mk (fun (w2 : World) (hb : Below w.heap.size w w2) => (by obtain ⟨ad2, e2, hx2⟩ := Kd.at_int (Kd.C_below HR1.out hb) i i0 c; injection e2 with e2; subst e2; exact hx2 : w2.cell? (ad.add i.toNat) = some (.int .i64 (rd l1 i))))
          clear s1 s2 t1 t2 hx
          have hx := HX.out _ HQ.out.below
          go_wp2_with (first
            | (go_at_call 10; (with_reducible refine (HC.out).mono ?_); rintro e w2 ⟨rfl, h⟩; have HQ2 := Aside0.mk h; clear h hx; have hx := HX.out w2 HQ2.out.below)
            | (go_at_call 10; (with_reducible refine (HC2.out _ HQ2.out).mono ?_); rintro e w3 ⟨rfl, h⟩; have HQ3 := Aside0.mk h.swap; clear h hx))
          go_roundg (n - (i + 1)).toNat
          case measure => omega
          case rel => exact ⟨i + 1, by first | rfl | go_num, by omega, by omega, by omega, _, _, HQ3.out, HS2.out, HT2.out⟩
        · have hmm : m1 = m2 := upto_done HU1.out HU2.out (by omega) (by omega) (fun _ _ _ => rfl)
          have HV := Aside0.mk (show MovRel3 w wr (.pointer (some ⟨p, 0, none⟩)) (.pointer (some ⟨p2, 0, none⟩)) n (n + 1) 0 from ⟨by omega, by omega, by omega, m2, by rw [← hmm]; rw [← hmm] at HQ; exact HQ.out⟩)
          clear hmm
          go_wp2
          go_loopg [9] (n + 1) (fun g vi wr => ∃ i : Int, vi = .int .i64 i ∧ MovRel3 w wr (.pointer (some ⟨p, 0, none⟩)) (.pointer (some ⟨p2, 0, none⟩)) n g i)
          case atStart => exact ⟨0, rfl, HV.out⟩
          case round =>
            clear HV HQ HU1 HU2 HM i1 i0 hg c
            obtain ⟨i, rfl, i0, i1, hg, m, hq⟩ := hrel
            have HQ := Aside0.mk hq
            clear hq
            by_cases c : i ≤ (n : Int)
            · obtain ⟨r1, r2, r3, r4, hf⟩ := pop_any m
              have HC := Aside0.mk (LQ_Pop (stay_qs _ _ _) HQ.out r1 r2 r3 r4 hf)
              have HC2 := Aside0.mk (fun w2 (h : LQ (Qs w.heap.size (.pointer (some ⟨p2, 0, none⟩)) m) w w2 (.pointer (some ⟨p, 0, none⟩)) r4) => LQ_Pop (stay_qs _ _ _) h.swap r1 r2 r3 r4 hf)
              clear hf
              go_wp2_with (first
                | (go_at_call 11; (with_reducible refine (HC.out).mono ?_); rintro e w2 ⟨rfl, h⟩; have HQ2 := Aside0.mk h; clear h)
                | (go_at_call 11; (with_reducible refine (HC2.out _ HQ2.out).mono ?_); rintro e w3 ⟨rfl, h⟩; have HQ3 := Aside0.mk h.swap; clear h))
              go_roundg (n + 1 - (i + 1)).toNat
              case measure => omega
              case rel => exact ⟨i + 1, by first | rfl | go_num, by omega, by omega, by omega, _, HQ3.out⟩
            · go_wp2_with (first
                | (go_at_call 8; refine (lives.calls _).mono ?_; rintro e w4 ⟨rfl, hb⟩; have HB := Aside0.mk (below_step HQ.out.below hb); clear hb))
              go_ret
              exact ⟨by first | rfl | (simp; done), HB.out⟩
end Go.Proofs.Ytpdgifldpnpeeaa.PAll
