/- Dropped items leave the order of the others as it is: the walk of PqDrops. -/
import Derived.Test.YtpdgifldpnpeeaaQ2
namespace Go.Proofs.Ytpdgifldpnpeeaa.PAll
open Go.RowKit Go.Proofs.YtpdgifldpnpeeaaW.PrintWords Go.Proofs.YtpdgifldpnpeeaaW.PrintLast Go.Proofs.YtpdgifldpnpeeaaW.PrintMore
set_option linter.unusedVariables false
set_option linter.unusedSimpArgs false
attribute [local irreducible] Calls

/-- Key x of the list, unless it is dropped. -/
def keyNotL (l : List Int) (d : List Bool) (x : Int) : Option Int := if rdOf false d x = true then none else some (rd l x)
def DropRel (w w' : World) (v u : Value) (n : Nat) (l : List Int) (d : List Bool) (g : Nat) (i : Int) : Prop := 0 ≤ i ∧ i ≤ n ∧ n ≤ i + g ∧ ∃ m m2, LQ (Qs w.heap.size u m2) w w' v m ∧ Upto n (keyNotL l d) (keyOfL l) m i ∧ Upto n (keyNotL l d) (fun _ => none) m2 n

set_option maxHeartbeats 16000000 in
set_option maxRecDepth 1000000 in
theorem PqDrops_walk (A0 : Option Addr) (c0 : Nat) (l0 : List Int) (A1 : Option Addr) (c1 : Nat) (l1 : List Bool) (w : World) (hr0 : (Kd.int .i64).C w A0 l0.length l0) (hr1 : Kd.bool.C w A1 l1.length l1) :
    Calls Try.prog 5 #[.slice A0 l0.length c0, .slice A1 l1.length c1] w (LawPost w true) := by
  have HR := Aside0.mk hr0
  have HR1 := Aside0.mk hr1
  clear hr0 hr1
  by_cases hlen : (100 : Int) < (l0.length : Int)
  · go_enter Try.func5, Try.ntmps5
    go_wp2_with (first | (go_at_call 8; refine (lives.calls w).mono ?_; rintro e w2 ⟨rfl, hb⟩; have HB := Aside0.mk hb; clear hb))
    go_ret
    exact ⟨by first | rfl | (simp; done), HB.out⟩
  have hlen2 : (l0.length : Int) ≤ 100 := by omega
  have hlen3 : decide ((100 : Int) < (l0.length : Int)) = false := decide_eq_false hlen
  by_cases hle : (l1.length : Int) = (l0.length : Int)
  case neg =>
    have hleb : ((l1.length : Int) == (l0.length : Int)) = false := beq_eq_false_iff_ne.2 hle
    have hlec : ((l1.length : Int) != (l0.length : Int)) = true := by simp [bne, hleb]
    clear hle hlen
    go_enter Try.func5, Try.ntmps5
    go_wp2_with (first | (go_at_call 8; refine (lives.calls w).mono ?_; rintro e w2 ⟨rfl, hb⟩; have HB := Aside0.mk hb; clear hb))
    go_ret
    exact ⟨by first | rfl | (simp; done), HB.out⟩
  obtain ⟨n, hn⟩ : ∃ n, n = l0.length := ⟨_, rfl⟩
  have hn1 : l1.length = n := by omega
  rw [← hn] at HR hlen2 hlen3 ⊢
  rw [hn1] at HR1 ⊢
  have HN0 := Aside0.mk hn
  have HN1 := Aside0.mk hn1
  clear hle hlen hn hn1
  have HNew := Aside0.mk (fun w1 (hb : Below w.heap.size w w1) => LQ_New hb n (List.replicate n none) (by unfold pq_New.f; rw [if_pos (by omega)]; simp))
  have HB0 := Aside0.mk (Below.refl w.heap.size w)
  go_enter Try.func5, Try.ntmps5
  go_wp2_with (first
    | (go_at_call 9; refine (HNew.out _ HB0.out).mono ?_; rintro e w1 ⟨p, rfl, h1, _, h3⟩; have HQ := Aside0.mk (show LQ Non w w1 (.pointer (some ⟨p, 0, none⟩)) (List.replicate n none) from ⟨_, h1, trivial, h3⟩); clear h1 h3 HB0)
    | (go_at_call 9; refine (HNew.out _ HQ.out.below).mono ?_; rintro e w2 ⟨p2, rfl, h1, h2, h3⟩; have HQ2 := Aside0.mk (LQ_second HQ.out h1 h2 h3); clear h1 h2 h3 HQ))
  go_loopg [7] n (fun g vi wr => ∃ i : Int, vi = .int .i64 i ∧ MovRel2 w wr (.pointer (some ⟨p, 0, none⟩)) (.pointer (some ⟨p2, 0, none⟩)) n (keyOfL l0) (keyNotL l0 l1) (fun _ => none) (fun _ => none) g i)
  case atStart => exact ⟨0, rfl, by omega, by omega, by omega, _, _, HQ2.out, upto_new n _, upto_new n _⟩
  case round =>
    clear HQ2
    obtain ⟨i, rfl, i0, i1, hg, m, m2, hq, hu1, hu2⟩ := hrel
    have HQ := Aside0.mk hq
    have HU1 := Aside0.mk hu1
    have HU2 := Aside0.mk hu2
    clear hq hu1 hu2
    by_cases c : i < (n : Int)
    · obtain ⟨s1, s2⟩ := upto_set (k := rd l0 i) HU1.out i0 c rfl
      have HS2 := Aside0.mk s2
      have HC := Aside0.mk (LQ_Set (stay_qs _ _ _) HQ.out i (rd l0 i) true _ s1)
      obtain ⟨ad, e, hx⟩ := Kd.at_int HR.out i i0 c
      subst e
      obtain ⟨ad2, e, hx2⟩ := Kd.at_bool HR1.out i i0 c
      subst e
      have HX := Aside0.mk (fun (w2 : World) (hb : Below w.heap.size w w2) => (by obtain ⟨ad2, e2, hx2⟩ := Kd.at_int (Kd.C_below HR.out hb) i i0 c; injection e2 with e2; subst e2; exact hx2 : w2.cell? (ad.add i.toNat) = some (.int .i64 (rd l0 i))))
      have HX2 := Aside0.mk (fun (w2 : World) (hb : Below w.heap.size w w2) => (by obtain ⟨ad3, e2, hx2⟩ := Kd.at_bool (Kd.C_below HR1.out hb) i i0 c; injection e2 with e2; subst e2; exact hx2 : w2.cell? (ad2.add i.toNat) = some (.bool (rdOf false l1 i))))
      clear s1 s2 hx hx2
      have hx := HX.out _ HQ.out.below
      cases hd : rdOf false l1 i with
      | true =>
        have HD := Aside0.mk (upto_skip HU2.out (show keyNotL l0 l1 i = none by unfold keyNotL; rw [hd, if_pos rfl]))
        rw [hd] at HX2
        clear hd
        go_wp2_with (first
          | (go_at_call 10; (with_reducible refine (HC.out).mono ?_); rintro e w2 ⟨rfl, h⟩; have HQ2 := Aside0.mk h; clear h hx; have hx2 := HX2.out w2 HQ2.out.below))
        go_roundg (n - (i + 1)).toNat
        case measure => omega
        case rel => exact ⟨i + 1, by first | rfl | go_num, by omega, by omega, by omega, _, _, HQ2.out, HS2.out, HD.out⟩
      | false =>
        obtain ⟨t1, t2⟩ := upto_set (k := rd l0 i) HU2.out i0 c (show keyNotL l0 l1 i = some (rd l0 i) by unfold keyNotL; rw [hd, if_neg (by decide)])
        have HT2 := Aside0.mk t2
        have HC2 := Aside0.mk (fun w2 (h : LQ (Qs w.heap.size (.pointer (some ⟨p2, 0, none⟩)) m2) w w2 (.pointer (some ⟨p, 0, none⟩)) (m.set i.toNat (some (rd l0 i)))) => LQ_Set (stay_qs _ _ _) h.swap i (rd l0 i) true _ t1)
        rw [hd] at HX2
        clear hd t1 t2
        go_wp2_with (first
          | (go_at_call 10; (with_reducible refine (HC.out).mono ?_); rintro e w2 ⟨rfl, h⟩; have HQ2 := Aside0.mk h; clear h hx; have hx := HX.out w2 HQ2.out.below; have hx2 := HX2.out w2 HQ2.out.below)
          | (go_at_call 10; (with_reducible refine (HC2.out _ HQ2.out).mono ?_); rintro e w3 ⟨rfl, h⟩; have HQ3 := Aside0.mk h.swap; clear h hx hx2))
        go_roundg (n - (i + 1)).toNat
        case measure => omega
        case rel => exact ⟨i + 1, by first | rfl | go_num, by omega, by omega, by omega, _, _, HQ3.out, HS2.out, HT2.out⟩
    · have HU := Aside0.mk (show DropRel w wr (.pointer (some ⟨p, 0, none⟩)) (.pointer (some ⟨p2, 0, none⟩)) n l0 l1 n 0 from ⟨by omega, by omega, by omega, m, m2, HQ.out, upto_from HU1.out (by omega), by have h := HU2.out; rw [show i = n by omega] at h; exact h⟩)
      go_wp2
      go_loopg [8] n (fun g vi wr => ∃ i : Int, vi = .int .i64 i ∧ DropRel w wr (.pointer (some ⟨p, 0, none⟩)) (.pointer (some ⟨p2, 0, none⟩)) n l0 l1 g i)
      case atStart => exact ⟨0, rfl, HU.out⟩
      case round =>
        clear HU HQ HU1 HU2 i1 i0 hg c
        obtain ⟨i, rfl, i0, i1, hg, m1, m2, hq, hu1, hu2⟩ := hrel
        have HQ := Aside0.mk hq
        have HU1 := Aside0.mk hu1
        have HU2 := Aside0.mk hu2
        clear hq hu1 hu2
        by_cases c : i < (n : Int)
        · obtain ⟨ad2, e, hx2⟩ := Kd.at_bool (Kd.C_below HR1.out HQ.out.below) i i0 c
          subst e
          cases hd : rdOf false l1 i with
          | true =>
            obtain ⟨s1, s2, s3⟩ := upto_drop (k := rd l0 i) HU1.out i0 c rfl (show keyNotL l0 l1 i = none by unfold keyNotL; rw [hd, if_pos rfl])
            have HS3 := Aside0.mk s3
            have HC := Aside0.mk (LQ_Drop (stay_qs _ _ _) HQ.out i true _ s1)
            have HC2 := Aside0.mk (fun w2 (h : LQ (Qs w.heap.size (.pointer (some ⟨p2, 0, none⟩)) m2) w w2 (.pointer (some ⟨p, 0, none⟩)) (m1.set i.toNat none)) => LQ_Drop (stay_qs _ _ _) h i false _ s2)
            rw [hd] at hx2
            clear hd s1 s2 s3
            go_wp2_with (first
              | (go_at_call 13; (with_reducible refine (HC.out).mono ?_); rintro e w2 ⟨rfl, h⟩; have HQ2 := Aside0.mk h; clear h)
              | (go_at_call 13; (with_reducible refine (HC2.out _ HQ2.out).mono ?_); rintro e w3 ⟨rfl, h⟩; have HQ3 := Aside0.mk h; clear h))
            go_roundg (n - (i + 1)).toNat
            case measure => omega
            case rel => exact ⟨i + 1, by first | rfl | go_num, by omega, by omega, by omega, _, _, HQ3.out, HS3.out, HU2.out⟩
          | false =>
            have HS3 := Aside0.mk (upto_skip HU1.out (show keyNotL l0 l1 i = keyOfL l0 i by unfold keyNotL keyOfL; rw [hd, if_neg (by decide)]))
            rw [hd] at hx2
            clear hd
            go_wp2
            go_roundg (n - (i + 1)).toNat
            case measure => omega
            case rel => exact ⟨i + 1, by first | rfl | go_num, by omega, by omega, by omega, _, _, HQ.out, HS3.out, HU2.out⟩
        · have hmm : m1 = m2 := upto_done HU1.out HU2.out (by omega) (by omega) (fun _ _ _ => rfl)
          have HV := Aside0.mk (show MovRel3 w wr (.pointer (some ⟨p, 0, none⟩)) (.pointer (some ⟨p2, 0, none⟩)) n (n + 1) 0 from ⟨by omega, by omega, by omega, m2, by rw [← hmm]; rw [← hmm] at HQ; exact HQ.out⟩)
          clear hmm
          go_wp2
          go_loopg [9] (n + 1) (fun g vi wr => ∃ i : Int, vi = .int .i64 i ∧ MovRel3 w wr (.pointer (some ⟨p, 0, none⟩)) (.pointer (some ⟨p2, 0, none⟩)) n g i)
          case atStart => exact ⟨0, rfl, HV.out⟩
          case round =>
            clear HV HQ HU1 HU2 i1 i0 hg c
            obtain ⟨i, rfl, i0, i1, hg, m, hq⟩ := hrel
            have HQ := Aside0.mk hq
            clear hq
            by_cases c : i ≤ (n : Int)
            · obtain ⟨r1, r2, r3, r4, hf⟩ := pop_any m
              have HC := Aside0.mk (LQ_Pop (stay_qs _ _ _) HQ.out r1 r2 r3 r4 hf)
              have HC2 := Aside0.mk (fun w2 (h : LQ (Qs w.heap.size (.pointer (some ⟨p2, 0, none⟩)) m) w w2 (.pointer (some ⟨p, 0, none⟩)) r4) => LQ_Pop (stay_qs _ _ _) h.swap r1 r2 r3 r4 hf)
              clear hf
              go_wp2_with (first
                | (go_at_call 11; (with_reducible refine (HC.out).mono ?_); rintro e w2 ⟨rfl, h⟩; have HQ2 := Aside0.mk h; clear h)
                | (go_at_call 11; (with_reducible refine (HC2.out _ HQ2.out).mono ?_); rintro e w3 ⟨rfl, h⟩; have HQ3 := Aside0.mk h.swap; clear h))
              go_roundg (n + 1 - (i + 1)).toNat
              case measure => omega
              case rel => exact ⟨i + 1, by first | rfl | go_num, by omega, by omega, by omega, _, HQ3.out⟩
            · go_wp2_with (first
                | (go_at_call 8; refine (lives.calls _).mono ?_; rintro e w4 ⟨rfl, hb⟩; have HB := Aside0.mk (below_step HQ.out.below hb); clear hb))
              go_ret
              exact ⟨by first | rfl | (simp; done), HB.out⟩
end Go.Proofs.Ytpdgifldpnpeeaa.PAll
