/- The walk of settle (package pq): a heap with a hole is a heap again. -/
import Derived.Test.YtpdgifldpnpeeaaQW
import Derived.Deep.LoopGhost
namespace Go.Proofs.Ytpdgifldpnpeeaa.PAll
open Go.RowKit Go.Proofs.YtpdgifldpnpeeaaW.PrintWords Go.Proofs.YtpdgifldpnpeeaaW.PrintLast Go.Proofs.YtpdgifldpnpeeaaW.PrintMore
set_option linter.unusedVariables false
set_option linter.unusedSimpArgs false
attribute [local irreducible] Calls

theorem pq_less_b {w : World} {base : Nat} {ok : Nat → Prop} {p gh gp gy ch cp ck nh n : Nat} {hp pl ky : List Int} (h : QC w base ok p gh gp gy ch cp ck nh n hp pl ky) (hI : QI n hp pl ky) (i k : Int) (b : Bool) (hi0 : 0 ≤ i) (hi1 : i < nh) (hk0 : 0 ≤ k) (hk1 : k < nh) (hb : ltk ky (rd hp i) (rd hp k) = b) :
    Calls Try.prog 26 #[.pointer (some ⟨p, 0, none⟩), .int .i64 i, .int .i64 k] w fun e w' => e = .returned (.bool b) ∧ ∃ m, w' = w.drewN m := by
  have hn := h.hl.1
  have a1 := hI.hb i hi0 (by omega)
  have a2 := hI.hb k hk0 (by omega)
  subst hb
  exact (pq_less.calls h i k hi0 hi1 hk0 hk1 a1.1 a1.2.1 a2.1 a2.2.1).mono fun e w' ⟨h1, h2⟩ => ⟨h1, h2.out⟩

/-- The queue as settle finds and leaves it. -/
def SQ (w0 w : World) (base : Nat) (ok : Nat → Prop) (p gh gp gy ch cp ck nh n : Nat) (pl0 ky hp pl : List Int) : Prop :=
  QC w base ok p gh gp gy ch cp ck nh n hp pl ky ∧ QI n hp pl ky ∧ Same n pl0 pl ∧ Tr base ok w0 w
section
variable {w0 w : World} {base : Nat} {ok : Nat → Prop} {p gh gp gy ch cp ck nh n : Nat} {pl0 ky hp pl : List Int}
theorem SQ.drewN (h : SQ w0 w base ok p gh gp gy ch cp ck nh n pl0 ky hp pl) (m : Nat) : SQ w0 (w.drewN m) base ok p gh gp gy ch cp ck nh n pl0 ky hp pl := ⟨h.1.drewN m, h.2.1, h.2.2.1, h.2.2.2.drewN m⟩
def SwapPost (w0 : World) (base : Nat) (ok : Nat → Prop) (p gh gp gy ch cp ck nh n : Nat) (pl0 ky hp pl : List Int) (i k : Int) (e : Ending) (w' : World) : Prop :=
  e = .returned (.tuple #[]) ∧ SQ w0 w' base ok p gh gp gy ch cp ck nh n pl0 ky (swh hp i k) (swp hp pl i k)
theorem pq_swap_s (h : SQ w0 w base ok p gh gp gy ch cp ck nh n pl0 ky hp pl) (i k : Int) (hi0 : 0 ≤ i) (hi1 : i < nh) (hk0 : 0 ≤ k) (hk1 : k < nh) :
    Calls Try.prog 24 #[.pointer (some ⟨p, 0, none⟩), .int .i64 i, .int .i64 k] w (SwapPost w0 base ok p gh gp gy ch cp ck nh n pl0 ky hp pl i k) := by
  obtain ⟨hq, hI, hs, ht⟩ := h
  have hn := hq.hl.1
  have a1 := hI.hb i hi0 (by omega)
  have a2 := hI.hb k hk0 (by omega)
  obtain ⟨s1, s2⟩ := swap_QI hI hi0 (by omega : i < hp.length) hk0 (by omega : k < hp.length)
  exact (pq_swap.calls hq i k hi0 hi1 hk0 hk1 a1.1 a1.2.1 a2.1 a2.2.1).mono fun e w' ⟨h1, h2, h3⟩ => ⟨h1, h2, s1, hs.trans s2, ht.trans h3⟩
end
def SettlePost (w0 : World) (base : Nat) (ok : Nat → Prop) (p gh gp gy ch cp ck nh n : Nat) (pl0 ky : List Int) (e : Ending) (w' : World) : Prop :=
  e = .returned (.tuple #[]) ∧ ∃ hp pl, SQ w0 w' base ok p gh gp gy ch cp ck nh n pl0 ky hp pl ∧ Heap hp ky
theorem mkfun (P : Program) : ∀ (fn : Fn) (first cap : Array Value) (w : World), (Instr.makeFunc fn first cap).run P w = .ok (.func fn first cap) w := fun _ _ _ _ => rfl

theorem ix0 (a b : Int) (w : World) : (Instr.index 58 (.agg #[.int .i64 a, .int .i64 b]) (.int .i64 0)).run Try.prog w = .ok (.int .i64 a) w := by kernel_rfl
theorem ix1 (a b : Int) (w : World) : (Instr.index 58 (.agg #[.int .i64 a, .int .i64 b]) (.int .i64 1)).run Try.prog w = .ok (.int .i64 b) w := by kernel_rfl
/-- The relation of the first loop. -/
def UpRel (w0 : World) (base : Nat) (ok : Nat → Prop) (p gh gp gy ch cp ck nh n : Nat) (pl0 ky : List Int) (g : Nat) (i : Int) (w : World) : Prop :=
  0 ≤ i ∧ i < nh ∧ i.toNat < g ∧ ∃ hp pl, SQ w0 w base ok p gh gp gy ch cp ck nh n pl0 ky hp pl ∧ Hole hp ky i
def DownRel (w0 : World) (base : Nat) (ok : Nat → Prop) (p gh gp gy ch cp ck nh n : Nat) (pl0 ky : List Int) (g : Nat) (i : Int) (w : World) : Prop :=
  0 ≤ i ∧ i < nh ∧ nh ≤ i.toNat + g ∧ ∃ hp pl, SQ w0 w base ok p gh gp gy ch cp ck nh n pl0 ky hp pl ∧ Hole hp ky i ∧ UpOk hp ky i

/-- The least of the first j children and of i itself. -/
def InRel (ky hp : List Int) (nh : Nat) (i : Int) (g : Nat) (j l : Int) : Prop :=
  0 ≤ j ∧ j ≤ 2 ∧ j + g = 2 ∧ 0 ≤ l ∧ l < nh ∧
  (l = i ∨ (l = 2 * i + 1 ∧ 1 ≤ j ∧ ltk ky (rd hp l) (rd hp i) = true) ∨ (l = 2 * i + 2 ∧ 2 ≤ j ∧ ltk ky (rd hp l) (rd hp i) = true)) ∧ ord ky (rd hp l) (rd hp i) ∧
  (1 ≤ j → 2 * i + 1 < nh → ord ky (rd hp l) (rd hp (2 * i + 1))) ∧ (2 ≤ j → 2 * i + 2 < nh → ord ky (rd hp l) (rd hp (2 * i + 2)))

set_option maxHeartbeats 16000000 in
set_option maxRecDepth 1000000 in
theorem pq_settle.calls {w : World} {base : Nat} {ok : Nat → Prop} {p gh gp gy ch cp ck nh n : Nat} {hp pl ky : List Int} (h : QC w base ok p gh gp gy ch cp ck nh n hp pl ky) (hI : QI n hp pl ky) (i : Int) (hi0 : 0 ≤ i) (hi1 : i < nh) (hh : Hole hp ky i) (hnh : (nh : Int) ≤ 1048576) :
    Calls Try.prog 23 #[.pointer (some ⟨p, 0, none⟩), .int .i64 i] w (SettlePost w base ok p gh gp gy ch cp ck nh n pl ky) := by
  have HS : SQ w w base ok p gh gp gy ch cp ck nh n pl ky hp pl := ⟨h, hI, Same.refl _ _, Tr.refl _ _ _⟩
  have hmf := mkfun Try.prog
  have hx0 := ix0
  have hx1 := ix1
  have HU : UpRel w base ok p gh gp gy ch cp ck nh n pl ky (i.toNat + 1) i w := ⟨hi0, hi1, by omega, hp, pl, HS, hh⟩
  clear h hI hh HS
  go_enter Try.func23, Try.ntmps23
  go_upto_block 0 with (fail)
  go_cut [1] (fun vi wr => ∃ i' : Int, vi = .int .i64 i' ∧ DownRel w base ok p gh gp gy ch cp ck nh n pl ky nh i' wr)
  case first =>
    go_wp2
    go_loopg [1] (i.toNat + 1) (fun g vi wr => ∃ i' : Int, vi = .int .i64 i' ∧ UpRel w base ok p gh gp gy ch cp ck nh n pl ky g i' wr)
    case atStart => exact ⟨i, rfl, HU⟩
    case round =>
      clear HU hi0 hi1
      obtain ⟨i', rfl, h0, h1, hg, hp', pl', HS, HO⟩ := hrel
      have HS := Aside0.mk HS
      have HO := Aside0.mk HO
      have hlen := Aside0.mk HS.out.1.hl.1
      by_cases c1 : 0 < i'
      · have q0 : 0 ≤ (i' - 1) / 2 := by omega
        have q1 : (i' - 1) / 2 < nh := by omega
        cases hb : ltk ky (rd hp' i') (rd hp' ((i' - 1) / 2)) with
        | true =>
          have HB := Aside0.mk hb
          clear hb
          go_wp2_with (first | (go_at_call 26; refine (pq_less_b HS.out.1 HS.out.2.1 _ _ true h0 h1 q0 q1 HB.out).mono ?_; rintro e w2 ⟨rfl, m, rfl⟩) | (go_at_call 24; refine (pq_swap_s (HS.out.drewN _) _ _ h0 h1 q0 q1).mono ?_; rintro e w3 ⟨rfl, hs3⟩; have HS3 := Aside0.mk hs3; clear hs3))
          go_roundg i'.toNat
          case measure => omega
          case rel => exact ⟨_, rfl, q0, q1, by omega, _, _, HS3.out, up_step HO.out c1 (by have := hlen.out; omega) HB.out⟩
        | false =>
          have HB := Aside0.mk hb
          clear hb
          go_wp2_with (first | (go_at_call 26; refine (pq_less_b HS.out.1 HS.out.2.1 _ _ false h0 h1 q0 q1 HB.out).mono ?_; rintro e w2 ⟨rfl, m, rfl⟩))
          go_meet
          case rel => exact ⟨_, rfl, h0, h1, by omega, _, _, HS.out.drewN _, HO.out, fun _ => ord_of_not HB.out⟩
      · have c1b : decide (0 < i') = false := decide_eq_false c1
        go_wp2
        go_meet
        case rel => exact ⟨_, rfl, h0, h1, by omega, _, _, HS.out, HO.out, fun h => absurd h (by omega)⟩
  case rest =>
    clear HU hi0 hi1
    obtain ⟨i1, rfl, hcut⟩ := hcut
    go_wp2
    go_loopg [1] nh (fun g vi wr => ∃ i' : Int, vi = .int .i64 i' ∧ DownRel w base ok p gh gp gy ch cp ck nh n pl ky g i' wr)
    case atStart => exact ⟨i1, rfl, hcut⟩
    case round =>
      clear hcut
      obtain ⟨gk0, hgk0⟩ : ∃ x, x = gk := ⟨_, rfl⟩
      obtain ⟨i', rfl, h0, h1, hg, hp', pl', HS, HO, HUp⟩ := hrel
      have HS := Aside0.mk HS
      have HO := Aside0.mk HO
      have HUp := Aside0.mk HUp
      have hlen := Aside0.mk HS.out.1.hl.1
      go_wp2
      go_loopg [37, 5] 2 (fun g vc vl wr2 => ∃ j l : Int, vc = .int .i64 j ∧ vl = .int .i64 l ∧ InRel ky hp' nh i' g j l ∧ SQ w wr2 base ok p gh gp gy ch cp ck nh n pl ky hp' pl')
      case atStart => exact ⟨0, i', rfl, rfl, ⟨by omega, by omega, by omega, h0, h1, .inl rfl, ord_refl _ _, fun h => absurd h (by decide), fun h => absurd h (by decide)⟩, HS.out⟩
      case round =>
        clear HS
        obtain ⟨j, l, rfl, rfl, ⟨hj0, hj1, hj2, l0, l1, hl, hli, hla, hlb⟩, HS2⟩ := hrel
        have HS := Aside0.mk HS2
        clear HS2
        have HL := Aside0.mk hl
        have HLI := Aside0.mk hli
        have HLA := Aside0.mk hla
        have HLB := Aside0.mk hlb
        clear hl hli hla hlb
        have hj : j = 0 ∨ j = 1 ∨ j = 2 := by omega
        rcases hj with rfl | rfl | rfl
        · have k0 : (0 : Int) ≤ 2 * i' + 1 := by omega
          have hh0 := HS.out.1.c0
          by_cases c2 : 2 * i' + 1 < (nh : Int)
          · cases hb : ltk ky (rd hp' (2 * i' + 1)) (rd hp' l) with
            | true =>
              have HB := Aside0.mk hb
              clear hb
              go_wp2_with (first | (go_at_call 26; refine (pq_less_b HS.out.1 HS.out.2.1 _ _ true k0 c2 l0 l1 HB.out).mono ?_; rintro e w2 ⟨rfl, m, rfl⟩))
              go_roundg 1
              case measure => omega
              case rel => exact ⟨1, 2 * i' + 1, rfl, rfl, ⟨by omega, by omega, by omega, k0, c2, .inr (.inl ⟨rfl, by omega, ltk_ord HB.out HLI.out⟩), ord_of_lt (ltk_ord HB.out HLI.out), fun _ _ => ord_refl _ _, fun h => absurd h (by decide)⟩, HS.out.drewN _⟩
            | false =>
              have HB := Aside0.mk hb
              clear hb
              go_wp2_with (first | (go_at_call 26; refine (pq_less_b HS.out.1 HS.out.2.1 _ _ false k0 c2 l0 l1 HB.out).mono ?_; rintro e w2 ⟨rfl, m, rfl⟩))
              go_roundg 1
              case measure => omega
              case rel => exact ⟨1, l, rfl, rfl, ⟨by omega, by omega, by omega, l0, l1, HL.out.imp_right (Or.imp (fun h => ⟨h.1, by omega, h.2.2⟩) (fun h => ⟨h.1, by omega, h.2.2⟩)), HLI.out, fun _ _ => ord_of_not HB.out, fun h => absurd h (by decide)⟩, HS.out.drewN _⟩
          · have c2b : decide (2 * i' + 1 < (nh : Int)) = false := decide_eq_false c2
            go_wp2
            go_roundg 1
            case measure => omega
            case rel => exact ⟨1, l, rfl, rfl, ⟨by omega, by omega, by omega, l0, l1, HL.out.imp_right (Or.imp (fun h => ⟨h.1, by omega, h.2.2⟩) (fun h => ⟨h.1, by omega, h.2.2⟩)), HLI.out, fun _ h => absurd h (by omega), fun h => absurd h (by decide)⟩, HS.out⟩
        · have k0 : (0 : Int) ≤ 2 * i' + 2 := by omega
          have hh0 := HS.out.1.c0
          by_cases c2 : 2 * i' + 2 < (nh : Int)
          · cases hb : ltk ky (rd hp' (2 * i' + 2)) (rd hp' l) with
            | true =>
              have HB := Aside0.mk hb
              clear hb
              go_wp2_with (first | (go_at_call 26; refine (pq_less_b HS.out.1 HS.out.2.1 _ _ true k0 c2 l0 l1 HB.out).mono ?_; rintro e w2 ⟨rfl, m, rfl⟩))
              go_roundg 0
              case measure => omega
              case rel => exact ⟨2, 2 * i' + 2, rfl, rfl, ⟨by omega, by omega, by omega, k0, c2, .inr (.inr ⟨rfl, by omega, ltk_ord HB.out HLI.out⟩), ord_of_lt (ltk_ord HB.out HLI.out), fun _ h => ord_trans (ord_of_lt HB.out) (HLA.out (by omega) h), fun _ _ => ord_refl _ _⟩, HS.out.drewN _⟩
            | false =>
              have HB := Aside0.mk hb
              clear hb
              go_wp2_with (first | (go_at_call 26; refine (pq_less_b HS.out.1 HS.out.2.1 _ _ false k0 c2 l0 l1 HB.out).mono ?_; rintro e w2 ⟨rfl, m, rfl⟩))
              go_roundg 0
              case measure => omega
              case rel => exact ⟨2, l, rfl, rfl, ⟨by omega, by omega, by omega, l0, l1, HL.out.imp_right (Or.imp (fun h => ⟨h.1, by omega, h.2.2⟩) (fun h => ⟨h.1, by omega, h.2.2⟩)), HLI.out, fun _ h => HLA.out (by omega) h, fun _ _ => ord_of_not HB.out⟩, HS.out.drewN _⟩
          · have c2b : decide (2 * i' + 2 < (nh : Int)) = false := decide_eq_false c2
            go_wp2
            go_roundg 0
            case measure => omega
            case rel => exact ⟨2, l, rfl, rfl, ⟨by omega, by omega, by omega, l0, l1, HL.out.imp_right (Or.imp (fun h => ⟨h.1, by omega, h.2.2⟩) (fun h => ⟨h.1, by omega, h.2.2⟩)), HLI.out, fun _ h => HLA.out (by omega) h, fun _ h => absurd h (by omega)⟩, HS.out⟩
        · by_cases c3 : l = i'
          · subst c3
            go_wp2
            go_end0
            exact ⟨rfl, _, _, HS.out, down_stop HO.out HUp.out h0 (fun h => HLA.out (by omega) (by have := hlen.out; omega)) (fun h => HLB.out (by omega) (by have := hlen.out; omega))⟩
          · have c3b : (l == i') = false := beq_eq_false_iff_ne.2 c3
            have hd : (l = 2 * i' + 1 ∨ l = 2 * i' + 2) ∧ ltk ky (rd hp' l) (rd hp' i') = true := by
              rcases HL.out with e | e | e
              · exact absurd e c3
              · exact ⟨.inl e.1, e.2.2⟩
              · exact ⟨.inr e.1, e.2.2⟩
            have HD := Aside0.mk hd
            have hlt : nh - l.toNat < gk0 := by have := hd.1; omega
            clear c3 hd
            go_wp2_with (first | (go_at_call 24; refine (pq_swap_s HS.out _ _ h0 h1 l0 l1).mono ?_; rintro e w3 ⟨rfl, hs3⟩; have HS3 := Aside0.mk hs3; clear hs3))
            go_roundg (nh - l.toNat)
            case measure => omega
            case rel =>
              have hlen' := hlen.out
              obtain ⟨d1, d2⟩ := down_step HO.out HUp.out h0 (by omega : l < hp'.length) HD.out.1 HD.out.2 (fun d e0 e1 e2 => by
                have : d = 2 * i' + 1 ∨ d = 2 * i' + 2 := by omega
                rcases this with e | e
                · rw [e]
                  exact HLA.out (by omega) (by omega)
                · rw [e]
                  exact HLB.out (by omega) (by omega))
              exact ⟨l, rfl, l0, l1, by omega, _, _, HS3.out, d1, d2⟩
end Go.Proofs.Ytpdgifldpnpeeaa.PAll
