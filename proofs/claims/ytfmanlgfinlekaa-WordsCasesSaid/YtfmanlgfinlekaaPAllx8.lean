-- Written by a program of this session (wip/tools), over the words that print.sh lays. (slim)
import Derived.Test.YtfmanlgfinlekaaPAllx0
import Derived.Test.YtfmanlgfinlekaaPAllx2
import Derived.Test.YtfmanlgfinlekaaPAllx3
import Derived.Test.YtfmanlgfinlekaaPAllx5
import Derived.Test.YtfmanlgfinlekaaPAllx6
import Derived.Test.YtfmanlgfinlekaaPAllx7
namespace Go.Proofs.Ytfmanlgfinlekaa.PAll
open Go.RowKit Go.Proofs.YtfmanlgfinlekaaW.PrintWords Go.Proofs.YtfmanlgfinlekaaW.PrintLast Go.Proofs.YtfmanlgfinlekaaW.PrintMore
attribute [local go_sem] max2_int min2_int max_two min_two max_three min_three max_four min_four   -- for this text's walks alone
set_option linter.unusedVariables false
set_option linter.unusedSimpArgs false
attribute [local irreducible] Calls

/-! ### mapmakerlaw51_lives: function 8 -/
def mapmakerlaw51_lives.f (k : Nat)  : Option (Bool) := (words_Of.f k (⟨#[195, 137, 99, 111, 108, 101, 32, 83, 116, 46, 32, 53]⟩ : ByteArray)).bind fun t116 => ((mapmakerref51_Same.f k t116 (([(⟨#[101, 99, 111, 108, 101]⟩ : ByteArray), (⟨#[115, 116, 114, 101, 101, 116]⟩ : ByteArray), (⟨#[53]⟩ : ByteArray)] : List ByteArray))).bind fun t122 => (if t122 = true then ((words_Fold.f k (⟨#[83, 116, 114, 97, 195, 159, 101]⟩ : ByteArray)).bind fun t123 => (if t123.toList = ([115, 116, 114, 97, 115, 115, 101] : List UInt8) then ((words_Expand.f (⟨#[115, 116, 101]⟩ : ByteArray)).bind fun t124 => (if t124.toList = ([115, 97, 105, 110, 116] : List UInt8) then ((words_Split.f k (⟨#[97, 45, 98]⟩ : ByteArray)).bind fun t125 => ((mapmakerref51_Same.f k t125 (([(⟨#[97]⟩ : ByteArray), (⟨#[98]⟩ : ByteArray)] : List ByteArray))).bind fun t131 => (some t131))) else (none))) else (none))) else (none)))
theorem mapmakerlaw51_lives.mono : ∀ k, LeO (mapmakerlaw51_lives.f k ) (mapmakerlaw51_lives.f (k + 1) ) := by
 intro  k
 unfold mapmakerlaw51_lives.f
 repeat' first
   | (with_reducible exact mapmakerref51_Same.mono _ _ _)
   | (with_reducible exact words_Fold.mono _ _)
   | (with_reducible exact words_Of.mono _ _)
   | (with_reducible exact words_Split.mono _ _)
   | (with_reducible exact LeO.refl _)
   | (with_reducible exact LeO.none _)
   | (with_reducible refine LeO.ite ?_ ?_)
   | (with_reducible refine LeO.bind ?_ (fun _ => ?_))
   | exact mapmakerref51_Same.mono _ _ _
   | exact words_Fold.mono _ _
   | exact words_Of.mono _ _
   | exact words_Split.mono _ _
   | exact LeO.none _
   | refine LeO.ite ?_ ?_
   | refine LeO.bind ?_ (fun _ => ?_)
set_option maxHeartbeats 8000000 in
set_option maxRecDepth 100000 in
theorem mapmakerlaw51_lives.calls (k : Nat)  (r : Bool) (w : World) (h : mapmakerlaw51_lives.f k  = some r) :
  Calls Try.prog 8 #[] w fun e w' => e = .returned (.bool r) ∧ Below w.heap.size w w' := by
 have HB := Aside0.mk (Below.refl w.heap.size w)
 have H : ((words_Of.f k (⟨#[195, 137, 99, 111, 108, 101, 32, 83, 116, 46, 32, 53]⟩ : ByteArray)).bind fun t116 => ((mapmakerref51_Same.f k t116 (([(⟨#[101, 99, 111, 108, 101]⟩ : ByteArray), (⟨#[115, 116, 114, 101, 101, 116]⟩ : ByteArray), (⟨#[53]⟩ : ByteArray)] : List ByteArray))).bind fun t122 => (if t122 = true then ((words_Fold.f k (⟨#[83, 116, 114, 97, 195, 159, 101]⟩ : ByteArray)).bind fun t123 => (if t123.toList = ([115, 116, 114, 97, 115, 115, 101] : List UInt8) then ((words_Expand.f (⟨#[115, 116, 101]⟩ : ByteArray)).bind fun t124 => (if t124.toList = ([115, 97, 105, 110, 116] : List UInt8) then ((words_Split.f k (⟨#[97, 45, 98]⟩ : ByteArray)).bind fun t125 => ((mapmakerref51_Same.f k t125 (([(⟨#[97]⟩ : ByteArray), (⟨#[98]⟩ : ByteArray)] : List ByteArray))).bind fun t131 => (some t131))) else (none))) else (none))) else (none)))) = some r := h
 clear h
 replace H := Option.bind_eq_some_iff.mp H
 obtain ⟨t116, A10, H⟩ := H
 replace H : ((mapmakerref51_Same.f k t116 (([(⟨#[101, 99, 111, 108, 101]⟩ : ByteArray), (⟨#[115, 116, 114, 101, 101, 116]⟩ : ByteArray), (⟨#[53]⟩ : ByteArray)] : List ByteArray))).bind fun t122 => (if t122 = true then ((words_Fold.f k (⟨#[83, 116, 114, 97, 195, 159, 101]⟩ : ByteArray)).bind fun t123 => (if t123.toList = ([115, 116, 114, 97, 115, 115, 101] : List UInt8) then ((words_Expand.f (⟨#[115, 116, 101]⟩ : ByteArray)).bind fun t124 => (if t124.toList = ([115, 97, 105, 110, 116] : List UInt8) then ((words_Split.f k (⟨#[97, 45, 98]⟩ : ByteArray)).bind fun t125 => ((mapmakerref51_Same.f k t125 (([(⟨#[97]⟩ : ByteArray), (⟨#[98]⟩ : ByteArray)] : List ByteArray))).bind fun t131 => (some t131))) else (none))) else (none))) else (none))) = some r := H
 have A1 := Aside0.mk A10
 clear A10
 obtain ⟨y119, hy119⟩ : ∃ y_ : List ByteArray, y_ = (([(⟨#[101, 99, 111, 108, 101]⟩ : ByteArray), (⟨#[115, 116, 114, 101, 101, 116]⟩ : ByteArray), (⟨#[53]⟩ : ByteArray)] : List ByteArray)) := ⟨_, rfl⟩
 replace H : ((mapmakerref51_Same.f k t116 y119).bind fun t122 => (if t122 = true then ((words_Fold.f k (⟨#[83, 116, 114, 97, 195, 159, 101]⟩ : ByteArray)).bind fun t123 => (if t123.toList = ([115, 116, 114, 97, 115, 115, 101] : List UInt8) then ((words_Expand.f (⟨#[115, 116, 101]⟩ : ByteArray)).bind fun t124 => (if t124.toList = ([115, 97, 105, 110, 116] : List UInt8) then ((words_Split.f k (⟨#[97, 45, 98]⟩ : ByteArray)).bind fun t125 => ((mapmakerref51_Same.f k t125 (([(⟨#[97]⟩ : ByteArray), (⟨#[98]⟩ : ByteArray)] : List ByteArray))).bind fun t131 => (some t131))) else (none))) else (none))) else (none))) = some r := by first | (rw [hy119]; with_reducible exact H) | (have H2_ := (Option.bind_some _ _).symm.trans H; rw [hy119]; with_reducible exact H2_) | (have H2_ := (Option.bind_some _ _).symm.trans H; with_reducible exact H2_) | with_reducible exact H | (rw [hy119]; exact H) | exact H
 have Ny119 := Aside0.mk hy119
 clear hy119
 replace H := Option.bind_eq_some_iff.mp H
 obtain ⟨t122, A20, H⟩ := H
 replace H : (if t122 = true then ((words_Fold.f k (⟨#[83, 116, 114, 97, 195, 159, 101]⟩ : ByteArray)).bind fun t123 => (if t123.toList = ([115, 116, 114, 97, 115, 115, 101] : List UInt8) then ((words_Expand.f (⟨#[115, 116, 101]⟩ : ByteArray)).bind fun t124 => (if t124.toList = ([115, 97, 105, 110, 116] : List UInt8) then ((words_Split.f k (⟨#[97, 45, 98]⟩ : ByteArray)).bind fun t125 => ((mapmakerref51_Same.f k t125 (([(⟨#[97]⟩ : ByteArray), (⟨#[98]⟩ : ByteArray)] : List ByteArray))).bind fun t131 => (some t131))) else (none))) else (none))) else (none)) = some r := H
 have A2 := Aside0.mk A20
 clear A20
 by_cases c3 : t122 = true
 ·subst c3
  have H1 : ((words_Fold.f k (⟨#[83, 116, 114, 97, 195, 159, 101]⟩ : ByteArray)).bind fun t123 => (if t123.toList = ([115, 116, 114, 97, 115, 115, 101] : List UInt8) then ((words_Expand.f (⟨#[115, 116, 101]⟩ : ByteArray)).bind fun t124 => (if t124.toList = ([115, 97, 105, 110, 116] : List UInt8) then ((words_Split.f k (⟨#[97, 45, 98]⟩ : ByteArray)).bind fun t125 => ((mapmakerref51_Same.f k t125 (([(⟨#[97]⟩ : ByteArray), (⟨#[98]⟩ : ByteArray)] : List ByteArray))).bind fun t131 => (some t131))) else (none))) else (none))) = some r := by rw [if_pos rfl] at H; exact H
  clear H
  have H := H1
  clear H1
  replace H := Option.bind_eq_some_iff.mp H
  obtain ⟨t123, A40, H⟩ := H
  replace H : (if t123.toList = ([115, 116, 114, 97, 115, 115, 101] : List UInt8) then ((words_Expand.f (⟨#[115, 116, 101]⟩ : ByteArray)).bind fun t124 => (if t124.toList = ([115, 97, 105, 110, 116] : List UInt8) then ((words_Split.f k (⟨#[97, 45, 98]⟩ : ByteArray)).bind fun t125 => ((mapmakerref51_Same.f k t125 (([(⟨#[97]⟩ : ByteArray), (⟨#[98]⟩ : ByteArray)] : List ByteArray))).bind fun t131 => (some t131))) else (none))) else (none)) = some r := H
  have A4 := Aside0.mk A40
  clear A40
  by_cases c5 : t123.toList = ([115, 116, 114, 97, 115, 115, 101] : List UInt8)
  ·rw [if_pos c5] at H
   have c5b0 : (t123.toList == ([115, 116, 114, 97, 115, 115, 101] : List UInt8)) = true := beq_iff_eq.mpr c5
   have c5b1 : (t123.toList != ([115, 116, 114, 97, 115, 115, 101] : List UInt8)) = false := bne_eq_false_iff_eq.mpr c5
   clear c5
   replace H := Option.bind_eq_some_iff.mp H
   obtain ⟨t124, A60, H⟩ := H
   replace H : (if t124.toList = ([115, 97, 105, 110, 116] : List UInt8) then ((words_Split.f k (⟨#[97, 45, 98]⟩ : ByteArray)).bind fun t125 => ((mapmakerref51_Same.f k t125 (([(⟨#[97]⟩ : ByteArray), (⟨#[98]⟩ : ByteArray)] : List ByteArray))).bind fun t131 => (some t131))) else (none)) = some r := H
   have A6 := Aside0.mk A60
   clear A60
   by_cases c7 : t124.toList = ([115, 97, 105, 110, 116] : List UInt8)
   ·rw [if_pos c7] at H
    have c7b0 : (t124.toList == ([115, 97, 105, 110, 116] : List UInt8)) = true := beq_iff_eq.mpr c7
    have c7b1 : (t124.toList != ([115, 97, 105, 110, 116] : List UInt8)) = false := bne_eq_false_iff_eq.mpr c7
    clear c7
    replace H := Option.bind_eq_some_iff.mp H
    obtain ⟨t125, A80, H⟩ := H
    replace H : ((mapmakerref51_Same.f k t125 (([(⟨#[97]⟩ : ByteArray), (⟨#[98]⟩ : ByteArray)] : List ByteArray))).bind fun t131 => (some t131)) = some r := H
    have A8 := Aside0.mk A80
    clear A80
    obtain ⟨y128, hy128⟩ : ∃ y_ : List ByteArray, y_ = (([(⟨#[97]⟩ : ByteArray), (⟨#[98]⟩ : ByteArray)] : List ByteArray)) := ⟨_, rfl⟩
    replace H : ((mapmakerref51_Same.f k t125 y128).bind fun t131 => (some t131)) = some r := by first | (rw [hy128]; with_reducible exact H) | (have H2_ := (Option.bind_some _ _).symm.trans H; rw [hy128]; with_reducible exact H2_) | (have H2_ := (Option.bind_some _ _).symm.trans H; with_reducible exact H2_) | with_reducible exact H | (rw [hy128]; exact H) | exact H
    have Ny128 := Aside0.mk hy128
    clear hy128
    replace H := Option.bind_eq_some_iff.mp H
    obtain ⟨t131, A90, H⟩ := H
    replace H : (some t131) = some r := H
    have A9 := Aside0.mk A90
    clear A90
    obtain rfl := Option.some.inj H
    go_enter Try.func8, Try.ntmps8
    go_wp2_with (first | ((with_reducible refine gate_callee (f := 16) rfl ?_); refine goesL_ (some 1) rfl rfl Try.func16 (by kernel_rfl) rfl #[.string (⟨#[195, 137, 99, 111, 108, 101, 32, 83, 116, 46, 32, 53]⟩ : ByteArray)] rfl (by (try simp only [List.map_toArray, List.map_cons, List.map_nil]); first | done | rfl | (simp only [List.length_drop, List.length_take]; rfl)) ?_; (with_reducible refine (words_Of.calls k (⟨#[195, 137, 99, 111, 108, 101, 32, 83, 116, 46, 32, 53]⟩ : ByteArray) t116 _ A1.out).mono ?_); rintro e w10 ⟨v117, rfl, ho0, hb⟩; refine ⟨_, rfl, ?_⟩; have n0_ := Aside0.mk (Kd.R_lower ho0 (below_size (by repeat (first | (with_reducible first | exact HB.out | apply below_alloc | apply pw_below_drewN | apply below_drew1) | exact HB.out)))); have n1_ := Aside0.mk (below_step (by repeat (first | (with_reducible first | exact HB.out | apply below_alloc | apply pw_below_drewN | apply below_drew1) | exact HB.out)) hb); clear HB; have HO118 := n0_; have HB := n1_; clear n0_ n1_; (try clear hb); (try clear hb2); (try clear hk); (try clear hi); (try clear ho0)) | ((with_reducible refine gate_dst (N := 2) rfl ?_); (try (refine gate_guard (by rfl) ?_; dsimp only)); refine Kd.R_lit Kd.string _ 9 ?hg (N := 2) ?hd (xs := ([(⟨#[101, 99, 111, 108, 101]⟩ : ByteArray), (⟨#[115, 116, 114, 101, 101, 116]⟩ : ByteArray), (⟨#[53]⟩ : ByteArray)] : List ByteArray)) (inner := [.string (⟨#[101, 99, 111, 108, 101]⟩ : ByteArray), .string (⟨#[115, 116, 114, 101, 101, 116]⟩ : ByteArray), .string (⟨#[53]⟩ : ByteArray)]) (ok := fun _ => True) (okp := fun _ => True) ?hr ?hp (fun _ hk => hk) trivial (Below.refl _ _) (Nat.le_refl _) (by simp) ?_; (case hd => rfl); (case hg => rfl); (case hr => first | (go_simp; done) | (go_simp; rfl)); (case hp => exact (Reps.one (show Kd.M Kd.string _ _ _ (⟨#[101, 99, 111, 108, 101]⟩ : ByteArray) [.string (⟨#[101, 99, 111, 108, 101]⟩ : ByteArray)] from rfl) (Reps.one (show Kd.M Kd.string _ _ _ (⟨#[115, 116, 114, 101, 101, 116]⟩ : ByteArray) [.string (⟨#[115, 116, 114, 101, 101, 116]⟩ : ByteArray)] from rfl) (Reps.one (show Kd.M Kd.string _ _ _ (⟨#[53]⟩ : ByteArray) [.string (⟨#[53]⟩ : ByteArray)] from rfl) (Reps.none _ _))))); intro v120 w11 ho12 hb hg_ hnew_; clear hg_ hnew_; (first | rw [← Ny119.out] at ho12 | (simp only [Int.reduceToNat] at ho12; rw [← Ny119.out] at ho12)); have n0_ := Aside0.mk (Kd.R_elder' (by (with_reducible repeat (first | apply Kd.R_alloc | apply Kd.R_drewN | apply Kd.R_drew)); exact HO118.out) (Kd.R_base ho12) hb); have n1_ := Aside0.mk (Kd.R_lower (Kd.R_new' ho12 (Kd.R_lt (by (with_reducible repeat (first | apply Kd.R_alloc | apply Kd.R_drewN | apply Kd.R_drew)); exact HO118.out))) (below_size (by repeat (first | (with_reducible first | exact HB.out | apply below_alloc | apply pw_below_drewN | apply below_drew1) | exact HB.out)))); have n2_ := Aside0.mk (below_step (by repeat (first | (with_reducible first | exact HB.out | apply below_alloc | apply pw_below_drewN | apply below_drew1) | exact HB.out)) hb); clear HO118 HB; have HO118 := n0_; have HO121 := n1_; have HB := n2_; clear n0_ n1_ n2_ hb ho12; obtain ⟨Ao13, co13, eo13⟩ := Kd.R_slice HO118.out; subst eo13; obtain ⟨Ao14, co14, eo14⟩ := Kd.R_slice HO121.out; subst eo14) | ((with_reducible refine gate_callee (f := 11) rfl ?_); refine goesL_ (some 3) rfl rfl Try.func11 (by kernel_rfl) rfl #[.slice Ao13 t116.length co13, .slice Ao14 y119.length co14] rfl (by (try simp only [List.map_toArray, List.map_cons, List.map_nil]); first | done | rfl | (simp only [List.length_drop, List.length_take]; rfl)) ?_; (with_reducible refine (mapmakerref51_Same.calls k _ _ t116 _ _ y119 true _ ?side1 ?side2 ?side3 ?side4 A2.out).mono ?_); (case side1 => repeat (first | exact (Kd.R_reads' HO118.out).2.2 | (with_reducible refine Kd.C_alloc ?_ _) | (with_reducible refine Kd.C_drewN ?_ _) | (with_reducible refine Kd.C_drew ?_))); (case side2 => exact (Kd.R_reads' HO118.out).2.1); (case side3 => repeat (first | exact (Kd.R_reads' HO121.out).2.2 | (with_reducible refine Kd.C_alloc ?_ _) | (with_reducible refine Kd.C_drewN ?_ _) | (with_reducible refine Kd.C_drew ?_))); (case side4 => exact (Kd.R_reads' HO121.out).2.1); rintro e w' ⟨rfl, ⟨nd, rfl⟩⟩; refine ⟨_, rfl, ?_⟩) | (go_at_call 9; (with_reducible refine (words_Fold.calls k (⟨#[83, 116, 114, 97, 195, 159, 101]⟩ : ByteArray) t123 _ A4.out).mono ?_); rintro e w15 ⟨rfl, hb⟩; have n0_ := Aside0.mk (Kd.R_below (by (with_reducible repeat (first | apply Kd.R_alloc | apply Kd.R_drewN | apply Kd.R_drew)); exact HO118.out) hb); have n1_ := Aside0.mk (Kd.R_below (by (with_reducible repeat (first | apply Kd.R_alloc | apply Kd.R_drewN | apply Kd.R_drew)); exact HO121.out) hb); have n2_ := Aside0.mk (below_step (by repeat (first | (with_reducible first | exact HB.out | apply below_alloc | apply pw_below_drewN | apply below_drew1) | exact HB.out)) hb); clear HO118 HO121 HB; have HO118 := n0_; have HO121 := n1_; have HB := n2_; clear n0_ n1_ n2_; (try clear hb); (try clear hb2); (try clear hk); (try clear hi)) | (go_at_call 14; (with_reducible refine (words_Expand.calls (⟨#[115, 116, 101]⟩ : ByteArray) t124 _ A6.out).mono ?_); rintro e w16 ⟨rfl, hb⟩; have n0_ := Aside0.mk (Kd.R_below (by (with_reducible repeat (first | apply Kd.R_alloc | apply Kd.R_drewN | apply Kd.R_drew)); exact HO118.out) hb); have n1_ := Aside0.mk (Kd.R_below (by (with_reducible repeat (first | apply Kd.R_alloc | apply Kd.R_drewN | apply Kd.R_drew)); exact HO121.out) hb); have n2_ := Aside0.mk (below_step (by repeat (first | (with_reducible first | exact HB.out | apply below_alloc | apply pw_below_drewN | apply below_drew1) | exact HB.out)) hb); clear HO118 HO121 HB; have HO118 := n0_; have HO121 := n1_; have HB := n2_; clear n0_ n1_ n2_; (try clear hb); (try clear hb2); (try clear hk); (try clear hi)) | (go_at_call 12; (with_reducible refine (words_Split.calls k (⟨#[97, 45, 98]⟩ : ByteArray) t125 _ A8.out).mono ?_); rintro e w17 ⟨v126, rfl, ho0, hb⟩; have n0_ := Aside0.mk (Kd.R_elder' (by (with_reducible repeat (first | apply Kd.R_alloc | apply Kd.R_drewN | apply Kd.R_drew)); exact HO118.out) (Kd.R_base ho0) hb); have n1_ := Aside0.mk (Kd.R_elder' (by (with_reducible repeat (first | apply Kd.R_alloc | apply Kd.R_drewN | apply Kd.R_drew)); exact HO121.out) (Kd.R_base ho0) hb); have n2_ := Aside0.mk (Kd.R_lower (Kd.R_new' (Kd.R_new' ho0 (Kd.R_lt (by (with_reducible repeat (first | apply Kd.R_alloc | apply Kd.R_drewN | apply Kd.R_drew)); exact HO118.out))) (Kd.R_lt (by (with_reducible repeat (first | apply Kd.R_alloc | apply Kd.R_drewN | apply Kd.R_drew)); exact HO121.out))) (below_size (by repeat (first | (with_reducible first | exact HB.out | apply below_alloc | apply pw_below_drewN | apply below_drew1) | exact HB.out)))); have n3_ := Aside0.mk (below_step (by repeat (first | (with_reducible first | exact HB.out | apply below_alloc | apply pw_below_drewN | apply below_drew1) | exact HB.out)) hb); clear HO118 HO121 HB; have HO118 := n0_; have HO121 := n1_; have HO127 := n2_; have HB := n3_; clear n0_ n1_ n2_ n3_; (try clear hb); (try clear hb2); (try clear hk); (try clear hi); (try clear ho0)) | ((with_reducible refine gate_dst (N := 14) rfl ?_); (try (refine gate_guard (by rfl) ?_; dsimp only)); refine Kd.R_lit Kd.string _ 9 ?hg (N := 14) ?hd (xs := ([(⟨#[97]⟩ : ByteArray), (⟨#[98]⟩ : ByteArray)] : List ByteArray)) (inner := [.string (⟨#[97]⟩ : ByteArray), .string (⟨#[98]⟩ : ByteArray)]) (ok := fun _ => True) (okp := fun _ => True) ?hr ?hp (fun _ hk => hk) trivial (Below.refl _ _) (Nat.le_refl _) (by simp) ?_; (case hd => rfl); (case hg => rfl); (case hr => first | (go_simp; done) | (go_simp; rfl)); (case hp => exact (Reps.one (show Kd.M Kd.string _ _ _ (⟨#[97]⟩ : ByteArray) [.string (⟨#[97]⟩ : ByteArray)] from rfl) (Reps.one (show Kd.M Kd.string _ _ _ (⟨#[98]⟩ : ByteArray) [.string (⟨#[98]⟩ : ByteArray)] from rfl) (Reps.none _ _)))); intro v129 w18 ho19 hb hg_ hnew_; clear hg_ hnew_; (first | rw [← Ny128.out] at ho19 | (simp only [Int.reduceToNat] at ho19; rw [← Ny128.out] at ho19)); have n0_ := Aside0.mk (Kd.R_elder' (by (with_reducible repeat (first | apply Kd.R_alloc | apply Kd.R_drewN | apply Kd.R_drew)); exact HO118.out) (Kd.R_base ho19) hb); have n1_ := Aside0.mk (Kd.R_elder' (by (with_reducible repeat (first | apply Kd.R_alloc | apply Kd.R_drewN | apply Kd.R_drew)); exact HO121.out) (Kd.R_base ho19) hb); have n2_ := Aside0.mk (Kd.R_elder' (by (with_reducible repeat (first | apply Kd.R_alloc | apply Kd.R_drewN | apply Kd.R_drew)); exact HO127.out) (Kd.R_base ho19) hb); have n3_ := Aside0.mk (Kd.R_lower (Kd.R_new' (Kd.R_new' (Kd.R_new' ho19 (Kd.R_lt (by (with_reducible repeat (first | apply Kd.R_alloc | apply Kd.R_drewN | apply Kd.R_drew)); exact HO118.out))) (Kd.R_lt (by (with_reducible repeat (first | apply Kd.R_alloc | apply Kd.R_drewN | apply Kd.R_drew)); exact HO121.out))) (Kd.R_lt (by (with_reducible repeat (first | apply Kd.R_alloc | apply Kd.R_drewN | apply Kd.R_drew)); exact HO127.out))) (below_size (by repeat (first | (with_reducible first | exact HB.out | apply below_alloc | apply pw_below_drewN | apply below_drew1) | exact HB.out)))); have n4_ := Aside0.mk (below_step (by repeat (first | (with_reducible first | exact HB.out | apply below_alloc | apply pw_below_drewN | apply below_drew1) | exact HB.out)) hb); clear HO118 HO121 HO127 HB; have HO118 := n0_; have HO121 := n1_; have HO127 := n2_; have HO130 := n3_; have HB := n4_; clear n0_ n1_ n2_ n3_ n4_ hb ho19; obtain ⟨Ao20, co20, eo20⟩ := Kd.R_slice HO127.out; subst eo20; obtain ⟨Ao21, co21, eo21⟩ := Kd.R_slice HO130.out; subst eo21) | (go_at_call 11; (with_reducible refine (mapmakerref51_Same.calls k _ _ t125 _ _ y128 t131 _ ?side1 ?side2 ?side3 ?side4 A9.out).mono ?_); (case side1 => repeat (first | exact (Kd.R_reads' HO127.out).2.2 | (with_reducible refine Kd.C_alloc ?_ _) | (with_reducible refine Kd.C_drewN ?_ _) | (with_reducible refine Kd.C_drew ?_))); (case side2 => exact (Kd.R_reads' HO127.out).2.1); (case side3 => repeat (first | exact (Kd.R_reads' HO130.out).2.2 | (with_reducible refine Kd.C_alloc ?_ _) | (with_reducible refine Kd.C_drewN ?_ _) | (with_reducible refine Kd.C_drew ?_))); (case side4 => exact (Kd.R_reads' HO130.out).2.1); rintro e w' ⟨rfl, ⟨nd, rfl⟩⟩))
    go_ret
    exact ⟨by first | rfl | (simp [errW_none, errW_some] <;> rfl) | (simp [*, errW_none, errW_some] <;> rfl), by repeat (first | (with_reducible first | exact HB.out | apply below_alloc | apply pw_below_drewN | apply below_drew1) | exact HB.out)⟩
   ·rw [if_neg c7] at H
    exact absurd H (by simp)
  ·rw [if_neg c5] at H
   exact absurd H (by simp)
 ·replace c3 := Bool.eq_false_iff.mpr c3
  subst c3
  have H1 : (none) = some r := by rw [if_neg (show ¬ (false = true) by decide)] at H; exact H
  clear H
  have H := H1
  clear H1
  exact absurd H (by simp)

end Go.Proofs.Ytfmanlgfinlekaa.PAll
