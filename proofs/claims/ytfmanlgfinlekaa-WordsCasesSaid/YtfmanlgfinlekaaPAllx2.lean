-- Written by a program of this session (wip/tools), over the words that print.sh lays. (slim)
import Derived.Test.YtfmanlgfinlekaaPAllx0
import Derived.Test.YtfmanlgfinlekaaPAllx1
namespace Go.Proofs.Ytfmanlgfinlekaa.PAll
open Go.RowKit Go.Proofs.YtfmanlgfinlekaaW.PrintWords Go.Proofs.YtfmanlgfinlekaaW.PrintLast Go.Proofs.YtfmanlgfinlekaaW.PrintMore
attribute [local go_sem] max2_int min2_int max_two min_two max_three min_three max_four min_four   -- for this text's walks alone
set_option linter.unusedVariables false
set_option linter.unusedSimpArgs false
attribute [local irreducible] Calls

/-! ### words_Fold: function 9 -/
/-- The rune at a place, its width. -/
def words_rn (s : ByteArray) (i : Int) : Int := ((Utf8.decode s i.toNat).1 : Int)
def words_wd (s : ByteArray) (i : Int) : Int := ((Utf8.decode s i.toNat).2 : Int)
/-- The iterator moved on. -/
def words_it (W : World) (g : Nat) (s : ByteArray) (p : Nat) : World := { W with heap := W.heap.setIfInBounds g (.stringIter s p) }
theorem words_next (P : Program) (W : World) (g : Nat) (s : ByteArray) (i : Int) (ty : TypeId) (hg : W.heap[g]? = some (.stringIter s i.toNat)) (h0 : 0 ≤ i) (h : i < (s.size : Int)) :
  (Instr.next (.pointer (some ⟨g, 0, none⟩)) true ty).run P W = .ok (.tuple #[.bool true, .int .i64 i, .int .i32 (words_rn s i)]) (words_it W g s (i + words_wd s i).toNat) := by
 have h1 : i.toNat < s.size := by omega
 have e1 : ((i.toNat : Nat) : Int) = i := by omega
 have e2 : (i + words_wd s i).toNat = i.toNat + (Utf8.decode s i.toNat).2 := by unfold words_wd; omega
 have hgl : g < W.heap.size := (Array.getElem?_eq_some_iff.1 hg).1
 simp only [Instr.next, getObj, setObj, Sem.run_bind, Sem.run, hg, Result.andThen, h1, if_true]
 simp [goInt, Sem.run, hg, words_it, words_rn, e1, e2]
theorem words_over (P : Program) (W : World) (g : Nat) (s : ByteArray) (i : Int) (ty : TypeId) (hg : W.heap[g]? = some (.stringIter s i.toNat)) (h : ¬ i < (s.size : Int)) :
  (Instr.next (.pointer (some ⟨g, 0, none⟩)) true ty).run P W = .ok (.tuple #[.bool false]) W := by
 have h1 : ¬ i.toNat < s.size := by omega
 simp [Instr.next, getObj, Sem.run, hg, h1]
theorem words_it_heap {W : World} {g : Nat} {s : ByteArray} {p q : Nat} (hg : W.heap[g]? = some (.stringIter s q)) : (words_it W g s p).heap[g]? = some (.stringIter s p) := by
 have hgl : g < W.heap.size := (Array.getElem?_eq_some_iff.1 hg).1
 simp [words_it, hgl]
theorem words_it_below {w W : World} {g : Nat} {s : ByteArray} {p : Nat} (h : Below w.heap.size w W) (hg : w.heap.size ≤ g) : Below w.heap.size w (words_it W g s p) :=
 h.trans ⟨rfl, rfl, rfl, by simp [words_it], fun k hk => by
  have : g ≠ k := by omega
  simp [words_it, this]⟩
theorem words_it_R {W : World} {g base : Nat} {s : ByteArray} {p q : Nat} {v : Value} {xs : List Int} (hg : W.heap[g]? = some (.stringIter s q)) (h : Kd.R (Kd.int .u8) 5 W base (fun _ => True) v xs) : Kd.R (Kd.int .u8) 5 (words_it W g s p) base (fun _ => True) v xs := by
 have ho := Kd.own_of_R h
 have h2 : Kd.R (Kd.int .u8) 5 W base (fun k => k ≠ g) v xs := Kd.R_of_own (h1 := fun _ => rfl) ho (fun k hk => by
  rcases ho.2 with ⟨rfl, _⟩ | ⟨g', cap, cur, rfl, hb, hh, _⟩
  ·simp [Value.ownBlock] at hk
  ·intro e
   simp [Value.ownBlock] at hk
   rw [hk, e, hg] at hh
   simp at hh)
 exact Kd.R_mono (Kd.R_step h2 (fun k hk _ => by
  have : g ≠ k := fun e => hk e.symm
  simp [words_it, this])) (fun _ _ => trivial)
theorem words_ne {W : World} {g base : Nat} {s : ByteArray} {q : Nat} {ok : Nat → Prop} {v : Value} {xs : List Int} (hg : W.heap[g]? = some (.stringIter s q)) (h : Kd.R (Kd.int .u8) 5 W base ok v xs) : some g ≠ v.ownBlock := by
 intro e
 rcases (Kd.own_of_R h).2 with ⟨rfl, _⟩ | ⟨g', cap, cur, rfl, hb, hh, _⟩
 ·simp [Value.ownBlock] at e
 ·simp [Value.ownBlock] at e
  rw [← e, hg] at hh
  simp at hh
mutual
def words_Fold.l0 : Nat → ByteArray → List Int → Int → ByteArray → Int → Option (ByteArray)
 | 0, _, _, _, _, _ => none
 | k + 1, x0, x3, x4, x9, x10 => if x10 < (x9.size : Int) then (if 0 ≤ x10 then (if (words_rn x9 x10) ≥ 65 then (words_Fold.j1 k x0 x3 x4 x10 (words_rn x9 x10) (⟨#[]⟩ : ByteArray) 0 x9 (x10 + words_wd x9 x10) (decide ((words_rn x9 x10) ≤ 90))) else (words_Fold.j1 k x0 x3 x4 x10 (words_rn x9 x10) (⟨#[]⟩ : ByteArray) 0 x9 (x10 + words_wd x9 x10) false)) else (none)) else (if 0 ≤ x4 then (if x4 ≤ (x0.size : Int) then (if x3.length + (x0.extract (x4 : Int).toNat x0.size).size < 140737488355328 then (some (strOfNums (x3 ++ bytesOf (x0.extract (x4 : Int).toNat x0.size)))) else (none)) else (none)) else (none))
def words_Fold.j1 : Nat → ByteArray → List Int → Int → Int → Int → ByteArray → Int → ByteArray → Int → Bool → Option (ByteArray)
 | 0, _, _, _, _, _, _, _, _, _, _ => none
 | k + 1, x0, x3, x4, x5, x6, x7, x8, x9, x10, x15 => if x15 = true then ((some (strOfNums [((((((x6) % 256) + 97) % 256) - 65) % 256)])).bind fun t104 => (if t104.toList = ([] : List UInt8) then (words_Fold.l0 k x0 x3 x4 x9 x10) else (if 0 ≤ x4 then (if x4 ≤ x5 then (if x5 ≤ (x0.size : Int) then (if x3.length + (x0.extract (x4 : Int).toNat (x5 : Int).toNat).size < 140737488355328 then ((some (x3 ++ bytesOf (x0.extract (x4 : Int).toNat (x5 : Int).toNat) : List Int)).bind fun y105 => (if y105.length + t104.size < 140737488355328 then (words_Fold.l0 k x0 (y105 ++ bytesOf t104) (wrap64 (x5 + 1)) x9 x10) else (none))) else (none)) else (none)) else (none)) else (none)))) else (if x6 ≥ 192 then (words_Fold.j2 k x0 x3 x4 x5 x6 x7 x8 x9 x10 (decide (x6 ≤ 255))) else (words_Fold.j2 k x0 x3 x4 x5 x6 x7 x8 x9 x10 false))
def words_Fold.j2 : Nat → ByteArray → List Int → Int → Int → Int → ByteArray → Int → ByteArray → Int → Bool → Option (ByteArray)
 | 0, _, _, _, _, _, _, _, _, _, _ => none
 | k + 1, x0, x3, x4, x5, x6, x7, x8, x9, x10, x28 => if x28 = true then ((words_plain.f k (wrap64 ((wrap64 (x6)) - 192))).bind fun t111 => (if t111.toList = ([] : List UInt8) then (words_Fold.l0 k x0 x3 x4 x9 x10) else (if 0 ≤ x4 then (if x4 ≤ x5 then (if x5 ≤ (x0.size : Int) then (if x3.length + (x0.extract (x4 : Int).toNat (x5 : Int).toNat).size < 140737488355328 then ((some (x3 ++ bytesOf (x0.extract (x4 : Int).toNat (x5 : Int).toNat) : List Int)).bind fun y112 => (if y112.length + t111.size < 140737488355328 then (words_Fold.l0 k x0 (y112 ++ bytesOf t111) (wrap64 (x5 + 2)) x9 x10) else (none))) else (none)) else (none)) else (none)) else (none)))) else (if x7.toList = ([] : List UInt8) then (words_Fold.l0 k x0 x3 x4 x9 x10) else (if 0 ≤ x4 then (if x4 ≤ x5 then (if x5 ≤ (x0.size : Int) then (if x3.length + (x0.extract (x4 : Int).toNat (x5 : Int).toNat).size < 140737488355328 then ((some (x3 ++ bytesOf (x0.extract (x4 : Int).toNat (x5 : Int).toNat) : List Int)).bind fun y118 => (if y118.length + x7.size < 140737488355328 then (words_Fold.l0 k x0 (y118 ++ bytesOf x7) (wrap64 (x5 + x8)) x9 x10) else (none))) else (none)) else (none)) else (none)) else (none)))
end
def words_Fold.f (k : Nat) (a0 : ByteArray) : Option (ByteArray) := words_Fold.l0 k a0 ([] : List Int) 0 a0 0
theorem words_Fold.mono_l : ∀ k, (∀ y0 y1 y2 y3 y4, LeO (words_Fold.l0 k y0 y1 y2 y3 y4) (words_Fold.l0 (k + 1) y0 y1 y2 y3 y4)) ∧ (∀ y0 y1 y2 y3 y4 y5 y6 y7 y8 y9, LeO (words_Fold.j1 k y0 y1 y2 y3 y4 y5 y6 y7 y8 y9) (words_Fold.j1 (k + 1) y0 y1 y2 y3 y4 y5 y6 y7 y8 y9)) ∧ (∀ y0 y1 y2 y3 y4 y5 y6 y7 y8 y9, LeO (words_Fold.j2 k y0 y1 y2 y3 y4 y5 y6 y7 y8 y9) (words_Fold.j2 (k + 1) y0 y1 y2 y3 y4 y5 y6 y7 y8 y9))
 | 0 => ⟨fun _ _ _ _ _ r h => by simp [words_Fold.l0] at h, fun _ _ _ _ _ _ _ _ _ _ r h => by simp [words_Fold.j1] at h, fun _ _ _ _ _ _ _ _ _ _ r h => by simp [words_Fold.j2] at h⟩
 | k + 1 => by
  obtain ⟨ih0, ih1, ih2⟩ := words_Fold.mono_l k
  refine ⟨?_, ?_, ?_⟩
  ·intro y0 y1 y2 y3 y4
   unfold words_Fold.l0
   repeat' first
   | (with_reducible exact ih0 _ _ _ _ _)
   | (with_reducible exact ih1 _ _ _ _ _ _ _ _ _ _)
   | (with_reducible exact ih2 _ _ _ _ _ _ _ _ _ _)
   | (with_reducible exact words_plain.mono _ _)
   | (with_reducible exact LeO.refl _)
   | (with_reducible exact LeO.none _)
   | (with_reducible refine LeO.ite ?_ ?_)
   | (with_reducible refine LeO.bind ?_ (fun _ => ?_))
   | exact ih0 _ _ _ _ _
   | exact ih1 _ _ _ _ _ _ _ _ _ _
   | exact ih2 _ _ _ _ _ _ _ _ _ _
   | exact words_plain.mono _ _
   | exact LeO.none _
   | refine LeO.ite ?_ ?_
   | refine LeO.bind ?_ (fun _ => ?_)
  ·intro y0 y1 y2 y3 y4 y5 y6 y7 y8 y9
   unfold words_Fold.j1
   repeat' first
   | (with_reducible exact ih0 _ _ _ _ _)
   | (with_reducible exact ih1 _ _ _ _ _ _ _ _ _ _)
   | (with_reducible exact ih2 _ _ _ _ _ _ _ _ _ _)
   | (with_reducible exact words_plain.mono _ _)
   | (with_reducible exact LeO.refl _)
   | (with_reducible exact LeO.none _)
   | (with_reducible refine LeO.ite ?_ ?_)
   | (with_reducible refine LeO.bind ?_ (fun _ => ?_))
   | exact ih0 _ _ _ _ _
   | exact ih1 _ _ _ _ _ _ _ _ _ _
   | exact ih2 _ _ _ _ _ _ _ _ _ _
   | exact words_plain.mono _ _
   | exact LeO.none _
   | refine LeO.ite ?_ ?_
   | refine LeO.bind ?_ (fun _ => ?_)
  ·intro y0 y1 y2 y3 y4 y5 y6 y7 y8 y9
   unfold words_Fold.j2
   repeat' first
   | (with_reducible exact ih0 _ _ _ _ _)
   | (with_reducible exact ih1 _ _ _ _ _ _ _ _ _ _)
   | (with_reducible exact ih2 _ _ _ _ _ _ _ _ _ _)
   | (with_reducible exact words_plain.mono _ _)
   | (with_reducible exact LeO.refl _)
   | (with_reducible exact LeO.none _)
   | (with_reducible refine LeO.ite ?_ ?_)
   | (with_reducible refine LeO.bind ?_ (fun _ => ?_))
   | exact ih0 _ _ _ _ _
   | exact ih1 _ _ _ _ _ _ _ _ _ _
   | exact ih2 _ _ _ _ _ _ _ _ _ _
   | exact words_plain.mono _ _
   | exact LeO.none _
   | refine LeO.ite ?_ ?_
   | refine LeO.bind ?_ (fun _ => ?_)
theorem words_Fold.mono : ∀ a0 k, LeO (words_Fold.f k a0) (words_Fold.f (k + 1) a0) := by
 intro a0 k
 obtain ⟨ih0, ih1, ih2⟩ := words_Fold.mono_l k
 unfold words_Fold.f
 repeat' first
   | (with_reducible exact ih0 _ _ _ _ _)
   | (with_reducible exact ih1 _ _ _ _ _ _ _ _ _ _)
   | (with_reducible exact ih2 _ _ _ _ _ _ _ _ _ _)
   | (with_reducible exact words_plain.mono _ _)
   | (with_reducible exact LeO.refl _)
   | (with_reducible exact LeO.none _)
   | (with_reducible refine LeO.ite ?_ ?_)
   | (with_reducible refine LeO.bind ?_ (fun _ => ?_))
   | exact ih0 _ _ _ _ _
   | exact ih1 _ _ _ _ _ _ _ _ _ _
   | exact ih2 _ _ _ _ _ _ _ _ _ _
   | exact words_plain.mono _ _
   | exact LeO.none _
   | refine LeO.ite ?_ ?_
   | refine LeO.bind ?_ (fun _ => ?_)
set_option maxHeartbeats 8000000 in
set_option maxRecDepth 100000 in
theorem words_Fold.calls (k : Nat) (a0 : ByteArray) (r : ByteArray) (w : World) (h : words_Fold.f k a0 = some r) :
  Calls Try.prog 9 #[.string a0] w fun e w' => e = .returned (.string r) ∧ Below w.heap.size w w' := by
 have HB := Aside0.mk (Below.refl w.heap.size w)
 have H : (words_Fold.l0 k a0 ([] : List Int) 0 a0 0) = some r := h
 clear h
 have H' := Aside0.mk H
 clear H
 have hu9 := Try.underlying9
 have hrg : ∀ W : World, (Instr.range 9 (.string a0)).run Try.prog W = .ok (.pointer (some ⟨W.heap.size, 0, none⟩)) (W.iter a0 0) := fun W => run_range_string W 9 a0 hu9
 go_enter Try.func9, Try.ntmps9
 go_wp2
 go_loopg [3, 4] k (fun kq v3 v4 w' => ∃ (x3_1 : List Int) (x4_1 : Int) (x10_1 : Int), v4 = .int .i64 x4_1 ∧ Aside0 (words_Fold.l0 kq a0 x3_1 x4_1 a0 x10_1 = some r) ∧ Aside0 (kq ≤ k) ∧ Aside0 (Kd.R (Kd.int .u8) 5 w' w.heap.size (fun _ => True) v3 x3_1) ∧ Aside0 (Below w.heap.size w w') ∧ Aside0 (w'.heap[w.heap.size]? = some (.stringIter a0 x10_1.toNat)))
 case atStart => exact ⟨(([] : List Int)), (0), (0), (by first | rfl | (simp; done) | (simp [*]; done)), H', ⟨Nat.le_refl _⟩, ⟨by first | exact Kd.R_nil _ _ _ _ _ | exact Kd.N_nil _ _ _ _ _ | exact Kd.V_nil _ _ _ _ _ | exact Kd.Q_nil _ _ _ _ _ | exact Kd.S_nil _ _ _ _ _⟩, ⟨Below.alloc HB.out (Nat.le_refl _) _⟩, ⟨World.iter_heap w a0 0⟩⟩
 case round =>
  clear H'
  obtain ⟨x3_1, x4_1, x10_1, rfl, HA, HK1, HO_3, HB, BKI⟩ := hrel
  cases gk with
  | zero => exact absurd HA.out (by simp [words_Fold.l0])
  | succ kr1 =>
   have H := HA.out
   clear HA
   simp only [words_Fold.l0] at H
   by_cases c2 : x10_1 < (a0.size : Int)
   ·rw [if_pos c2] at H
    have c2b0 : decide (x10_1 < (a0.size : Int)) = true := decide_eq_true c2
    clear c2
    by_cases c3 : 0 ≤ x10_1
    ·rw [if_pos c3] at H
     have c3b0 : decide (0 ≤ x10_1) = true := decide_eq_true c3
     clear c3
     have HC5 := Aside0.mk H
     clear H
     have p4 : 0 ≤ (x10_1 : Int) := of_decide_eq_true (by first | (with_reducible assumption) | assumption)
     have q4 : x10_1 < (a0.size : Int) := of_decide_eq_true (by first | (with_reducible assumption) | assumption)
     have hx4 := bt_at a0 x10_1
     replace p4 := eq_true p4
     replace q4 := eq_true q4
     have hnx := fun ty => words_next Try.prog wr w.heap.size a0 x10_1 ty BKI.out (of_decide_eq_true c3b0) (of_decide_eq_true c2b0)
     go_upto_region 7 with (fail)
     have N1 := Aside0.mk (words_it_R (p := (x10_1 + words_wd a0 x10_1).toNat) BKI.out HO_3.out)
     have N2 := Aside0.mk (words_it_below (s := a0) (p := (x10_1 + words_wd a0 x10_1).toNat) HB.out (Nat.le_refl w.heap.size))
     have N3 := Aside0.mk (words_it_heap (p := (x10_1 + words_wd a0 x10_1).toNat) BKI.out)
     clear HO_3 HB BKI hnx
     generalize words_it wr w.heap.size a0 (x10_1 + words_wd a0 x10_1).toNat = wx at N1 N2 N3 ⊢
     have HO_3 := N1
     have HB := N2
     have BKI := N3
     clear N1 N2 N3
     go_cut [15] (fun v15 wc => ∃ (kq : Nat) (x15_4 : Bool), v15 = .bool x15_4 ∧ Aside0 (words_Fold.j1 kq a0 x3_1 x4_1 x10_1 (words_rn a0 x10_1) (⟨#[]⟩ : ByteArray) 0 a0 (x10_1 + words_wd a0 x10_1) x15_4 = some r) ∧ Aside0 (kq ≤ kr1) ∧ Aside0 (Kd.R (Kd.int .u8) 5 wc w.heap.size (fun _ => True) u3 x3_1) ∧ Aside0 (Below w.heap.size w wc) ∧ Aside0 (wc.heap[w.heap.size]? = some (.stringIter a0 (x10_1 + words_wd a0 x10_1).toNat)))
     case first =>
      have H := HC5.out
      clear HC5
      by_cases c6 : (words_rn a0 x10_1) ≥ 65
      ·rw [if_pos c6] at H
       have c6b0 : decide (65 ≤ (words_rn a0 x10_1)) = true := decide_eq_true c6
       clear c6
       (first | rw [c6b0] | (simp only [i64_w, i32_w]; rw [c6b0]) | skip)
       have H' := Aside0.mk H
       clear H
       go_wp2
       go_meet
       case rel => exact ⟨_, (decide ((words_rn a0 x10_1) ≤ 90)), (by first | rfl | (simp; done) | (simp [*]; done)), H', ⟨by have := HK1.out; first | omega | exact Nat.le_refl _⟩, ⟨by (with_reducible repeat (first | apply Kd.R_alloc | apply Kd.R_drewN | apply Kd.R_drew)); exact HO_3.out⟩, ⟨by repeat (first | (with_reducible first | exact HB.out | apply below_alloc | apply pw_below_drewN | apply below_drew1) | exact HB.out)⟩, ⟨by (with_reducible repeat first | apply blk_drewN | apply blk_drew | apply blk_alloc); exact BKI.out⟩⟩
      ·rw [if_neg c6] at H
       have c6b0 : decide (65 ≤ (words_rn a0 x10_1)) = false := decide_eq_false c6
       clear c6
       (first | rw [c6b0] | (simp only [i64_w, i32_w]; rw [c6b0]) | skip)
       have H' := Aside0.mk H
       clear H
       go_wp2
       go_meet
       case rel => exact ⟨_, (false), (by first | rfl | (simp; done) | (simp [*]; done)), H', ⟨by have := HK1.out; first | omega | exact Nat.le_refl _⟩, ⟨by (with_reducible repeat (first | apply Kd.R_alloc | apply Kd.R_drewN | apply Kd.R_drew)); exact HO_3.out⟩, ⟨by repeat (first | (with_reducible first | exact HB.out | apply below_alloc | apply pw_below_drewN | apply below_drew1) | exact HB.out)⟩, ⟨by (with_reducible repeat first | apply blk_drewN | apply blk_drew | apply blk_alloc); exact BKI.out⟩⟩
     case rest =>
      clear HC5
      try clear c2
      try clear c2b0
      try clear p2
      try clear c3
      try clear c3b0
      try clear p3
      try clear p4
      try clear q4
      try clear hx4
      try clear c6
      try clear c6b0
      try clear p6
      try clear p4
      try clear q4
      obtain ⟨kq, x15_4, rfl, HA, HJ4, HO_3, HB, BKI⟩ := hcut
      cases kq with
      | zero => exact absurd HA.out (by simp [words_Fold.j1])
      | succ kj4 =>
       have H := HA.out
       clear HA
       simp only [words_Fold.j1] at H
       by_cases c7 : x15_4 = true
       ·subst c7
        have H1 : ((some (strOfNums [(((((((words_rn a0 x10_1)) % 256) + 97) % 256) - 65) % 256)])).bind fun t104 => (if t104.toList = ([] : List UInt8) then (words_Fold.l0 kj4 a0 x3_1 x4_1 a0 (x10_1 + words_wd a0 x10_1)) else (if 0 ≤ x4_1 then (if x4_1 ≤ x10_1 then (if x10_1 ≤ (a0.size : Int) then (if x3_1.length + (a0.extract (x4_1 : Int).toNat (x10_1 : Int).toNat).size < 140737488355328 then ((some (x3_1 ++ bytesOf (a0.extract (x4_1 : Int).toNat (x10_1 : Int).toNat) : List Int)).bind fun y105 => (if y105.length + t104.size < 140737488355328 then (words_Fold.l0 kj4 a0 (y105 ++ bytesOf t104) (wrap64 (x10_1 + 1)) a0 (x10_1 + words_wd a0 x10_1)) else (none))) else (none)) else (none)) else (none)) else (none)))) = some r := by rw [if_pos rfl] at H; exact H
        clear H
        have H := H1
        clear H1
        replace H := Option.bind_eq_some_iff.mp H
        obtain ⟨t104, A80, H⟩ := H
        replace H : (if t104.toList = ([] : List UInt8) then (words_Fold.l0 kj4 a0 x3_1 x4_1 a0 (x10_1 + words_wd a0 x10_1)) else (if 0 ≤ x4_1 then (if x4_1 ≤ x10_1 then (if x10_1 ≤ (a0.size : Int) then (if x3_1.length + (a0.extract (x4_1 : Int).toNat (x10_1 : Int).toNat).size < 140737488355328 then ((some (x3_1 ++ bytesOf (a0.extract (x4_1 : Int).toNat (x10_1 : Int).toNat) : List Int)).bind fun y105 => (if y105.length + t104.size < 140737488355328 then (words_Fold.l0 kj4 a0 (y105 ++ bytesOf t104) (wrap64 (x10_1 + 1)) a0 (x10_1 + words_wd a0 x10_1)) else (none))) else (none)) else (none)) else (none)) else (none))) = some r := H
        have A8 := Aside0.mk A80
        clear A80
        by_cases c9 : t104.toList = ([] : List UInt8)
        ·rw [if_pos c9] at H
         have c9b0 : (t104.toList == ([] : List UInt8)) = true := beq_iff_eq.mpr c9
         have c9b1 : (t104.toList != ([] : List UInt8)) = false := bne_eq_false_iff_eq.mpr c9
         clear c9
         have H' := Aside0.mk H
         clear H
         go_wp2_with (first | ((with_reducible refine gate_dst (N := 26) rfl ?_); (try (refine gate_guard (by rfl) ?_; dsimp only)); refine Kd.R_lit (Kd.int .u8) _ 5 ?hg (N := 26) ?hd (xs := ([(((((((words_rn a0 x10_1)) % 256) + 97) % 256) - 65) % 256)] : List Int)) (inner := [.int .u8 ((((((((words_rn a0 x10_1)) % 256) + 97) % 256) - 65) % 256))]) (ok := fun _ => True) (okp := fun _ => True) ?hr ?hp (fun _ hk => hk) trivial (Below.refl _ _) (Nat.le_refl _) (by simp) ?_; (case hd => rfl); (case hg => rfl); (case hr => first | (go_simp; done) | (go_simp; rfl)); (case hp => exact (Reps.one (show Kd.M (Kd.int .u8) _ _ _ ((((((((words_rn a0 x10_1)) % 256) + 97) % 256) - 65) % 256)) [.int .u8 ((((((((words_rn a0 x10_1)) % 256) + 97) % 256) - 65) % 256))] from rfl) (Reps.none _ _))); intro vL wL hoL hb hg_ hnew_; have hcvL := own_string (P := Try.prog) Try.underlying29 Try.underlying5 Try.underlying9 (Kd.own_of_R hoL); rw [Option.some.inj A8.out] at hcvL; have n0_ := Aside0.mk (Kd.R_below HO_3.out hb); have n1_ := Aside0.mk (below_step HB.out hb); have n2_ := Aside0.mk (blk_below BKI.out hb); clear HO_3 HB BKI; have HO_3 := n0_; have HB := n1_; have BKI := n2_; clear n0_ n1_ n2_ hoL hb hg_ hnew_))
         go_roundg kj4
         case measure => have := HK1.out; have := HJ4.out; omega
         case rel => exact ⟨(x3_1), (x4_1), ((x10_1 + words_wd a0 x10_1)), (by first | rfl | (simp; done) | (simp [*]; done)), H', ⟨by have := HK1.out; have := HJ4.out; omega⟩, ⟨by (with_reducible repeat (first | apply Kd.R_alloc | apply Kd.R_drewN | apply Kd.R_drew)); exact HO_3.out⟩, ⟨by repeat (first | (with_reducible first | exact HB.out | apply below_alloc | apply pw_below_drewN | apply below_drew1) | exact HB.out)⟩, ⟨by (with_reducible repeat first | apply blk_drewN | apply blk_drew | apply blk_alloc); exact BKI.out⟩⟩
        ·rw [if_neg c9] at H
         have c9b0 : (t104.toList == ([] : List UInt8)) = false := beq_eq_false_iff_ne.mpr c9
         have c9b1 : (t104.toList != ([] : List UInt8)) = true := bne_iff_ne.mpr c9
         by_cases c10 : 0 ≤ x4_1
         ·rw [if_pos c10] at H
          have c10b0 := eq_true c10
          have c10b1 : decide (0 ≤ x4_1) = true := decide_eq_true c10
          clear c10
          by_cases c11 : x4_1 ≤ x10_1
          ·rw [if_pos c11] at H
           have c11b0 := eq_true c11
           have c11b1 : decide (x4_1 ≤ x10_1) = true := decide_eq_true c11
           clear c11
           by_cases c12 : x10_1 ≤ (a0.size : Int)
           ·rw [if_pos c12] at H
            have c12b0 := eq_true c12
            have c12b1 : decide (x10_1 ≤ (a0.size : Int)) = true := decide_eq_true c12
            clear c12
            by_cases c13 : x3_1.length + (a0.extract (x4_1 : Int).toNat (x10_1 : Int).toNat).size < 140737488355328
            ·rw [if_pos c13] at H
             have LMc13 := Aside0.mk c13
             clear c13
             obtain ⟨y105, hy105⟩ : ∃ y_ : List Int, y_ = (x3_1 ++ bytesOf (a0.extract (x4_1 : Int).toNat (x10_1 : Int).toNat)) := ⟨_, rfl⟩
             replace H : (if y105.length + t104.size < 140737488355328 then (words_Fold.l0 kj4 a0 (y105 ++ bytesOf t104) (wrap64 (x10_1 + 1)) a0 (x10_1 + words_wd a0 x10_1)) else (none)) = some r := by first | (rw [hy105]; with_reducible exact H) | (have H2_ := (Option.bind_some _ _).symm.trans H; rw [hy105]; with_reducible exact H2_) | (have H2_ := (Option.bind_some _ _).symm.trans H; with_reducible exact H2_) | with_reducible exact H | (rw [hy105]; exact H) | exact H
             have Ny105 := Aside0.mk hy105
             clear hy105
             by_cases c14 : y105.length + t104.size < 140737488355328
             ·rw [if_pos c14] at H
              have LMc14 := Aside0.mk c14
              clear c14
              obtain ⟨y108, hy108⟩ : ∃ y_ : List Int, y_ = (y105 ++ bytesOf t104) := ⟨_, rfl⟩
              replace H : (words_Fold.l0 kj4 a0 y108 (wrap64 (x10_1 + 1)) a0 (x10_1 + words_wd a0 x10_1)) = some r := by first | (rw [hy108]; with_reducible exact H) | (have H2_ := (Option.bind_some _ _).symm.trans H; rw [hy108]; with_reducible exact H2_) | (have H2_ := (Option.bind_some _ _).symm.trans H; with_reducible exact H2_) | with_reducible exact H | (rw [hy108]; exact H) | exact H
              have Ny108 := Aside0.mk hy108
              clear hy108
              have H' := Aside0.mk H
              clear H
              go_wp2_with (first | ((with_reducible refine gate_dst (N := 26) rfl ?_); (try (refine gate_guard (by rfl) ?_; dsimp only)); refine Kd.R_lit (Kd.int .u8) _ 5 ?hg (N := 26) ?hd (xs := ([(((((((words_rn a0 x10_1)) % 256) + 97) % 256) - 65) % 256)] : List Int)) (inner := [.int .u8 ((((((((words_rn a0 x10_1)) % 256) + 97) % 256) - 65) % 256))]) (ok := fun _ => True) (okp := fun _ => True) ?hr ?hp (fun _ hk => hk) trivial (Below.refl _ _) (Nat.le_refl _) (by simp) ?_; (case hd => rfl); (case hg => rfl); (case hr => first | (go_simp; done) | (go_simp; rfl)); (case hp => exact (Reps.one (show Kd.M (Kd.int .u8) _ _ _ ((((((((words_rn a0 x10_1)) % 256) + 97) % 256) - 65) % 256)) [.int .u8 ((((((((words_rn a0 x10_1)) % 256) + 97) % 256) - 65) % 256))] from rfl) (Reps.none _ _))); intro vL wL hoL hb hg_ hnew_; have hcvL := own_string (P := Try.prog) Try.underlying29 Try.underlying5 Try.underlying9 (Kd.own_of_R hoL); rw [Option.some.inj A8.out] at hcvL; have n0_ := Aside0.mk (Kd.R_below HO_3.out hb); have n1_ := Aside0.mk (below_step HB.out hb); have n2_ := Aside0.mk (blk_below BKI.out hb); clear HO_3 HB BKI; have HO_3 := n0_; have HB := n1_; have BKI := n2_; clear n0_ n1_ n2_ hoL hb hg_ hnew_) | (at_builtin; refine print_append_str (w0 := w) w.heap.size rfl (.tmp 41) _ 29 9 5 rfl Try.underlying29 Try.underlying9 info5 u3 x3_1 (a0.extract (x4_1 : Int).toNat (x10_1 : Int).toNat) rfl rfl ?aO ?aB ?aS ?aL ?_; (case aB => exact (by repeat (first | (with_reducible first | exact HB.out | apply below_alloc | apply pw_below_drewN | apply below_drew1) | exact HB.out))); (case aO => exact (Kd.own_of_R (by (with_reducible repeat (first | apply Kd.R_alloc | apply Kd.R_drewN | apply Kd.R_drew)); exact HO_3.out))); (case aS => exact (below_size (by repeat (first | (with_reducible first | exact HB.out | apply below_alloc | apply pw_below_drewN | apply below_drew1) | exact HB.out)))); (case aL => have := LMc13.out; omega); intro v106 w15 ho0 hb hg; have nB_ := Aside0.mk (blk_grown (by (with_reducible repeat first | apply blk_drewN | apply blk_drew | apply blk_alloc); exact BKI.out) hg (words_ne BKI.out HO_3.out)); clear BKI; have BKI := nB_; clear nB_; have ho := Kd.R_of_own (h1 := fun _ => rfl) (ok := fun _ => True) ho0 (fun _ _ => trivial); clear ho0; have hat := True.intro; rw [← Ny105.out] at ho; change Kd.R (Kd.int .u8) 5 w15 w.heap.size (fun _ => True) v106 y105 at ho; have n0_ := Aside0.mk (hb); have n1_ := Aside0.mk (ho); clear HB HO_3; have HB := n0_; have HO107 := n1_; clear n0_ n1_ ho hb hg hat) | (at_builtin; refine print_append_str (w0 := w) w.heap.size rfl (.tmp 47) _ 29 9 5 rfl Try.underlying29 Try.underlying9 info5 v106 y105 t104 rfl rfl ?aO ?aB ?aS ?aL ?_; (case aB => exact (by repeat (first | (with_reducible first | exact HB.out | apply below_alloc | apply pw_below_drewN | apply below_drew1) | exact HB.out))); (case aO => exact (Kd.own_of_R (by (with_reducible repeat (first | apply Kd.R_alloc | apply Kd.R_drewN | apply Kd.R_drew)); exact HO107.out))); (case aS => exact (below_size (by repeat (first | (with_reducible first | exact HB.out | apply below_alloc | apply pw_below_drewN | apply below_drew1) | exact HB.out)))); (case aL => have := LMc14.out; omega); intro v109 w16 ho0 hb hg; have nB_ := Aside0.mk (blk_grown (by (with_reducible repeat first | apply blk_drewN | apply blk_drew | apply blk_alloc); exact BKI.out) hg (words_ne BKI.out HO107.out)); clear BKI; have BKI := nB_; clear nB_; have ho := Kd.R_of_own (h1 := fun _ => rfl) (ok := fun _ => True) ho0 (fun _ _ => trivial); clear ho0; have hat := True.intro; rw [← Ny108.out] at ho; change Kd.R (Kd.int .u8) 5 w16 w.heap.size (fun _ => True) v109 y108 at ho; have n0_ := Aside0.mk (hb); have n1_ := Aside0.mk (ho); clear HB HO107; have HB := n0_; have HO110 := n1_; clear n0_ n1_ ho hb hg hat))
              go_roundg kj4
              case measure => have := HK1.out; have := HJ4.out; omega
              case rel => exact ⟨(y108), (wrap64 (x10_1 + 1)), ((x10_1 + words_wd a0 x10_1)), (by first | rfl | (simp; done) | (simp [*]; done)), H', ⟨by have := HK1.out; have := HJ4.out; omega⟩, ⟨by (with_reducible repeat (first | apply Kd.R_alloc | apply Kd.R_drewN | apply Kd.R_drew)); exact HO110.out⟩, ⟨by repeat (first | (with_reducible first | exact HB.out | apply below_alloc | apply pw_below_drewN | apply below_drew1) | exact HB.out)⟩, ⟨by (with_reducible repeat first | apply blk_drewN | apply blk_drew | apply blk_alloc); exact BKI.out⟩⟩
             ·rw [if_neg c14] at H
              exact absurd H (by simp)
            ·rw [if_neg c13] at H
             exact absurd H (by simp)
           ·rw [if_neg c12] at H
            exact absurd H (by simp)
          ·rw [if_neg c11] at H
           exact absurd H (by simp)
         ·rw [if_neg c10] at H
          exact absurd H (by simp)
       ·replace c7 := Bool.eq_false_iff.mpr c7
        subst c7
        have H1 : (if (words_rn a0 x10_1) ≥ 192 then (words_Fold.j2 kj4 a0 x3_1 x4_1 x10_1 (words_rn a0 x10_1) (⟨#[]⟩ : ByteArray) 0 a0 (x10_1 + words_wd a0 x10_1) (decide ((words_rn a0 x10_1) ≤ 255))) else (words_Fold.j2 kj4 a0 x3_1 x4_1 x10_1 (words_rn a0 x10_1) (⟨#[]⟩ : ByteArray) 0 a0 (x10_1 + words_wd a0 x10_1) false)) = some r := by rw [if_neg (show ¬ (false = true) by decide)] at H; exact H
        clear H
        have H := H1
        clear H1
        have HC17 := Aside0.mk H
        clear H
        go_upto_region 9 with (fail)
        go_cut [28] (fun v28 wc => ∃ (kq : Nat) (x28_16 : Bool), v28 = .bool x28_16 ∧ Aside0 (words_Fold.j2 kq a0 x3_1 x4_1 x10_1 (words_rn a0 x10_1) (⟨#[]⟩ : ByteArray) 0 a0 (x10_1 + words_wd a0 x10_1) x28_16 = some r) ∧ Aside0 (kq ≤ kj4) ∧ Aside0 (Kd.R (Kd.int .u8) 5 wc w.heap.size (fun _ => True) u3 x3_1) ∧ Aside0 (Below w.heap.size w wc) ∧ Aside0 (wc.heap[w.heap.size]? = some (.stringIter a0 (x10_1 + words_wd a0 x10_1).toNat)))
        case first =>
         have H := HC17.out
         clear HC17
         by_cases c18 : (words_rn a0 x10_1) ≥ 192
         ·rw [if_pos c18] at H
          have c18b0 : decide (192 ≤ (words_rn a0 x10_1)) = true := decide_eq_true c18
          clear c18
          (first | rw [c18b0] | (simp only [i64_w, i32_w]; rw [c18b0]) | skip)
          have H' := Aside0.mk H
          clear H
          go_wp2
          go_meet
          case rel => exact ⟨_, (decide ((words_rn a0 x10_1) ≤ 255)), (by first | rfl | (simp; done) | (simp [*]; done)), H', ⟨by have := HK1.out; have := HJ4.out; first | omega | exact Nat.le_refl _⟩, ⟨by (with_reducible repeat (first | apply Kd.R_alloc | apply Kd.R_drewN | apply Kd.R_drew)); exact HO_3.out⟩, ⟨by repeat (first | (with_reducible first | exact HB.out | apply below_alloc | apply pw_below_drewN | apply below_drew1) | exact HB.out)⟩, ⟨by (with_reducible repeat first | apply blk_drewN | apply blk_drew | apply blk_alloc); exact BKI.out⟩⟩
         ·rw [if_neg c18] at H
          have c18b0 : decide (192 ≤ (words_rn a0 x10_1)) = false := decide_eq_false c18
          clear c18
          (first | rw [c18b0] | (simp only [i64_w, i32_w]; rw [c18b0]) | skip)
          have H' := Aside0.mk H
          clear H
          go_wp2
          go_meet
          case rel => exact ⟨_, (false), (by first | rfl | (simp; done) | (simp [*]; done)), H', ⟨by have := HK1.out; have := HJ4.out; first | omega | exact Nat.le_refl _⟩, ⟨by (with_reducible repeat (first | apply Kd.R_alloc | apply Kd.R_drewN | apply Kd.R_drew)); exact HO_3.out⟩, ⟨by repeat (first | (with_reducible first | exact HB.out | apply below_alloc | apply pw_below_drewN | apply below_drew1) | exact HB.out)⟩, ⟨by (with_reducible repeat first | apply blk_drewN | apply blk_drew | apply blk_alloc); exact BKI.out⟩⟩
        case rest =>
         clear HC17
         try clear c1
         try clear c2
         try clear c2b0
         try clear p2
         try clear c3
         try clear c3b0
         try clear p3
         try clear p4
         try clear q4
         try clear hx4
         try clear c6
         try clear c6b0
         try clear p6
         try clear c7
         try clear c9
         try clear c9b0
         try clear c9b1
         try clear c10
         try clear c10b0
         try clear c10b1
         try clear c11
         try clear c11b0
         try clear c11b1
         try clear c12
         try clear c12b0
         try clear c12b1
         try clear c13
         try clear c14
         try clear c18
         try clear c18b0
         try clear p2
         try clear p3
         try clear p4
         try clear p6
         try clear q4
         obtain ⟨kq, x28_16, rfl, HA, HJ16, HO_3, HB, BKI⟩ := hcut
         cases kq with
         | zero => exact absurd HA.out (by simp [words_Fold.j2])
         | succ kj16 =>
          have H := HA.out
          clear HA
          simp only [words_Fold.j2] at H
          by_cases c19 : x28_16 = true
          ·subst c19
           have H1 : ((words_plain.f kj16 (wrap64 ((wrap64 ((words_rn a0 x10_1))) - 192))).bind fun t111 => (if t111.toList = ([] : List UInt8) then (words_Fold.l0 kj16 a0 x3_1 x4_1 a0 (x10_1 + words_wd a0 x10_1)) else (if 0 ≤ x4_1 then (if x4_1 ≤ x10_1 then (if x10_1 ≤ (a0.size : Int) then (if x3_1.length + (a0.extract (x4_1 : Int).toNat (x10_1 : Int).toNat).size < 140737488355328 then ((some (x3_1 ++ bytesOf (a0.extract (x4_1 : Int).toNat (x10_1 : Int).toNat) : List Int)).bind fun y112 => (if y112.length + t111.size < 140737488355328 then (words_Fold.l0 kj16 a0 (y112 ++ bytesOf t111) (wrap64 (x10_1 + 2)) a0 (x10_1 + words_wd a0 x10_1)) else (none))) else (none)) else (none)) else (none)) else (none)))) = some r := by rw [if_pos rfl] at H; exact H
           clear H
           have H := H1
           clear H1
           replace H := Option.bind_eq_some_iff.mp H
           obtain ⟨t111, A200, H⟩ := H
           replace H : (if t111.toList = ([] : List UInt8) then (words_Fold.l0 kj16 a0 x3_1 x4_1 a0 (x10_1 + words_wd a0 x10_1)) else (if 0 ≤ x4_1 then (if x4_1 ≤ x10_1 then (if x10_1 ≤ (a0.size : Int) then (if x3_1.length + (a0.extract (x4_1 : Int).toNat (x10_1 : Int).toNat).size < 140737488355328 then ((some (x3_1 ++ bytesOf (a0.extract (x4_1 : Int).toNat (x10_1 : Int).toNat) : List Int)).bind fun y112 => (if y112.length + t111.size < 140737488355328 then (words_Fold.l0 kj16 a0 (y112 ++ bytesOf t111) (wrap64 (x10_1 + 2)) a0 (x10_1 + words_wd a0 x10_1)) else (none))) else (none)) else (none)) else (none)) else (none))) = some r := H
           have A20 := Aside0.mk A200
           clear A200
           by_cases c21 : t111.toList = ([] : List UInt8)
           ·rw [if_pos c21] at H
            have c21b0 : (t111.toList == ([] : List UInt8)) = true := beq_iff_eq.mpr c21
            have c21b1 : (t111.toList != ([] : List UInt8)) = false := bne_eq_false_iff_eq.mpr c21
            clear c21
            have H' := Aside0.mk H
            clear H
            go_wp2_with (first | ((with_reducible refine gate_callee (f := 18) rfl ?_); refine goesL_ (some 38) rfl rfl Try.func18 (by kernel_rfl) rfl #[.int .i64 (wrap64 ((wrap64 ((words_rn a0 x10_1))) - 192))] rfl (by (try simp only [List.map_toArray, List.map_cons, List.map_nil]); first | done | rfl | (simp only [List.length_drop, List.length_take]; rfl)) ?_; (with_reducible refine (words_plain.calls kj16 (wrap64 ((wrap64 ((words_rn a0 x10_1))) - 192)) t111 _ A20.out).mono ?_); rintro e w' ⟨rfl, ⟨nd, rfl⟩⟩; refine ⟨_, rfl, ?_⟩))
            go_roundg kj16
            case measure => have := HK1.out; have := HJ4.out; have := HJ16.out; omega
            case rel => exact ⟨(x3_1), (x4_1), ((x10_1 + words_wd a0 x10_1)), (by first | rfl | (simp; done) | (simp [*]; done)), H', ⟨by have := HK1.out; have := HJ4.out; have := HJ16.out; omega⟩, ⟨by (with_reducible repeat (first | apply Kd.R_alloc | apply Kd.R_drewN | apply Kd.R_drew)); exact HO_3.out⟩, ⟨by repeat (first | (with_reducible first | exact HB.out | apply below_alloc | apply pw_below_drewN | apply below_drew1) | exact HB.out)⟩, ⟨by (with_reducible repeat first | apply blk_drewN | apply blk_drew | apply blk_alloc); exact BKI.out⟩⟩
           ·rw [if_neg c21] at H
            have c21b0 : (t111.toList == ([] : List UInt8)) = false := beq_eq_false_iff_ne.mpr c21
            have c21b1 : (t111.toList != ([] : List UInt8)) = true := bne_iff_ne.mpr c21
            by_cases c22 : 0 ≤ x4_1
            ·rw [if_pos c22] at H
             have c22b0 := eq_true c22
             have c22b1 : decide (0 ≤ x4_1) = true := decide_eq_true c22
             clear c22
             by_cases c23 : x4_1 ≤ x10_1
             ·rw [if_pos c23] at H
              have c23b0 := eq_true c23
              have c23b1 : decide (x4_1 ≤ x10_1) = true := decide_eq_true c23
              clear c23
              by_cases c24 : x10_1 ≤ (a0.size : Int)
              ·rw [if_pos c24] at H
               have c24b0 := eq_true c24
               have c24b1 : decide (x10_1 ≤ (a0.size : Int)) = true := decide_eq_true c24
               clear c24
               by_cases c25 : x3_1.length + (a0.extract (x4_1 : Int).toNat (x10_1 : Int).toNat).size < 140737488355328
               ·rw [if_pos c25] at H
                have LMc25 := Aside0.mk c25
                clear c25
                obtain ⟨y112, hy112⟩ : ∃ y_ : List Int, y_ = (x3_1 ++ bytesOf (a0.extract (x4_1 : Int).toNat (x10_1 : Int).toNat)) := ⟨_, rfl⟩
                replace H : (if y112.length + t111.size < 140737488355328 then (words_Fold.l0 kj16 a0 (y112 ++ bytesOf t111) (wrap64 (x10_1 + 2)) a0 (x10_1 + words_wd a0 x10_1)) else (none)) = some r := by first | (rw [hy112]; with_reducible exact H) | (have H2_ := (Option.bind_some _ _).symm.trans H; rw [hy112]; with_reducible exact H2_) | (have H2_ := (Option.bind_some _ _).symm.trans H; with_reducible exact H2_) | with_reducible exact H | (rw [hy112]; exact H) | exact H
                have Ny112 := Aside0.mk hy112
                clear hy112
                by_cases c26 : y112.length + t111.size < 140737488355328
                ·rw [if_pos c26] at H
                 have LMc26 := Aside0.mk c26
                 clear c26
                 obtain ⟨y115, hy115⟩ : ∃ y_ : List Int, y_ = (y112 ++ bytesOf t111) := ⟨_, rfl⟩
                 replace H : (words_Fold.l0 kj16 a0 y115 (wrap64 (x10_1 + 2)) a0 (x10_1 + words_wd a0 x10_1)) = some r := by first | (rw [hy115]; with_reducible exact H) | (have H2_ := (Option.bind_some _ _).symm.trans H; rw [hy115]; with_reducible exact H2_) | (have H2_ := (Option.bind_some _ _).symm.trans H; with_reducible exact H2_) | with_reducible exact H | (rw [hy115]; exact H) | exact H
                 have Ny115 := Aside0.mk hy115
                 clear hy115
                 have H' := Aside0.mk H
                 clear H
                 go_wp2_with (first | ((with_reducible refine gate_callee (f := 18) rfl ?_); refine goesL_ (some 38) rfl rfl Try.func18 (by kernel_rfl) rfl #[.int .i64 (wrap64 ((wrap64 ((words_rn a0 x10_1))) - 192))] rfl (by (try simp only [List.map_toArray, List.map_cons, List.map_nil]); first | done | rfl | (simp only [List.length_drop, List.length_take]; rfl)) ?_; (with_reducible refine (words_plain.calls kj16 (wrap64 ((wrap64 ((words_rn a0 x10_1))) - 192)) t111 _ A20.out).mono ?_); rintro e w' ⟨rfl, ⟨nd, rfl⟩⟩; refine ⟨_, rfl, ?_⟩) | (at_builtin; refine print_append_str (w0 := w) w.heap.size rfl (.tmp 41) _ 29 9 5 rfl Try.underlying29 Try.underlying9 info5 u3 x3_1 (a0.extract (x4_1 : Int).toNat (x10_1 : Int).toNat) rfl rfl ?aO ?aB ?aS ?aL ?_; (case aB => exact (by repeat (first | (with_reducible first | exact HB.out | apply below_alloc | apply pw_below_drewN | apply below_drew1) | exact HB.out))); (case aO => exact (Kd.own_of_R (by (with_reducible repeat (first | apply Kd.R_alloc | apply Kd.R_drewN | apply Kd.R_drew)); exact HO_3.out))); (case aS => exact (below_size (by repeat (first | (with_reducible first | exact HB.out | apply below_alloc | apply pw_below_drewN | apply below_drew1) | exact HB.out)))); (case aL => have := LMc25.out; omega); intro v113 w27 ho0 hb hg; have nB_ := Aside0.mk (blk_grown (by (with_reducible repeat first | apply blk_drewN | apply blk_drew | apply blk_alloc); exact BKI.out) hg (words_ne BKI.out HO_3.out)); clear BKI; have BKI := nB_; clear nB_; have ho := Kd.R_of_own (h1 := fun _ => rfl) (ok := fun _ => True) ho0 (fun _ _ => trivial); clear ho0; have hat := True.intro; rw [← Ny112.out] at ho; change Kd.R (Kd.int .u8) 5 w27 w.heap.size (fun _ => True) v113 y112 at ho; have n0_ := Aside0.mk (hb); have n1_ := Aside0.mk (ho); clear HB HO_3; have HB := n0_; have HO114 := n1_; clear n0_ n1_ ho hb hg hat) | (at_builtin; refine print_append_str (w0 := w) w.heap.size rfl (.tmp 47) _ 29 9 5 rfl Try.underlying29 Try.underlying9 info5 v113 y112 t111 rfl rfl ?aO ?aB ?aS ?aL ?_; (case aB => exact (by repeat (first | (with_reducible first | exact HB.out | apply below_alloc | apply pw_below_drewN | apply below_drew1) | exact HB.out))); (case aO => exact (Kd.own_of_R (by (with_reducible repeat (first | apply Kd.R_alloc | apply Kd.R_drewN | apply Kd.R_drew)); exact HO114.out))); (case aS => exact (below_size (by repeat (first | (with_reducible first | exact HB.out | apply below_alloc | apply pw_below_drewN | apply below_drew1) | exact HB.out)))); (case aL => have := LMc26.out; omega); intro v116 w28 ho0 hb hg; have nB_ := Aside0.mk (blk_grown (by (with_reducible repeat first | apply blk_drewN | apply blk_drew | apply blk_alloc); exact BKI.out) hg (words_ne BKI.out HO114.out)); clear BKI; have BKI := nB_; clear nB_; have ho := Kd.R_of_own (h1 := fun _ => rfl) (ok := fun _ => True) ho0 (fun _ _ => trivial); clear ho0; have hat := True.intro; rw [← Ny115.out] at ho; change Kd.R (Kd.int .u8) 5 w28 w.heap.size (fun _ => True) v116 y115 at ho; have n0_ := Aside0.mk (hb); have n1_ := Aside0.mk (ho); clear HB HO114; have HB := n0_; have HO117 := n1_; clear n0_ n1_ ho hb hg hat))
                 go_roundg kj16
                 case measure => have := HK1.out; have := HJ4.out; have := HJ16.out; omega
                 case rel => exact ⟨(y115), (wrap64 (x10_1 + 2)), ((x10_1 + words_wd a0 x10_1)), (by first | rfl | (simp; done) | (simp [*]; done)), H', ⟨by have := HK1.out; have := HJ4.out; have := HJ16.out; omega⟩, ⟨by (with_reducible repeat (first | apply Kd.R_alloc | apply Kd.R_drewN | apply Kd.R_drew)); exact HO117.out⟩, ⟨by repeat (first | (with_reducible first | exact HB.out | apply below_alloc | apply pw_below_drewN | apply below_drew1) | exact HB.out)⟩, ⟨by (with_reducible repeat first | apply blk_drewN | apply blk_drew | apply blk_alloc); exact BKI.out⟩⟩
                ·rw [if_neg c26] at H
                 exact absurd H (by simp)
               ·rw [if_neg c25] at H
                exact absurd H (by simp)
              ·rw [if_neg c24] at H
               exact absurd H (by simp)
             ·rw [if_neg c23] at H
              exact absurd H (by simp)
            ·rw [if_neg c22] at H
             exact absurd H (by simp)
          ·replace c19 := Bool.eq_false_iff.mpr c19
           subst c19
           have H1 : (if (⟨#[]⟩ : ByteArray).toList = ([] : List UInt8) then (words_Fold.l0 kj16 a0 x3_1 x4_1 a0 (x10_1 + words_wd a0 x10_1)) else (if 0 ≤ x4_1 then (if x4_1 ≤ x10_1 then (if x10_1 ≤ (a0.size : Int) then (if x3_1.length + (a0.extract (x4_1 : Int).toNat (x10_1 : Int).toNat).size < 140737488355328 then ((some (x3_1 ++ bytesOf (a0.extract (x4_1 : Int).toNat (x10_1 : Int).toNat) : List Int)).bind fun y118 => (if y118.length + (⟨#[]⟩ : ByteArray).size < 140737488355328 then (words_Fold.l0 kj16 a0 (y118 ++ bytesOf (⟨#[]⟩ : ByteArray)) (wrap64 (x10_1 + 0)) a0 (x10_1 + words_wd a0 x10_1)) else (none))) else (none)) else (none)) else (none)) else (none))) = some r := by rw [if_neg (show ¬ (false = true) by decide)] at H; exact H
           clear H
           have H := H1
           clear H1
           by_cases c29 : (⟨#[]⟩ : ByteArray).toList = ([] : List UInt8)
           ·rw [if_pos c29] at H
            have c29b0 : ((⟨#[]⟩ : ByteArray).toList == ([] : List UInt8)) = true := beq_iff_eq.mpr c29
            have c29b1 : ((⟨#[]⟩ : ByteArray).toList != ([] : List UInt8)) = false := bne_eq_false_iff_eq.mpr c29
            clear c29
            have H' := Aside0.mk H
            clear H
            go_wp2
            go_roundg kj16
            case measure => have := HK1.out; have := HJ4.out; have := HJ16.out; omega
            case rel => exact ⟨(x3_1), (x4_1), ((x10_1 + words_wd a0 x10_1)), (by first | rfl | (simp; done) | (simp [*]; done)), H', ⟨by have := HK1.out; have := HJ4.out; have := HJ16.out; omega⟩, ⟨by (with_reducible repeat (first | apply Kd.R_alloc | apply Kd.R_drewN | apply Kd.R_drew)); exact HO_3.out⟩, ⟨by repeat (first | (with_reducible first | exact HB.out | apply below_alloc | apply pw_below_drewN | apply below_drew1) | exact HB.out)⟩, ⟨by (with_reducible repeat first | apply blk_drewN | apply blk_drew | apply blk_alloc); exact BKI.out⟩⟩
           ·exact absurd (by first | rfl | decide | simp) c29
    ·rw [if_neg c3] at H
     exact absurd H (by simp)
   ·rw [if_neg c2] at H
    have c2b0 : decide (x10_1 < (a0.size : Int)) = false := decide_eq_false c2
    clear c2
    by_cases c37 : 0 ≤ x4_1
    ·rw [if_pos c37] at H
     have c37b0 := eq_true c37
     have c37b1 : decide (0 ≤ x4_1) = true := decide_eq_true c37
     clear c37
     by_cases c38 : x4_1 ≤ (a0.size : Int)
     ·rw [if_pos c38] at H
      have c38b0 := eq_true c38
      have c38b1 : decide (x4_1 ≤ (a0.size : Int)) = true := decide_eq_true c38
      clear c38
      by_cases c39 : x3_1.length + (a0.extract (x4_1 : Int).toNat a0.size).size < 140737488355328
      ·rw [if_pos c39] at H
       have LMc39 := Aside0.mk c39
       clear c39
       obtain ⟨y101, hy101⟩ : ∃ y_ : List Int, y_ = (x3_1 ++ bytesOf (a0.extract (x4_1 : Int).toNat a0.size)) := ⟨_, rfl⟩
       replace H : (some (strOfNums y101)) = some r := by first | (rw [hy101]; with_reducible exact H) | (have H2_ := (Option.bind_some _ _).symm.trans H; rw [hy101]; with_reducible exact H2_) | (have H2_ := (Option.bind_some _ _).symm.trans H; with_reducible exact H2_) | with_reducible exact H | (rw [hy101]; exact H) | exact H
       have Ny101 := Aside0.mk hy101
       clear hy101
       obtain rfl := Option.some.inj H
       have hov := fun ty => words_over Try.prog wr w.heap.size a0 x10_1 ty BKI.out (of_decide_eq_false c2b0)
       go_wp2_with (first | (at_builtin; refine print_append_str (w0 := w) w.heap.size rfl (.tmp 53) _ 29 9 5 rfl Try.underlying29 Try.underlying9 info5 u3 x3_1 (a0.extract (x4_1 : Int).toNat a0.size) rfl rfl ?aO ?aB ?aS ?aL ?_; (case aB => exact (by repeat (first | (with_reducible first | exact HB.out | apply below_alloc | apply pw_below_drewN | apply below_drew1) | exact HB.out))); (case aO => exact (Kd.own_of_R (by (with_reducible repeat (first | apply Kd.R_alloc | apply Kd.R_drewN | apply Kd.R_drew)); exact HO_3.out))); (case aS => exact (below_size (by repeat (first | (with_reducible first | exact HB.out | apply below_alloc | apply pw_below_drewN | apply below_drew1) | exact HB.out)))); (case aL => have := LMc39.out; omega); intro v102 w40 ho0 hb hg; have nB_ := Aside0.mk (blk_grown (by (with_reducible repeat first | apply blk_drewN | apply blk_drew | apply blk_alloc); exact BKI.out) hg (words_ne BKI.out HO_3.out)); clear BKI; have BKI := nB_; clear nB_; have ho := Kd.R_of_own (h1 := fun _ => rfl) (ok := fun _ => True) ho0 (fun _ _ => trivial); clear ho0; have hat := True.intro; rw [← Ny101.out] at ho; change Kd.R (Kd.int .u8) 5 w40 w.heap.size (fun _ => True) v102 y101 at ho; have n0_ := Aside0.mk (hb); have n1_ := Aside0.mk (ho); clear HB HO_3; have HB := n0_; have HO103 := n1_; clear n0_ n1_ ho hb hg hat; have hcv41 := own_string (P := Try.prog) Try.underlying29 Try.underlying5 Try.underlying9 (Kd.own_of_R HO103.out)))
       go_ret
       exact ⟨by first | rfl | (simp [errW_none, errW_some] <;> rfl) | (simp [*, errW_none, errW_some] <;> rfl), by repeat (first | (with_reducible first | exact HB.out | apply below_alloc | apply pw_below_drewN | apply below_drew1) | exact HB.out)⟩
      ·rw [if_neg c39] at H
       exact absurd H (by simp)
     ·rw [if_neg c38] at H
      exact absurd H (by simp)
    ·rw [if_neg c37] at H
     exact absurd H (by simp)

end Go.Proofs.Ytfmanlgfinlekaa.PAll
