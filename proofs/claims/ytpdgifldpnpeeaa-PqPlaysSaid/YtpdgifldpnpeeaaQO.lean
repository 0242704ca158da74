/- PqSorts: whatever is popped comes in order: the law's walk, with what its rounds keep. -/
import Derived.Test.YtpdgifldpnpeeaaQL
namespace Go.Proofs.Ytpdgifldpnpeeaa.PAll
open Go.RowKit Go.Proofs.YtpdgifldpnpeeaaW.PrintWords Go.Proofs.YtpdgifldpnpeeaaW.PrintLast Go.Proofs.YtpdgifldpnpeeaaW.PrintMore
set_option linter.unusedVariables false
set_option linter.unusedSimpArgs false
attribute [local irreducible] Calls

theorem gm_len {m : List (Option Int)} {x k : Int} (h : gm m x = some k) (h0 : 0 ≤ x) : x < m.length := by
  unfold gm at h
  by_cases c : x < m.length
  · exact c
  · rw [List.getD_eq_getElem?_getD, List.getElem?_eq_none (by omega)] at h
    cases h
theorem cnt_pos : ∀ m : List (Option Int), 0 < cnt m → ∃ (j : Nat) (k : Int), m.getD j none = some k
  | [], h => by simp [cnt] at h
  | none :: r, h => by
    obtain ⟨j, k, e⟩ := cnt_pos r h
    exact ⟨j + 1, k, by simpa using e⟩
  | some k :: r, _ => ⟨0, k, rfl⟩
theorem cnt_all : ∀ m : List (Option Int), (∀ j : Nat, j < m.length → ∃ k, m.getD j none = some k) → cnt m = m.length
  | [], _ => rfl
  | none :: r, h => by
    obtain ⟨k, e⟩ := h 0 (by simp)
    simp at e
  | some k :: r, h => by
    rw [cnt, cnt_all r (fun j hj => by obtain ⟨k, e⟩ := h (j + 1) (by simpa using hj); exact ⟨k, by simpa using e⟩), List.length_cons]
theorem cnt_zero {m : List (Option Int)} (h : ∀ j : Nat, m.getD j none = none) : cnt m = 0 := by
  by_cases c : 0 < cnt m
  · obtain ⟨j, k, e⟩ := cnt_pos m c
    rw [h j] at e
    cases e
  · omega
/-- What Pop picks. -/
theorem pop_some {m : List (Option Int)} (h : 0 < cnt m) : ∃ b bk : Int, pq_Queue_Pop.f m = some (b, bk, true, m.set b.toNat none) ∧ 0 ≤ b ∧ b < m.length ∧ gm m b = some bk ∧ ∀ x k : Int, 0 ≤ x → gm m x = some k → bk < k ∨ (bk = k ∧ b ≤ x) := by
  cases hb : bestFrom m 0 (-1) 0 with
  | mk b bk =>
    obtain ⟨g1, g2⟩ := best_spec m 0 (-1) 0 b bk (by omega) (by omega) hb
    have hb0 : 0 ≤ b := by
      by_cases c : b < 0
      · rw [cnt_zero (g1 c).2] at h
        omega
      · omega
    obtain ⟨a1, _, a3⟩ := g2 hb0
    have a1 : gm m b = some bk := by
      unfold gm
      rcases a1 with ⟨e, _⟩ | ⟨_, e⟩
      · omega
      · rw [show (b - 0).toNat = b.toNat by omega] at e
        exact e
    refine ⟨b, bk, ?_, hb0, gm_len a1 hb0, a1, fun x k x0 hx => ?_⟩
    · unfold pq_Queue_Pop.f
      rw [hb, if_neg (by show ¬ b < 0; omega)]
    · have := a3 x.toNat k hx
      omega
theorem pop_none {m : List (Option Int)} (h : cnt m = 0) : pq_Queue_Pop.f m = some (0, 0, false, m) := by
  unfold pq_Queue_Pop.f
  rw [best_none h, if_pos (by decide)]

/-- The keys from i + 1 on are set. -/
def SetI (l0 : List Int) (m : List (Option Int)) (i : Int) : Prop := m.length = l0.length ∧ ∀ x : Int, 0 ≤ x → x < l0.length → gm m x = if i < x then some (rd l0 x) else none
theorem setI_start (l0 : List Int) : SetI l0 (List.replicate l0.length none) (l0.length - 1) := ⟨by simp, fun x x0 x1 => by
  rw [if_neg (by omega)]
  unfold gm
  rw [List.getD_eq_getElem?_getD, List.getElem?_replicate, if_pos (by omega)]
  rfl⟩
theorem setI_step {l0 : List Int} {m : List (Option Int)} {i : Int} (h : SetI l0 m i) (h0 : 0 ≤ i) (h1 : i < l0.length) : pq_Queue_Set.f m i (rd l0 i) = some (true, m.set i.toNat (some (rd l0 i))) ∧ SetI l0 (m.set i.toNat (some (rd l0 i))) (i - 1) := by
  refine ⟨by unfold pq_Queue_Set.f; rw [if_pos ⟨h0, by rw [h.1]; exact h1⟩], by rw [List.length_set]; exact h.1, fun x x0 x1 => ?_⟩
  rw [gm_set h0 (by rw [h.1]; exact h1) x0, h.2 x x0 x1]
  by_cases c : x = i
  · rw [if_pos c, if_pos (by omega), c]
  · rw [if_neg c]
    by_cases c2 : i < x
    · rw [if_pos c2, if_pos (by omega)]
    · rw [if_neg c2, if_neg (by omega)]

/-- i items are popped; the last of them was item, with the key last. -/
structure PopI (l0 : List Int) (m : List (Option Int)) (sn : List Bool) (i : Int) (last item : Int) : Prop where
  lm : m.length = l0.length
  ls : sn.length = l0.length
  st : ∀ x : Int, 0 ≤ x → x < l0.length → (rdOf false sn x = true ∧ gm m x = none) ∨ (rdOf false sn x = false ∧ gm m x = some (rd l0 x))
  ct : (cnt m : Int) + i = l0.length
  lo : 0 < i → ∀ x k : Int, 0 ≤ x → gm m x = some k → last < k ∨ (last = k ∧ item ≤ x)
theorem popI_start {l0 : List Int} {m : List (Option Int)} (h : SetI l0 m (-1)) : PopI l0 m (List.replicate l0.length false) 0 0 0 := by
  have hs : ∀ x : Int, 0 ≤ x → x < l0.length → gm m x = some (rd l0 x) := fun x x0 x1 => by rw [h.2 x x0 x1, if_pos (by omega)]
  refine ⟨h.1, by simp, fun x x0 x1 => .inr ⟨?_, hs x x0 x1⟩, ?_, fun h => absurd h (by omega)⟩
  · unfold rdOf
    rw [List.getD_eq_getElem?_getD, List.getElem?_replicate, if_pos (by omega)]
    rfl
  · rw [cnt_all m (fun j hj => ⟨_, by have := hs j (by omega) (by rw [h.1] at hj; omega); unfold gm at this; exact this⟩), h.1]
    omega
theorem rdb_set (xs : List Bool) (i j : Int) (x : Bool) (h0 : 0 ≤ i) (h1 : i < xs.length) (hj : 0 ≤ j) : rdOf false (xs.set i.toNat x) j = if j = i then x else rdOf false xs j := by
  unfold rdOf
  rw [List.getD_eq_getElem?_getD, List.getD_eq_getElem?_getD, List.getElem?_set]
  by_cases e : j = i
  · subst e
    rw [if_pos rfl, if_pos rfl, if_pos (by omega)]
    rfl
  · rw [if_neg (by omega), if_neg e]
theorem popI_step {l0 : List Int} {m : List (Option Int)} {sn : List Bool} {i last item : Int} (h : PopI l0 m sn i last item) (h1 : i < l0.length) (h0 : 0 ≤ i) :
    ∃ b bk : Int, pq_Queue_Pop.f m = some (b, bk, true, m.set b.toNat none) ∧ 0 ≤ b ∧ b < l0.length ∧ rd l0 b = bk ∧ rdOf false sn b = false ∧ (0 < i → last < bk ∨ (last = bk ∧ item ≤ b)) ∧ PopI l0 (m.set b.toNat none) (sn.set b.toNat true) (i + 1) bk b := by
  obtain ⟨b, bk, e1, e2, e3, e4, e5⟩ := pop_some (m := m) (by have := h.ct; omega)
  have e3' : b < l0.length := by rw [← h.lm]; exact e3
  obtain ⟨s1, s2⟩ : rdOf false sn b = false ∧ gm m b = some (rd l0 b) := (h.st b e2 e3').resolve_left (fun e => by rw [e4] at e; cases e.2)
  have ebk : rd l0 b = bk := Option.some.inj (s2.symm.trans e4)
  have gs : ∀ x : Int, 0 ≤ x → gm (m.set b.toNat none) x = if x = b then none else gm m x := fun x x0 => gm_set e2 e3 x0
  refine ⟨b, bk, e1, e2, e3', ebk, s1, fun hi => h.lo hi b bk e2 e4, by rw [List.length_set]; exact h.lm, by rw [List.length_set]; exact h.ls, fun x x0 x1 => ?_, ?_, fun _ x k x0 hx => ?_⟩
  · rw [gs x x0, rdb_set _ _ _ _ e2 (by rw [h.ls]; exact e3') x0]
    by_cases c : x = b
    · rw [if_pos c, if_pos c]
      exact .inl ⟨rfl, rfl⟩
    · rw [if_neg c, if_neg c]
      exact h.st x x0 x1
  · have := cnt_drop m b.toNat bk e4
    have := h.ct
    omega
  · rw [gs x x0] at hx
    by_cases c : x = b
    · rw [if_pos c] at hx
      cases hx
    · rw [if_neg c] at hx
      have := e5 x k x0 hx
      omega

/-- The row of the flags, apart from the queue. -/
def Flags (base : Nat) (s : Value) (sn : List Bool) (w : World) (ok : Nat → Prop) : Prop := Kd.R Kd.bool 4 w base ok s sn
theorem stay_flags (base : Nat) (s : Value) (sn : List Bool) : Stay (Flags base s sn) := ⟨fun h hk => Kd.R_mono h hk, fun h hk hne => Kd.R_keptB h hk hne⟩
theorem LQ_store {w0 w : World} {v : Value} {m : List (Option Int)} {g n c : Nat} {sn : List Bool} (h : LQ (Flags w0.heap.size (.slice (some ⟨g, 0, none⟩) n c) sn) w0 w v m) (i : Int) (b : Bool) :
    LQ (Flags w0.heap.size (.slice (some ⟨g, 0, none⟩) n c) (sn.set i.toNat b)) w0 (w.setCell ⟨g, i.toNat, none⟩ (.bool b)) v m := by
  obtain ⟨PT, h1, h2, h3⟩ := h
  exact ⟨PT, QR_step h1 (fun k hk _ => Below.heap_setCell w ⟨g, i.toNat, none⟩ _ k (fun e => h2.1 g rfl (by cases e; exact hk))), Kd.R_putn h2 i b, below_set h3 (Kd.R_base h2 g rfl)⟩

def SortRel1 (w w' : World) (v : Value) (l0 : List Int) (g : Nat) (i : Int) : Prop := -1 ≤ i ∧ i < l0.length ∧ i < g ∧ ∃ m, LQ Non w w' v m ∧ SetI l0 m i
def SortRel2 (w w' : World) (v s : Value) (l0 : List Int) (g : Nat) (i last item : Int) : Prop := 0 ≤ i ∧ i ≤ l0.length ∧ l0.length ≤ i + g ∧ ∃ m sn, LQ (Flags w.heap.size s sn) w w' v m ∧ PopI l0 m sn i last item
theorem info4q : (Try.prog.info? 4).map (fun i => (i.zero, i.size, i.bytes)) = some (some (.bool false), 1, 1) := by kernel_rfl

set_option maxHeartbeats 16000000 in
set_option maxRecDepth 1000000 in
theorem PqSorts_walk (A0 : Option Addr) (c0 : Nat) (l0 : List Int) (w : World) (hr0 : (Kd.int .i64).C w A0 l0.length l0) : Calls Try.prog 3 #[.slice A0 l0.length c0] w (LawPost w true) := by
  have HR := Aside0.mk hr0
  clear hr0
  by_cases hlen : (200 : Int) < (l0.length : Int)
  · go_enter Try.func3, Try.ntmps3
    go_wp2_with (first | (go_at_call 8; refine (lives.calls w).mono ?_; rintro e w2 ⟨rfl, hb⟩; have HB := Aside0.mk hb; clear hb))
    go_ret
    exact ⟨by first | rfl | (simp; done), HB.out⟩
  have hlen2 : (l0.length : Int) ≤ 200 := by omega
  have HNew := Aside0.mk (LQ_New (Below.refl w.heap.size w) l0.length (List.replicate l0.length none) (by unfold pq_New.f; rw [if_pos (by omega)]; simp))
  clear hlen
  have HStart := Aside0.mk (setI_start l0)
  go_enter Try.func3, Try.ntmps3
  go_wp2_with (first
    | (go_at_call 9; refine (HNew.out).mono ?_; rintro e w1 ⟨p, rfl, h1, _, h3⟩; have HQ := Aside0.mk (show LQ Non w w1 (.pointer (some ⟨p, 0, none⟩)) (List.replicate l0.length none) from ⟨_, h1, trivial, h3⟩); clear h1 h3))
  have HW1 := Aside0.mk (show wrap64 ((l0.length : Int) - 1) = (l0.length : Int) - 1 from by unfold wrap64; omega)
  have HRel := Aside0.mk (show SortRel1 w w1 (.pointer (some ⟨p, 0, none⟩)) l0 (l0.length + 1) (l0.length - 1) from ⟨by omega, by omega, by omega, _, HQ.out, HStart.out⟩)
  clear HQ HStart HNew
  go_loopg [4] (l0.length + 1) (fun g vi wr => ∃ i : Int, vi = .int .i64 i ∧ SortRel1 w wr (.pointer (some ⟨p, 0, none⟩)) l0 g i)
  case atStart => exact ⟨_, by first | rfl | (congr 1; exact HW1.out), HRel.out⟩
  case round =>
    clear HRel HW1
    obtain ⟨i, rfl, i0, i1, hg, m, hq, hs⟩ := hrel
    have HQ := Aside0.mk hq
    have HS := Aside0.mk hs
    clear hq hs
    by_cases c : 0 ≤ i
    · obtain ⟨hset, hstep⟩ := setI_step HS.out c i1
      have HStep := Aside0.mk hstep
      have HC := Aside0.mk (LQ_Set stay_non HQ.out i (rd l0 i) true _ hset)
      obtain ⟨ad, e, hx⟩ := Kd.at_int (Kd.C_below HR.out HQ.out.below) i c i1
      subst e
      clear hset hstep
      go_wp2_with (first
        | (go_at_call 10; refine (HC.out).mono ?_; rintro e w2 ⟨rfl, h⟩; have HQ2 := Aside0.mk h; clear h))
      go_roundg i.toNat
      case measure => omega
      case rel => exact ⟨i - 1, by first | rfl | go_num | (congr 1; unfold wrap64; omega), by omega, by omega, by omega, _, HQ2.out, HStep.out⟩
    · have hi : i = -1 := by omega
      subst hi
      have HI0 := Aside0.mk (popI_start HS.out)
      clear HS
      go_wp2_with (first
        | ((with_reducible refine gate_dst (N := 41) rfl ?_); refine Kd.R_make Kd.bool (w0 := wr) wr.heap.size 4 rfl (N := 41) rfl 27 (.tmp 40) (.tmp 40) rfl (l0.length : Int) rfl rfl Try.underlying27 (.bool false) 1 info4q rfl (by decide) (by omega) false (ok := fun k => wr.heap.size ≤ k) (okp := fun _ => False) rfl (fun _ h => h.elim) (Nat.le_refl _) (by omega) (by omega) (Below.refl _ _) (Nat.le_refl _) ?_; intro v3 w3 ho3 hb3 hg3 hat3; have HQ3 := Aside0.mk (show LQ (Flags w.heap.size v3 (List.replicate l0.length false)) w w3 (.pointer (some ⟨p, 0, none⟩)) m from (by obtain ⟨PT, h1, h2, h3⟩ := HQ.out; exact ⟨fun k => PT k ∧ k < wr.heap.size, QR_below (QR_mono (QR_bound h1) (fun k hk => ⟨hk.1, hk.2.2⟩)) hb3, Kd.R_lower (Kd.R_mono ho3 (fun k hk h => by omega)) h3.size, below_step h3 hb3⟩)); clear ho3 hb3 hg3 hat3 HQ))
      obtain ⟨sA, sc, es⟩ : ∃ sA sc, v3 = .slice sA l0.length sc := by
        obtain ⟨PT, h1, h2, h3⟩ := HQ3.out
        obtain ⟨A, c, e⟩ := Kd.R_slice h2
        exact ⟨A, c, by rw [e]; simp⟩
      subst es
      go_loopg [8, 6, 7] l0.length (fun g vi vl vt wr => ∃ i la it : Int, vi = .int .i64 i ∧ vl = .int .i64 la ∧ vt = .int .i64 it ∧ SortRel2 w wr (.pointer (some ⟨p, 0, none⟩)) (.slice sA l0.length sc) l0 g i la it)
      case atStart => exact ⟨0, 0, 0, rfl, rfl, rfl, by omega, by omega, by omega, _, _, HQ3.out, HI0.out⟩
      case round =>
        clear HQ3 HI0
        obtain ⟨i, la, it, rfl, rfl, rfl, i0, i1, hg, m, sn, hq, hp⟩ := hrel
        have HQ := Aside0.mk hq
        have HP := Aside0.mk hp
        clear hq hp
        by_cases c : i < (l0.length : Int)
        · obtain ⟨b, bk, e1, b0, b1, e3, e4, e5, hnext⟩ := popI_step HP.out c i0
          have HC := Aside0.mk (LQ_Pop (stay_flags _ _ _) HQ.out b bk true _ e1)
          have HNext := Aside0.mk hnext
          have HE4 := Aside0.mk e4
          have HLs := Aside0.mk HP.out.ls
          clear e1 hnext e4
          have fin : ∀ w2, LQ (Flags w.heap.size (.slice sA l0.length sc) sn) w w2 (.pointer (some ⟨p, 0, none⟩)) (m.set b.toNat none) → ∃ gs, sA = some ⟨gs, 0, none⟩ := fun w2 h2 => by
            obtain ⟨PT, h1, h2, h3⟩ := h2
            obtain ⟨gs, cs, e, _⟩ := Kd.R_form h2 (by have := HLs.out; omega)
            injection e with e
            exact ⟨gs, e⟩
          obtain ⟨gs, egs⟩ : ∃ gs, sA = some ⟨gs, 0, none⟩ := by
            obtain ⟨PT, h1, h2, h3⟩ := HQ.out
            obtain ⟨gs, cs, e, _⟩ := Kd.R_form h2 (by have := HLs.out; omega)
            injection e with e
            exact ⟨gs, e⟩
          subst egs
          clear fin
          have hcell : ∀ w2, LQ (Flags w.heap.size (.slice (some ⟨gs, 0, none⟩) l0.length sc) sn) w w2 (.pointer (some ⟨p, 0, none⟩)) (m.set b.toNat none) → w2.cell? ⟨gs, b.toNat, none⟩ = some (.bool false) ∧ w2.frozen? ⟨gs, b.toNat, none⟩ = false := fun w2 h2 => by
            obtain ⟨PT, h1, h2, h3⟩ := h2
            have := Kd.R_celln false h2 b b0 b1
            rw [HE4.out] at this
            exact this
          have HCell := Aside0.mk hcell
          obtain ⟨ad, e, hx⟩ := Kd.at_int HR.out b b0 b1
          subst e
          have HX := Aside0.mk (fun (w2 : World) (hb : Below w.heap.size w w2) => (by obtain ⟨ad2, e2, hx2⟩ := Kd.at_int (Kd.C_below HR.out hb) b b0 b1; injection e2 with e2; subst e2; rw [e3] at hx2; exact hx2 : w2.cell? (ad.add b.toNat) = some (.int .i64 bk)))
          clear hcell hx e3
          have nb0 : decide (b < 0) = false := decide_eq_false (by omega)
          have nb1 : decide ((l0.length : Int) ≤ b) = false := decide_eq_false (by omega)
          by_cases hi : 0 < i
          · have e5 := e5 hi
            by_cases hlast : la = bk
            · have l1 : (bk == la) = true := beq_iff_eq.2 hlast.symm
              have l2 : decide (bk < la) = false := decide_eq_false (by omega)
              have l3 : decide (b < it) = false := decide_eq_false (by omega)
              clear e5
              clear hlast
              go_wp2_with (first
                | (go_at_call 11; refine (HC.out).mono ?_; rintro e w2 ⟨rfl, h⟩; have HQ2 := Aside0.mk h; clear h; obtain ⟨cs1, fs1⟩ := HCell.out w2 HQ2.out; have hx := HX.out w2 HQ2.out.below)
                | ((with_reducible refine gate_store (t := 4) (p := 101) rfl ?_); refine store_event (t := 4) (p := 101) (v := ?vo) (w1 := (w2.setCell ⟨gs, b.toNat, none⟩ (.bool true))) ?hg ?ho ?hn ?hr ?_; (case ho => rfl); (case hg => rfl); (case hn => rfl); (case hr => first | (go_simp; done) | (go_simp; rfl)); intro w4 hw; have HQ4 := Aside0.mk (show LQ (Flags w.heap.size (.slice (some ⟨gs, 0, none⟩) l0.length sc) (sn.set b.toNat true)) w w4 (.pointer (some ⟨p, 0, none⟩)) (m.set b.toNat none) from by (rw [hw]; exact LQ_store HQ2.out b true)); clear hw cs1 fs1 hx))
              go_roundg (l0.length - (i + 1)).toNat
              case measure => omega
              case rel => exact ⟨i + 1, bk, b, by first | rfl | go_num, rfl, rfl, by omega, by omega, by omega, _, _, HQ4.out, HNext.out⟩
            · have l1 : (bk == la) = false := beq_eq_false_iff_ne.2 (fun e => hlast e.symm)
              have l2 : decide (bk < la) = false := decide_eq_false (by omega)
              clear e5
              clear hlast
              go_wp2_with (first
                | (go_at_call 11; refine (HC.out).mono ?_; rintro e w2 ⟨rfl, h⟩; have HQ2 := Aside0.mk h; clear h; obtain ⟨cs1, fs1⟩ := HCell.out w2 HQ2.out; have hx := HX.out w2 HQ2.out.below)
                | ((with_reducible refine gate_store (t := 4) (p := 101) rfl ?_); refine store_event (t := 4) (p := 101) (v := ?vo) (w1 := (w2.setCell ⟨gs, b.toNat, none⟩ (.bool true))) ?hg ?ho ?hn ?hr ?_; (case ho => rfl); (case hg => rfl); (case hn => rfl); (case hr => first | (go_simp; done) | (go_simp; rfl)); intro w4 hw; have HQ4 := Aside0.mk (show LQ (Flags w.heap.size (.slice (some ⟨gs, 0, none⟩) l0.length sc) (sn.set b.toNat true)) w w4 (.pointer (some ⟨p, 0, none⟩)) (m.set b.toNat none) from by (rw [hw]; exact LQ_store HQ2.out b true)); clear hw cs1 fs1 hx))
              go_roundg (l0.length - (i + 1)).toNat
              case measure => omega
              case rel => exact ⟨i + 1, bk, b, by first | rfl | go_num, rfl, rfl, by omega, by omega, by omega, _, _, HQ4.out, HNext.out⟩
          · have hib : decide (0 < i) = false := decide_eq_false hi
            go_wp2_with (first
              | (go_at_call 11; refine (HC.out).mono ?_; rintro e w2 ⟨rfl, h⟩; have HQ2 := Aside0.mk h; clear h; obtain ⟨cs1, fs1⟩ := HCell.out w2 HQ2.out; have hx := HX.out w2 HQ2.out.below)
              | ((with_reducible refine gate_store (t := 4) (p := 101) rfl ?_); refine store_event (t := 4) (p := 101) (v := ?vo) (w1 := (w2.setCell ⟨gs, b.toNat, none⟩ (.bool true))) ?hg ?ho ?hn ?hr ?_; (case ho => rfl); (case hg => rfl); (case hn => rfl); (case hr => first | (go_simp; done) | (go_simp; rfl)); intro w4 hw; have HQ4 := Aside0.mk (show LQ (Flags w.heap.size (.slice (some ⟨gs, 0, none⟩) l0.length sc) (sn.set b.toNat true)) w w4 (.pointer (some ⟨p, 0, none⟩)) (m.set b.toNat none) from by (rw [hw]; exact LQ_store HQ2.out b true)); clear hw cs1 fs1 hx))
            go_roundg (l0.length - (i + 1)).toNat
            case measure => omega
            case rel => exact ⟨i + 1, bk, b, by first | rfl | go_num, rfl, rfl, by omega, by omega, by omega, _, _, HQ4.out, HNext.out⟩
        · have hi : i = l0.length := by omega
          have hc0 : cnt m = 0 := by have := HP.out.ct; omega
          have HC := Aside0.mk (LQ_Pop (stay_flags _ _ _) HQ.out 0 0 false _ (pop_none hc0))
          have HL := Aside0.mk (fun w2 (h : LQ (Flags w.heap.size (.slice sA l0.length sc) sn) w w2 (.pointer (some ⟨p, 0, none⟩)) m) => LQ_Len (stay_flags _ _ _) h 0 (by rw [hc0]; rfl))
          clear hc0 hi
          go_wp2_with (first
            | (go_at_call 11; refine (HC.out).mono ?_; rintro e w2 ⟨rfl, h⟩; have HQ2 := Aside0.mk h; clear h)
            | (go_at_call 12; refine (HL.out _ HQ2.out).mono ?_; rintro e w3 ⟨rfl, nq, rfl⟩; have HQ3 := Aside0.mk (LQ.drewN (stay_flags _ _ _) HQ2.out nq))
            | (go_at_call 8; refine (lives.calls _).mono ?_; rintro e w4 ⟨rfl, hb⟩; have HB := Aside0.mk (below_step HQ3.out.below hb); clear hb))
          go_ret
          exact ⟨by first | rfl | (simp; done), HB.out⟩
end Go.Proofs.Ytpdgifldpnpeeaa.PAll
