/- The lists of arcs (graph.Out, graph.In) in closed form; the model of dijkstra.run. What Pop picks; what a round of run keeps. Rows and boxes made one after the other, in any order. A box beneath rows and boxes is written; what a box holds. What run's loops read and call: the ends of an arc, the lists' rows, the graph's arcs. -/
import Derived.Test.YtofhgmdehglhgaaQq
import Derived.Test.YtofhgmdehglhgaaPAllx7
namespace Go.Proofs.Ytofhgmdehglhgaa.PAll
open Go.RowKit Go.Proofs.YtofhgmdehglhgaaW.PrintWords Go.Proofs.YtofhgmdehglhgaaW.PrintLast Go.Proofs.YtofhgmdehglhgaaW.PrintMore
set_option linter.unusedVariables false
set_option linter.unusedSimpArgs false

/-- The lists after the first i arcs. -/
def outAt (n : Nat) (l : List S40) : Nat → List (List Int)
  | 0 => List.replicate n []
  | i + 1 => (outAt n l i).set (rd_T40 l i).f0.toNat (rd_L4 (outAt n l i) (rd_T40 l i).f0 ++ [(i : Int)])
structure OutI (n : Nat) (l : List S40) (i : Nat) (r : List (List Int)) : Prop where
  len : r.length = n
  ok : ∀ v : Int, 0 ≤ v → v < n → ∀ a ∈ rd_L4 r v, 0 ≤ a ∧ a < i ∧ (rd_T40 l a).f0 = v
  all : ∀ a : Int, 0 ≤ a → a < i → a ∈ rd_L4 r (rd_T40 l a).f0
  few : ∀ v : Int, 0 ≤ v → v < n → (rd_L4 r v).length ≤ i
theorem gchk_arc {n : Int} {l : List S40} (h : gchk n l = 0) : 0 ≤ n ∧ n ≤ 1048576 ∧ l.length ≤ 4194304 ∧ ∀ i : Nat, i < l.length → 0 ≤ (rd_T40 l i).f0 ∧ (rd_T40 l i).f0 < n ∧ 0 ≤ (rd_T40 l i).f1 ∧ (rd_T40 l i).f1 < n := by
  unfold gchk at h
  split at h
  · cases h
  · rename_i c
    split at h
    · rename_i c2
      refine ⟨by omega, by omega, by omega, fun i hi => ?_⟩
      rw [List.all_eq_true] at c2
      have := c2 l[i] (List.getElem_mem hi)
      have e : rd_T40 l i = l[i] := by
        unfold rd_T40
        rw [Int.toNat_natCast, List.getD_eq_getElem?_getD, List.getElem?_eq_getElem hi]
        rfl
      rw [e]
      exact of_decide_eq_true this
    · cases h
theorem rd_L4_set {r : List (List Int)} {v x : Int} {y : List Int} (hv : 0 ≤ v) (hx : 0 ≤ x) (hv1 : v < r.length) : rd_L4 (r.set v.toNat y) x = if v = x then y else rd_L4 r x := by
  unfold rd_L4
  rw [List.getD_eq_getElem?_getD, List.getD_eq_getElem?_getD, List.getElem?_set]
  by_cases c : v = x
  · subst c
    rw [if_pos rfl, if_pos (by omega), if_pos rfl]
    rfl
  · rw [if_neg (by omega), if_neg c]
theorem outAt_i {n : Nat} {l : List S40} (h : gchk n l = 0) : ∀ i, i ≤ l.length → OutI n l i (outAt n l i)
  | 0, _ => by
    have e : ∀ v : Int, rd_L4 (outAt n l 0) v = [] := fun v => by
      unfold rd_L4 outAt
      rw [List.getD_eq_getElem?_getD, List.getElem?_replicate]
      split <;> rfl
    exact ⟨by simp [outAt], (fun v _ _ a ha => by rw [e] at ha; cases ha), (fun a h0 h1 => by omega), (fun v _ _ => by rw [e]; exact Nat.le_refl _)⟩
  | i + 1, hi => by
    have ih := outAt_i h i (by omega)
    obtain ⟨g1, g2, g3, g4⟩ := gchk_arc h
    obtain ⟨a0, a1, _, _⟩ := g4 i (by omega)
    have hs : ∀ x : Int, 0 ≤ x → rd_L4 (outAt n l (i + 1)) x = if (rd_T40 l i).f0 = x then rd_L4 (outAt n l i) (rd_T40 l i).f0 ++ [(i : Int)] else rd_L4 (outAt n l i) x := fun x hx => rd_L4_set a0 hx (by rw [ih.len]; exact a1)
    refine ⟨by simp [outAt, ih.len], fun v h0 h1 a ha => ?_, fun a h0 h1 => ?_, fun v h0 h1 => ?_⟩
    · rw [hs v h0] at ha
      split at ha
      · rename_i c
        rcases List.mem_append.1 ha with ha | ha
        · have := ih.ok _ a0 a1 a ha
          exact ⟨this.1, by omega, by rw [this.2.2, c]⟩
        · rw [List.mem_singleton.1 ha]
          exact ⟨by omega, by omega, c⟩
      · have := ih.ok v h0 h1 a ha
        exact ⟨this.1, by omega, this.2.2⟩
    · by_cases c : a = i
      · subst c
        rw [hs _ a0, if_pos rfl]
        exact List.mem_append.2 (.inr (List.mem_singleton.2 rfl))
      · have ha := g4 a.toNat (by omega)
        rw [Int.toNat_of_nonneg h0] at ha
        have := ih.all a h0 (by omega)
        rw [hs _ ha.1]
        split
        · rename_i c2
          rw [c2]
          exact List.mem_append.2 (.inl this)
        · exact this
    · rw [hs v h0]
      split
      · have := ih.few _ a0 a1
        rw [List.length_append]
        show _ + 1 ≤ i + 1
        omega
      · have := ih.few v h0 h1
        omega
theorem graph_Out_l0 {n : Nat} {l : List S40} (h : gchk n l = 0) : ∀ (d i : Nat), i + d = l.length → graph_Out.l0 (d + 1) (outAt n l i) l (l.length : Int) i = some (outAt n l l.length)
  | 0, i, hi => by
    unfold graph_Out.l0
    rw [if_neg (by omega), show i = l.length by omega]
  | d + 1, i, hi => by
    have ih := outAt_i h i (by omega)
    obtain ⟨g1, g2, g3, g4⟩ := gchk_arc h
    obtain ⟨a0, a1, _, _⟩ := g4 i (by omega)
    have hw : wrap64 ((i : Int) + 1) = ((i + 1 : Nat) : Int) := by unfold wrap64; omega
    have := ih.few _ a0 a1
    unfold graph_Out.l0
    rw [if_pos (by omega), if_pos (by omega), if_pos (by omega), if_pos a0, if_pos (by rw [ih.len]; exact a1), if_pos (by omega), hw]
    exact graph_Out_l0 h d (i + 1) (by omega)
theorem graph_Out_ev {n : Nat} {l : List S40} (h : gchk n l = 0) : ∃ k, graph_Out.f k n l = some (outAt n l l.length) := by
  obtain ⟨g1, g2, g3, g4⟩ := gchk_arc h
  obtain ⟨k1, hk1⟩ := graph_Check_ev (n : Int) l
  have hm : ∀ d, graph_Check.f (k1 + d) (n : Int) l = some (gchk n l) := by
    intro d
    induction d with
    | zero => exact hk1
    | succ d ih => exact graph_Check.mono _ _ (k1 + d) _ ih
  have hm2 : ∀ d, graph_Out.l0 (l.length + 1 + d) (outAt n l 0) l (l.length : Int) (0 : Nat) = some (outAt n l l.length) := by
    intro d
    induction d with
    | zero => exact graph_Out_l0 h l.length 0 (by omega)
    | succ d ih => exact graph_Out.mono_l (l.length + 1 + d) _ _ _ _ _ ih
  refine ⟨k1 + (l.length + 1), ?_⟩
  unfold graph_Out.f
  rw [hm, h]
  rw [Option.bind_some, if_pos rfl, if_pos (by omega), if_pos (by omega), show ((n : Int).toNat) = n from Int.toNat_natCast n]
  have := hm2 k1
  rw [show l.length + 1 + k1 = k1 + (l.length + 1) by omega] at this
  exact this
theorem sw40_arc (l : List S40) (i : Int) : rd_T40 (l.map sw40) i = sw40 (rd_T40 l i) := by
  unfold rd_T40
  rw [List.getD_eq_getElem?_getD, List.getD_eq_getElem?_getD, List.getElem?_map]
  cases l[i.toNat]? <;> rfl
theorem gchk_rev {n : Int} {l : List S40} (h : gchk n l = 0) : gchk n (l.map sw40) = 0 := by
  unfold gchk at h ⊢
  split at h
  · cases h
  · rename_i c
    rw [if_neg (by rw [List.length_map]; exact c)]
    split at h
    · rename_i c2
      rw [if_pos]
      rw [List.all_map]
      rw [List.all_eq_true] at c2 ⊢
      intro x hx
      have := of_decide_eq_true (c2 x hx)
      exact decide_eq_true (show 0 ≤ x.f1 ∧ x.f1 < n ∧ 0 ≤ x.f0 ∧ x.f0 < n by omega)
    · cases h
theorem graph_In_ev {n : Nat} {l : List S40} (h : gchk n l = 0) : ∃ k, graph_In.f k n l = some (outAt n (l.map sw40) l.length) := by
  obtain ⟨k, hk⟩ := graph_Out_ev (gchk_rev h)
  refine ⟨k, ?_⟩
  unfold graph_In.f graph_Reverse.f
  rw [if_pos h]
  rw [List.length_map] at hk
  show (graph_Out.f k (n : Int) (l.map sw40)).bind _ = _
  rw [hk]
  rfl
/-- The model of run. -/
def farP (l : List S40) (back : Bool) (a : Int) : Int := if back = true then (rd_T40 l a).f0 else (rd_T40 l a).f1
def arcP (l : List S40) (x : List Int) (back : Bool) (c : Int) (s : DS) (a : Int) : DS := if 0 ≤ rd x a then relaxP s (farP l back a) (wrap64 (c + rd x a)) a else s
def popP (s : DS) : DS := ⟨s.d, s.v, s.m.set (bestFrom s.m 0 (-1) 0).1.toNat none⟩
def listsP (n : Nat) (l : List S40) (back : Bool) : List (List Int) := if back = true then outAt n (l.map sw40) l.length else outAt n l l.length
def roundP (n : Nat) (l : List S40) (x : List Int) (back : Bool) (s : DS) : DS := (rd_L4 (listsP n l back) (bestFrom s.m 0 (-1) 0).1).foldl (arcP l x back (bestFrom s.m 0 (-1) 0).2) (popP s)
def runP (n : Nat) (l : List S40) (x : List Int) (back : Bool) : Nat → DS → Option DS
  | 0, _ => none
  | k + 1, s => if 0 < cnt s.m then runP n l x back k (roundP n l x back s) else some s
def startP (n : Nat) (s : Int) : DS := relaxP ⟨List.replicate n 1152921504606846976, List.replicate n (-1), List.replicate n none⟩ s 0 (-1)
end Go.Proofs.Ytofhgmdehglhgaa.PAll
namespace Go.Proofs.Ytofhgmdehglhgaa.PAll
open Go.RowKit Go.Proofs.YtofhgmdehglhgaaW.PrintWords Go.Proofs.YtofhgmdehglhgaaW.PrintLast Go.Proofs.YtofhgmdehglhgaaW.PrintMore
set_option linter.unusedVariables false
set_option linter.unusedSimpArgs false

theorem gm_len {m : List (Option Int)} {x k : Int} (h : gm m x = some k) (h0 : 0 ≤ x) : x < m.length := by
  unfold gm at h
  by_cases c : x < m.length
  · exact c
  · rw [List.getD_eq_getElem?_getD, List.getElem?_eq_none (by omega)] at h
    cases h
theorem cnt_pos : ∀ m : List (Option Int), 0 < cnt m → ∃ (j : Nat) (k : Int), m.getD j none = some k
  | [], h => by simp [cnt] at h
  | none :: r, h => by
    obtain ⟨j, k, e⟩ := cnt_pos r h
    exact ⟨j + 1, k, by simpa using e⟩
  | some k :: r, _ => ⟨0, k, rfl⟩
theorem cnt_all : ∀ m : List (Option Int), (∀ j : Nat, j < m.length → ∃ k, m.getD j none = some k) → cnt m = m.length
  | [], _ => rfl
  | none :: r, h => by
    obtain ⟨k, e⟩ := h 0 (by simp)
    simp at e
  | some k :: r, h => by
    rw [cnt, cnt_all r (fun j hj => by obtain ⟨k, e⟩ := h (j + 1) (by simpa using hj); exact ⟨k, by simpa using e⟩), List.length_cons]
theorem cnt_zero {m : List (Option Int)} (h : ∀ j : Nat, m.getD j none = none) : cnt m = 0 := by
  by_cases c : 0 < cnt m
  · obtain ⟨j, k, e⟩ := cnt_pos m c
    rw [h j] at e
    cases e
  · omega
/-- What Pop picks. -/
theorem pop_some {m : List (Option Int)} (h : 0 < cnt m) : ∃ b bk : Int, pq_Queue_Pop.f m = some (b, bk, true, m.set b.toNat none) ∧ 0 ≤ b ∧ b < m.length ∧ gm m b = some bk ∧ ∀ x k : Int, 0 ≤ x → gm m x = some k → bk < k ∨ (bk = k ∧ b ≤ x) := by
  cases hb : bestFrom m 0 (-1) 0 with
  | mk b bk =>
    obtain ⟨g1, g2⟩ := best_spec m 0 (-1) 0 b bk (by omega) (by omega) hb
    have hb0 : 0 ≤ b := by
      by_cases c : b < 0
      · rw [cnt_zero (g1 c).2] at h
        omega
      · omega
    obtain ⟨a1, _, a3⟩ := g2 hb0
    have a1 : gm m b = some bk := by
      unfold gm
      rcases a1 with ⟨e, _⟩ | ⟨_, e⟩
      · omega
      · rw [show (b - 0).toNat = b.toNat by omega] at e
        exact e
    refine ⟨b, bk, ?_, hb0, gm_len a1 hb0, a1, fun x k x0 hx => ?_⟩
    · unfold pq_Queue_Pop.f
      rw [hb, if_neg (by show ¬ b < 0; omega)]
    · have := a3 x.toNat k hx
      omega
theorem pop_best {m : List (Option Int)} (h : 0 < cnt m) : pq_Queue_Pop.f m = some ((bestFrom m 0 (-1) 0).1, (bestFrom m 0 (-1) 0).2, true, m.set (bestFrom m 0 (-1) 0).1.toNat none) ∧ 0 ≤ (bestFrom m 0 (-1) 0).1 ∧ (bestFrom m 0 (-1) 0).1 < m.length := by
  obtain ⟨b, bk, h1, h2, h3, h4, h5⟩ := pop_some h
  have e : (bestFrom m 0 (-1) 0).1 = b := by
    unfold pq_Queue_Pop.f at h1
    have h1 := Option.some.inj h1
    split at h1
    · simp only [Prod.mk.injEq] at h1
      have := h1.2.2.1
      cases this
    · simp only [Prod.mk.injEq] at h1
      exact h1.1
  refine ⟨?_, by rw [e]; exact h2, by rw [e]; exact h3⟩
  unfold pq_Queue_Pop.f
  rw [if_neg (by rw [e]; omega)]
structure DInv (n : Nat) (s : DS) : Prop where
  d : s.d.length = n
  v : s.v.length = n
  m : s.m.length = n
theorem DInv.relax {n : Nat} {s : DS} (h : DInv n s) (v c a : Int) : DInv n (relaxP s v c a) := by
  unfold relaxP
  split
  · exact ⟨by simp [h.d], by simp [h.v], by simp [h.m]⟩
  · exact h
theorem DInv.arc {n : Nat} {s : DS} (h : DInv n s) (l : List S40) (x : List Int) (back : Bool) (c a : Int) : DInv n (arcP l x back c s a) := by
  unfold arcP
  split
  · exact h.relax _ _ _
  · exact h
theorem DInv.pop {n : Nat} {s : DS} (h : DInv n s) : DInv n (popP s) := ⟨h.d, h.v, by simp [popP, h.m]⟩
theorem DInv.arcs {n : Nat} (l : List S40) (x : List Int) (back : Bool) (c : Int) : ∀ (r : List Int) {s : DS}, DInv n s → DInv n (r.foldl (arcP l x back c) s)
  | [], _, h => h
  | a :: r, _, h => DInv.arcs l x back c r (h.arc l x back c a)
theorem DInv.start (n : Nat) (s : Int) : DInv n (startP n s) := DInv.relax (s := ⟨_, _, _⟩) ⟨by simp, by simp, by simp⟩ _ _ _
theorem foldl_take {α β : Type} (f : β → α → β) (b : β) (r : List α) (j : Nat) (h : j < r.length) : (r.take (j + 1)).foldl f b = f ((r.take j).foldl f b) r[j] := by
  rw [List.take_succ_eq_append_getElem h, List.foldl_append]
  rfl
end Go.Proofs.Ytofhgmdehglhgaa.PAll
namespace Go.Proofs.Ytofhgmdehglhgaa.PAll
open Go.RowKit Go.Proofs.YtofhgmdehglhgaaW.PrintWords Go.Proofs.YtofhgmdehglhgaaW.PrintLast Go.Proofs.YtofhgmdehglhgaaW.PrintMore
set_option linter.unusedVariables false
set_option linter.unusedSimpArgs false
attribute [local irreducible] Calls

/-- R holds of what was made since w0. -/
def LA (R : Apart) (w0 w : World) : Prop := R w (fun k => w0.heap.size ≤ k) ∧ Below w0.heap.size w0 w
section
variable {R R' : Apart} {w0 w w1 : World} {g g2 : Nat} {u u2 : Value} {e e2 : Nat} {α β : Type} {d : Kd α} {d2 : Kd β} {v v2 : Value} {xs : List α} {ys : List β} {b : Nat}
theorem LA.weaken (h : LA R w0 w) (hw : ∀ w ok, R w ok → R' w ok) : LA R' w0 w := ⟨hw _ _ h.1, h.2⟩
theorem LA.step_below (hR : Stay R) (h : LA R w0 w) (hb : Below w.heap.size w w1) : LA R w0 w1 := ⟨hR.mono (hR.below h.1 hb) (fun k hk => hk.1), below_then h.2 h.2.size hb⟩
theorem LA.allocT (hR : Stay R) (h : LA R w0 w) (hb : Below w.heap.size w w1) (hg : g = w.heap.size) (hc : w1.heap[g]? = some (.cells #[u] e (0, 0))) : LA (AndT R g u e) w0 w1 :=
  ⟨⟨hR.mono (hR.below h.1 hb) (fun k hk => ⟨hk.1, by have := hk.2; omega⟩), by rw [hg]; exact h.2.size, hc⟩, below_then h.2 h.2.size hb⟩
theorem LA.made (hR : Stay R) (h : LA R w0 w) (hb : Below w.heap.size w w1) (ho : d.R e w1 w0.heap.size (fun k => w.heap.size ≤ k) v xs) : LA (OwnK d e w0.heap.size v xs R) w0 w1 :=
  ⟨⟨fun k => w.heap.size ≤ k, Kd.R_mono ho (fun k hk => ⟨Nat.le_trans h.2.size hk, hk⟩), hR.mono (hR.below h.1 hb) (fun k hk => ⟨hk.1, by have := hk.2; omega⟩)⟩, below_then h.2 h.2.size hb⟩
theorem own_own (hR : Stay R) {w : World} {ok : Nat → Prop} (h : OwnK d e b v xs (OwnK d2 e2 b v2 ys R) w ok) : OwnK d2 e2 b v2 ys (OwnK d e b v xs R) w ok := by
  obtain ⟨Q1, h1, Q2, h2, h3⟩ := h
  exact ⟨fun k => ¬ Q1 k ∧ Q2 k, Kd.R_mono h2 (fun k hk => ⟨hk.1.1, hk.1.2, hk.2⟩), Q1, Kd.R_mono h1 (fun k hk => ⟨⟨hk.1, fun h => h.1 hk.2⟩, hk.2⟩), hR.mono h3 (fun k hk => ⟨⟨hk.1.1, fun h => hk.2 h.2⟩, hk.1.2⟩)⟩
theorem box_own (hR : Stay R) {w : World} {ok : Nat → Prop} (h : AndT (OwnK d e b v xs R) g u e2 w ok) : OwnK d e b v xs (AndT R g u e2) w ok := by
  obtain ⟨⟨Q, h1, h2⟩, h3, h4⟩ := h
  exact ⟨fun k => Q k ∧ k ≠ g, Kd.R_mono h1 (fun k hk => ⟨hk.1.1, hk.2, hk.1.2⟩), hR.mono h2 (fun k hk => ⟨⟨hk.1.1, fun h => hk.2 h.1⟩, hk.1.2⟩), ⟨h3, fun h => h.2 rfl⟩, h4⟩
theorem own_box (hR : Stay R) {w : World} {ok : Nat → Prop} (h : OwnK d e b v xs (AndT R g u e2) w ok) : AndT (OwnK d e b v xs R) g u e2 w ok := by
  obtain ⟨Q, h1, h2, ⟨h3, h5⟩, h4⟩ := h
  exact ⟨⟨Q, Kd.R_mono h1 (fun k hk => ⟨⟨hk.1, fun e => h5 (by rw [← e]; exact hk.2)⟩, hk.2⟩), hR.mono h2 (fun k hk => ⟨⟨hk.1.1, hk.2⟩, hk.1.2⟩)⟩, h3, h4⟩
theorem box_box (hR : Stay R) {w : World} {ok : Nat → Prop} (h : AndT (AndT R g u e) g2 u2 e2 w ok) : AndT (AndT R g2 u2 e2) g u e w ok := by
  obtain ⟨⟨h1, ⟨h2, h6⟩, h3⟩, h4, h5⟩ := h
  exact ⟨⟨hR.mono h1 (fun k hk => ⟨⟨hk.1.1, hk.2⟩, hk.1.2⟩), ⟨h4, fun e => h6 e.symm⟩, h5⟩, h2, h3⟩
/-- Beneath a row, beneath a box. -/
theorem under_own {w : World} {ok : Nat → Prop} (h : OwnK d e b v xs R w ok) (hw : ∀ w ok, R w ok → R' w ok) : OwnK d e b v xs R' w ok := by
  obtain ⟨Q, h1, h2⟩ := h
  exact ⟨Q, h1, hw _ _ h2⟩
theorem under_box {w : World} {ok : Nat → Prop} (h : AndT R g u e w ok) (hw : ∀ w ok, R w ok → R' w ok) : AndT R' g u e w ok := ⟨hw _ _ h.1, h.2⟩
/-- The lists' rows, and the graph's box. -/
def LX (b : Nat) (vl : Value) (ll : List (List Int)) (g4 : Nat) (cs : Array Value) : Apart := fun w ok => ∃ Q : Nat → Prop, Kd.S (Kd.slice 3 (Kd.int .i64)) 25 w b (fun k => ok k ∧ Q k) vl ll ∧ (ok g4 ∧ ¬ Q g4) ∧ w.heap[g4]? = some (.cells cs 24 (0, 0))
theorem stay_lx (b : Nat) (vl : Value) (ll : List (List Int)) (g4 : Nat) (cs : Array Value) : Stay (LX b vl ll g4 cs) :=
  ⟨fun ⟨Q, h1, h2, h3⟩ hm => ⟨Q, Kd.S_mono h1 (fun k hk => ⟨hm k hk.1, hk.2⟩), ⟨hm g4 h2.1, h2.2⟩, h3⟩,
   fun ⟨Q, h1, h2, h3⟩ hk hs => ⟨Q, Kd.S_mono (Kd.S_keptB h1 hk (fun k h => hs k h.1)) (fun k h => ⟨⟨h.1.1, h.2⟩, h.1.2⟩), ⟨⟨h2.1, hs g4 h2.1, blk_lt h3⟩, h2.2⟩, (hk.2 g4 (blk_lt h3) (hs g4 h2.1)).trans h3⟩⟩
end
section
variable {P : Program} {md : Region.Mode} {ops : Array Oper} {Q : Exit → Act → World → Prop} {S : World → Prop} {ds : List Nat}
/-- Four operations that write or call may come up. -/
theorem four_ {i j k m : Nat} {Ni Nj Nk Nm : Option Tmp} {oi oj ok om : Oper} {fuel : Nat} {l : Array Bool} {a : Act} {w : World} (li lj lk lm : Array Bool) (hi : ops[i]? = some oi) (hj : ops[j]? = some oj) (hk : ops[k]? = some ok) (hm : ops[m]? = some om) (hNi : oi.dst = Ni) (hNj : oj.dst = Nj) (hNk : ok.dst = Nk) (hNm : om.dst = Nm)
    (hc : (Region.ready md ops l == [i, j, k, m] && l.setIfInBounds i true == li && l.setIfInBounds j true == lj && l.setIfInBounds k true == lk && l.setIfInBounds m true == lm) = true) (hdi : i ∉ ds) (hdj : j ∉ ds) (hdk : k ∉ ds) (hdm : m ∉ ds)
    (h1 : ∀ K : Act → World → Prop, Shut (∀ a' w', S w' → (S w' → wpAnyLast P md ops Q S ds fuel li a' w') → K a' w') → if Region.wanted oi (yielded ops a.tmps) = true then Oper.wp P oi a w K Q else K (a.put Ni undef) w)
    (h2 : ∀ K : Act → World → Prop, Shut (∀ a' w', S w' → (S w' → wpAnyLast P md ops Q S ds fuel lj a' w') → K a' w') → if Region.wanted oj (yielded ops a.tmps) = true then Oper.wp P oj a w K Q else K (a.put Nj undef) w)
    (h3 : ∀ K : Act → World → Prop, Shut (∀ a' w', S w' → (S w' → wpAnyLast P md ops Q S ds fuel lk a' w') → K a' w') → if Region.wanted ok (yielded ops a.tmps) = true then Oper.wp P ok a w K Q else K (a.put Nk undef) w)
    (h4 : ∀ K : Act → World → Prop, Shut (∀ a' w', S w' → (S w' → wpAnyLast P md ops Q S ds fuel lm a' w') → K a' w') → if Region.wanted om (yielded ops a.tmps) = true then Oper.wp P om a w K Q else K (a.put Nm undef) w) :
    wpAnyLast P md ops Q S ds (fuel + 1) l a w := by
  subst hNi
  subst hNj
  subst hNk
  subst hNm
  simp only [Bool.and_eq_true, beq_iff_eq] at hc
  obtain ⟨⟨⟨⟨h5, h6⟩, h7⟩, h8⟩, h9⟩ := hc
  subst h6
  subst h7
  subst h8
  subst h9
  exact wpAnyLast_ready h5 (by simp) (AllReadyL.cons hi hdi (fun K hK => h1 K hK) (AllReadyL.cons hj hdj (fun K hK => h2 K hK) (AllReadyL.cons hk hdk (fun K hK => h3 K hK) (AllReadyL.cons hm hdm (fun K hK => h4 K hK) AllReadyL.nil))))
end
/-- The graph's box is seen from outside. -/
def HasC (R : Apart) (g : Nat) (cs : Array Value) : Prop := ∀ w ok, R w ok → w.heap[g]? = some (.cells cs 24 (0, 0))
theorem has_lx (b : Nat) (vl : Value) (ll : List (List Int)) (g4 : Nat) (cs : Array Value) : HasC (LX b vl ll g4 cs) g4 cs := fun w ok h => by
  obtain ⟨Q, h1, h2, h3⟩ := h
  exact h3
theorem has_own {α : Type} {d : Kd α} {e b : Nat} {v : Value} {xs : List α} {R : Apart} {g : Nat} {cs : Array Value} (h : HasC R g cs) : HasC (OwnK d e b v xs R) g cs := fun w ok hq => by
  obtain ⟨Q, h1, h2⟩ := hq
  exact h _ _ h2
theorem has_box {R : Apart} {g : Nat} {cs : Array Value} {g2 e : Nat} {u : Value} (h : HasC R g cs) : HasC (AndT R g2 u e) g cs := fun w ok hq => h _ _ hq.1
theorem lx_cell {R : Apart} {w0 w : World} {g : Nat} {u v : Value} (h : HasC R g #[u, v]) (hq : LA R w0 w) : w.cell? ⟨g, 0, none⟩ = some u := (blk_cell (h _ _ hq.1) 0).trans rfl
theorem LA.lx {w w1 w2 : World} {vl : Value} {ll : List (List Int)} {g4 : Nat} {cs : Array Value} (hS : Kd.S (Kd.slice 3 (Kd.int .i64)) 25 w2 w1.heap.size (fun _ => True) vl ll) (hg : w.heap.size ≤ g4) (hg1 : g4 < w1.heap.size) (hb : w2.heap[g4]? = some (.cells cs 24 (0, 0))) (hB : Below w.heap.size w w2) (h1 : w.heap.size ≤ w1.heap.size) : LA (LX w1.heap.size vl ll g4 cs) w w2 :=
  ⟨⟨fun k => w1.heap.size ≤ k, Kd.S_mono (Kd.S_bound hS) (fun k hk => ⟨Nat.le_trans h1 hk.2.1, hk.2.1⟩), ⟨hg, by omega⟩, hb⟩, hB⟩
end Go.Proofs.Ytofhgmdehglhgaa.PAll
namespace Go.Proofs.Ytofhgmdehglhgaa.PAll
open Go.RowKit Go.Proofs.YtofhgmdehglhgaaW.PrintWords Go.Proofs.YtofhgmdehglhgaaW.PrintLast Go.Proofs.YtofhgmdehglhgaaW.PrintMore
set_option linter.unusedVariables false
set_option linter.unusedSimpArgs false
attribute [local irreducible] Calls

section
variable {R R' : Apart} {w0 w w1 : World} {g g2 : Nat} {u v u2 : Value} {e e2 : Nat} {α β : Type} {d : Kd α} {vv : Value} {xs : List α} {b : Nat}
/-- A box beneath R is written, R' holds then. -/
def SetB (R R' : Apart) (g : Nat) (u : Value) : Prop := ∀ w ok, R w ok → ok g ∧ R' (w.setCell ⟨g, 0, none⟩ u) ok
theorem setB_here (hR : Stay R) : SetB (AndT R g v e) (AndT R g u e) g u := fun w ok h => by
  obtain ⟨h1, h2, h3⟩ := h
  refine ⟨h2, hR.mono (hR.kept (S := fun k => k = g) h1 (Kept.setCell (p := ⟨g, 0, none⟩) (Kept.refl w (fun k => k = g)) (.inl rfl) u) (fun k hk => hk.2)) (fun k hk => hk.1), h2, ?_⟩
  have := blk_set h3 0 u
  simpa using this
theorem setB_own (h : SetB R R' g u) : SetB (OwnK d e b vv xs R) (OwnK d e b vv xs R') g u := fun w ok hq => by
  obtain ⟨Q, h1, h2⟩ := hq
  obtain ⟨h3, h4⟩ := h _ _ h2
  exact ⟨h3.1, Q, Kd.R_far (p := ⟨g, 0, none⟩) h1 (fun k hk he => h3.2 (by rw [← (show k = g from he)]; exact hk.2)) u, h4⟩
theorem setB_box (h : SetB R R' g u) : SetB (AndT R g2 u2 e2) (AndT R' g2 u2 e2) g u := fun w ok hq => by
  obtain ⟨h1, h2, h3⟩ := hq
  obtain ⟨h4, h5⟩ := h _ _ h1
  exact ⟨h4.1, h5, h2, blk_far (p := ⟨g, 0, none⟩) h3 (fun he => h4.2 he.symm) u⟩
theorem LA.setB (h : SetB R R' g u) (hq : LA R w0 w) : LA R' w0 (w.setCell ⟨g, 0, none⟩ u) :=
  ⟨(h _ _ hq.1).2, below_set hq.2 (h _ _ hq.1).1⟩
/-- What a box holds is seen from outside. -/
def HasB (R : Apart) (g : Nat) (u : Value) (e : Nat) : Prop := ∀ w ok, R w ok → w.heap[g]? = some (.cells #[u] e (0, 0))
theorem hasB_here : HasB (AndT R g u e) g u e := fun w ok h => h.2.2
theorem hasB_own (h : HasB R g u e) : HasB (OwnK d e2 b vv xs R) g u e := fun w ok hq => by
  obtain ⟨Q, h1, h2⟩ := hq
  exact h _ _ h2
theorem hasB_box (h : HasB R g u e) : HasB (AndT R g2 u2 e2) g u e := fun w ok hq => h _ _ hq.1
theorem LA.cellB (h : HasB R g u e) (hq : LA R w0 w) : w.cell? ⟨g, 0, none⟩ = some u := (blk_cell (h _ _ hq.1) 0).trans rfl
theorem LA.frozenB (h : HasB R g u e) (hq : LA R w0 w) : w.frozen? ⟨g, 0, none⟩ = false := blk_frozen (h _ _ hq.1) 0
theorem store_sl {w : World} {g : Nat} {z u : Value} (hz : ∃ A n c, z = .slice A n c) (y0 : w.cell? ⟨g, 0, none⟩ = some u) (y1 : w.frozen? ⟨g, 0, none⟩ = false) : (Instr.storeAt 25 (.pointer (some ⟨g, 0, none⟩)) z).run Try.prog w = .ok () (w.setCell ⟨g, 0, none⟩ z) := by
  obtain ⟨A, n, c, rfl⟩ := hz
  first | (go_simp; done) | (go_simp; rfl)
theorem LA.isSl (h : LA (OwnK d e w0.heap.size vv xs R) w0 w) : ∃ A n c, vv = .slice A n c := by
  obtain ⟨⟨Q, h1, h2⟩, h3⟩ := h
  obtain ⟨A, c, e⟩ := Kd.R_slice h1
  exact ⟨A, _, c, e⟩
theorem LA.isSl2 {d2 : Kd β} {v2 : Value} {ys : List β} (h : LA (OwnK d2 e2 w0.heap.size v2 ys (OwnK d e w0.heap.size vv xs R)) w0 w) : ∃ A n c, vv = .slice A n c := by
  obtain ⟨⟨Q, h1, Q2, h2, h4⟩, h3⟩ := h
  obtain ⟨A, c, e⟩ := Kd.R_slice h2
  exact ⟨A, _, c, e⟩
theorem LA.rowK (h : LA (OwnK d e w0.heap.size vv xs R) w0 w) : ∃ ok, d.R e w w0.heap.size ok vv xs := by
  obtain ⟨⟨Q, h1, h2⟩, h3⟩ := h
  exact ⟨_, h1⟩
theorem LA.setd {gd cd n : Nat} {dl : List Int} (hR : Stay R) (h : LA (OwnK (Kd.int .i64) 3 w0.heap.size (.slice (some ⟨gd, 0, none⟩) n cd) dl R) w0 w) (i x : Int) :
    LA (OwnK (Kd.int .i64) 3 w0.heap.size (.slice (some ⟨gd, 0, none⟩) n cd) (dl.set i.toNat x) R) w0 (w.setCell ⟨gd, i.toNat, none⟩ (.int .i64 x)) := by
  obtain ⟨⟨Q1, h2, h3⟩, h4⟩ := h
  have o1 := h2.1 gd rfl
  obtain ⟨u1, u2⟩ := Kd.R_putg h2 i x
  have hk : Kept w (w.setCell ⟨gd, i.toNat, none⟩ (.int .i64 x)) (fun j => j = gd) := ⟨u2.size, fun j hl hn => u2.block j hl (fun e => hn (by cases e; rfl))⟩
  exact ⟨⟨Q1, u1, hR.mono (hR.kept h3 hk (fun j hj e => hj.2 (by rw [e]; exact o1.2))) (fun j hj => hj.1)⟩, h4.grown u2 h4.size (fun j e => by cases e; exact (Kd.R_bound h2).1 gd rfl |>.2.1)⟩
theorem LA.form (h : LA (OwnK d e w0.heap.size vv xs R) w0 w) (hn : 0 < xs.length) : ∃ g c, vv = .slice (some ⟨g, 0, none⟩) xs.length c := by
  obtain ⟨⟨Q, h1, h2⟩, h3⟩ := h
  obtain ⟨g, c, e, _⟩ := Kd.R_form h1 hn
  exact ⟨g, c, e⟩
theorem LA.form2 {d2 : Kd β} {v2 : Value} {ys : List β} (h : LA (OwnK d2 e2 w0.heap.size v2 ys (OwnK d e w0.heap.size vv xs R)) w0 w) (hn : 0 < xs.length) : ∃ g c, vv = .slice (some ⟨g, 0, none⟩) xs.length c := by
  obtain ⟨⟨Q, h1, Q2, h2, h4⟩, h3⟩ := h
  obtain ⟨g, c, e, _⟩ := Kd.R_form h2 hn
  exact ⟨g, c, e⟩
end
/-- The blocks from b on are as they were in h. -/
def SX (b : Nat) (h : Array Obj) : Apart := fun w ok => ∀ k, b ≤ k → k < h.size → ok k ∧ w.heap[k]? = h[k]?
theorem stay_sx (b : Nat) (h : Array Obj) : Stay (SX b h) := by
  refine ⟨fun h1 hm k hb hk => ⟨hm k (h1 k hb hk).1, (h1 k hb hk).2⟩, fun {w w1 ok S} h1 hk hs k hb hl => ?_⟩
  obtain ⟨h2, h3⟩ := h1 k hb hl
  have hlt : k < w.heap.size := by
    rw [Array.getElem?_eq_getElem hl] at h3
    exact (Array.getElem?_eq_some_iff.1 h3).1
  exact ⟨⟨h2, hs k h2, hlt⟩, (hk.2 k hlt (hs k h2)).trans h3⟩
theorem has_sx {b : Nat} {h : Array Obj} {g : Nat} {cs : Array Value} (hg : h[g]? = some (.cells cs 24 (0, 0))) (hb : b ≤ g) : HasC (SX b h) g cs := fun w ok hq => (hq g hb (Array.getElem?_eq_some_iff.1 hg).1).2.trans hg
theorem LA.sx {w w2 : World} (hB : Below w.heap.size w w2) : LA (SX w.heap.size w2.heap) w w2 := ⟨fun k h1 h2 => ⟨h1, rfl⟩, hB⟩
/-- Both rows and both boxes. -/
def RR (b gd cd gv cv n : Nat) (dl vl : List Int) (g1 g2 : Nat) (X : Apart) : Apart :=
  OwnK (Kd.int .i64) 3 b (.slice (some ⟨gd, 0, none⟩) n cd) dl (OwnK (Kd.int .i64) 3 b (.slice (some ⟨gv, 0, none⟩) n cv) vl (AndT (AndT X g2 (.slice (some ⟨gv, 0, none⟩) n cv) 25) g1 (.slice (some ⟨gd, 0, none⟩) n cd) 25))
theorem stay_rr {b gd cd gv cv n g1 g2 : Nat} {dl vl : List Int} {X : Apart} (hX : Stay X) : Stay (RR b gd cd gv cv n dl vl g1 g2 X) :=
  stay_own _ _ _ _ _ (stay_own _ _ _ _ _ (stay_andT (stay_andT hX _ _ _) _ _ _))
structure RRf (w w0 : World) (gd cd gv cv n : Nat) (dl vl : List Int) (g1 g2 : Nat) : Prop where
  b1 : w.cell? ⟨g1, 0, none⟩ = some (.slice (some ⟨gd, 0, none⟩) n cd)
  b2 : w.cell? ⟨g2, 0, none⟩ = some (.slice (some ⟨gv, 0, none⟩) n cv)
  ne : gd ≠ gv ∧ g1 ≠ gd ∧ g1 ≠ gv ∧ g2 ≠ gd ∧ g2 ≠ gv
  rd_ : ∀ i : Int, 0 ≤ i → i < n → w.cell? ⟨gd, i.toNat, none⟩ = some (.int .i64 (rd dl i)) ∧ w.frozen? ⟨gd, i.toNat, none⟩ = false
  rv_ : ∀ i : Int, 0 ≤ i → i < n → w.cell? ⟨gv, i.toNat, none⟩ = some (.int .i64 (rd vl i)) ∧ w.frozen? ⟨gv, i.toNat, none⟩ = false
theorem LA.rrf {w0 w : World} {gd cd gv cv n g1 g2 : Nat} {dl vl : List Int} {X : Apart} (h : LA (RR w0.heap.size gd cd gv cv n dl vl g1 g2 X) w0 w) : RRf w w0 gd cd gv cv n dl vl g1 g2 := by
  obtain ⟨⟨Q1, h2, Q2, h3, ⟨⟨_, p1, c1⟩, p2, c2⟩⟩, h5⟩ := h
  have o1 := h2.1 gd rfl
  have o2 := h3.1 gv rfl
  refine ⟨(blk_cell c2 0).trans rfl, (blk_cell c1 0).trans rfl, ⟨?_, ?_, ?_, ?_, ?_⟩, fun i h0 h1 => Kd.R_celln 0 h2 i h0 h1, fun i h0 h1 => Kd.R_celln 0 h3 i h0 h1⟩
  · intro e; exact o2.1.2 (e ▸ o1.2)
  · intro e; exact p2.1.2 (e ▸ o1.2)
  · intro e; exact p2.2 (e ▸ o2.2)
  · intro e; exact p1.1.1.2 (e ▸ o1.2)
  · intro e; exact p1.1.2 (e ▸ o2.2)
/-- A row's first i numbers are a, the rest 0. -/
def fillTo (n i : Nat) (a : Int) : List Int := List.replicate i a ++ List.replicate (n - i) 0
theorem fillTo_zero (n : Nat) (a : Int) : fillTo n 0 a = List.replicate n 0 := rfl
theorem fillTo_all (n : Nat) (a : Int) : fillTo n n a = List.replicate n a := by unfold fillTo; rw [Nat.sub_self]; simp
theorem fillTo_set {n i : Nat} (h : i < n) (a : Int) : (fillTo n i a).set i a = fillTo n (i + 1) a := by
  unfold fillTo
  rw [List.set_append_right _ _ (by simp), List.length_replicate, Nat.sub_self, show n - i = (n - (i + 1)) + 1 by omega, List.replicate_succ, List.set_cons_zero, List.replicate_succ', List.append_assoc]
  rfl
end Go.Proofs.Ytofhgmdehglhgaa.PAll
namespace Go.Proofs.Ytofhgmdehglhgaa.PAll
open Go.RowKit Go.Proofs.YtofhgmdehglhgaaW.PrintWords Go.Proofs.YtofhgmdehglhgaaW.PrintLast Go.Proofs.YtofhgmdehglhgaaW.PrintMore
set_option linter.unusedVariables false
set_option linter.unusedSimpArgs false
attribute [local irreducible] Calls

set_option maxHeartbeats 16000000 in
set_option maxRecDepth 1000000 in
theorem far57 (w : World) (a b : Int) : Calls Try.prog 57 #[.agg #[], .agg #[.int .i64 a, .int .i64 b]] w fun e w' => e = .returned (.int .i64 b) ∧ Below w.heap.size w w' := by
  have HB := Aside0.mk (Below.refl w.heap.size w)
  go_enter Try.func57, Try.ntmps57
  go_wp2
  go_ret
  exact ⟨rfl, by repeat (first | (with_reducible first | exact HB.out | apply below_alloc | apply pw_below_drewN | apply below_drew1) | exact HB.out)⟩
set_option maxHeartbeats 16000000 in
set_option maxRecDepth 1000000 in
theorem far58 (w : World) (a b : Int) : Calls Try.prog 58 #[.agg #[], .agg #[.int .i64 a, .int .i64 b]] w fun e w' => e = .returned (.int .i64 a) ∧ Below w.heap.size w w' := by
  have HB := Aside0.mk (Below.refl w.heap.size w)
  go_enter Try.func58, Try.ntmps58
  go_wp2
  go_ret
  exact ⟨rfl, by repeat (first | (with_reducible first | exact HB.out | apply below_alloc | apply pw_below_drewN | apply below_drew1) | exact HB.out)⟩
theorem ta52 (w : World) : (Instr.typeAssert (.iface 52 (.agg #[])) 62 56 true).run Try.prog w = .ok (.tuple #[.agg #[], .bool false]) w := by kernel_rfl
theorem ta56 (w : World) : (Instr.typeAssert (.iface 56 (.agg #[])) 62 56 true).run Try.prog w = .ok (.tuple #[.agg #[], .bool true]) w := by kernel_rfl
theorem Out_walk {n : Nat} {l0 : List S40} (hg : gchk n l0 = 0) (A0 : Option Addr) (c0 : Nat) (w : World) (hr0 : Kd.C k40 w A0 l0.length l0) (hc0 : l0.length ≤ c0) :
    Calls Try.prog 28 #[.agg #[.int .i64 (n : Int), .slice A0 l0.length c0]] w fun e w' => ∃ v0_ : Value, e = .returned v0_ ∧ Kd.S (Kd.slice 3 (Kd.int .i64)) 25 w' w.heap.size (fun _ => True) v0_ (outAt n l0 l0.length) ∧ Below w.heap.size w w' := by
  obtain ⟨k, hk⟩ := graph_Out_ev hg
  exact graph_Out.calls k n A0 c0 l0 _ w hr0 hc0 hk
theorem In_walk {n : Nat} {l0 : List S40} (hg : gchk n l0 = 0) (A0 : Option Addr) (c0 : Nat) (w : World) (hr0 : Kd.C k40 w A0 l0.length l0) (hc0 : l0.length ≤ c0) :
    Calls Try.prog 29 #[.agg #[.int .i64 (n : Int), .slice A0 l0.length c0]] w fun e w' => ∃ v0_ : Value, e = .returned v0_ ∧ Kd.S (Kd.slice 3 (Kd.int .i64)) 25 w' w.heap.size (fun _ => True) v0_ (outAt n (l0.map sw40) l0.length) ∧ Below w.heap.size w w' := by
  obtain ⟨k, hk⟩ := graph_In_ev hg
  exact graph_In.calls k n A0 c0 l0 _ w hr0 hc0 hk
theorem na52 (w : World) : (nilAhead 196 52 (.agg #[]) "mapmaker/dijkstra.far").run Try.prog w = .ok (some false) w := by kernel_rfl
theorem na56 (w : World) : (nilAhead 196 56 (.agg #[]) "mapmaker/dijkstra.far").run Try.prog w = .ok (some false) w := by kernel_rfl
section
variable {R : Apart} {w0 w w1 w2 : World} {v : Value} {m : List (Option Int)} {b gd cd gv cv n g1 g2 g3 : Nat} {dl vl : List Int} {q : Value} {X : Apart}
theorem LA.toLQ (hR : Stay R) (h : LA R w0 w) (hq : QR w1 w0.heap.size (fun k => w.heap.size ≤ k) v m) (hb : Below w.heap.size w w1) : LQ R w0 w1 v m :=
  ⟨fun k => w.heap.size ≤ k, hq, hR.mono (hR.below h.1 hb) (fun k hk => by have := hk.2; omega), below_then h.2 h.2.size hb⟩
theorem LQ.toRX (hX : Stay X) (h : LQ (AndT (RR w0.heap.size gd cd gv cv n dl vl g1 g2 X) g3 q 66) w0 w v m) : LQ (RX w0.heap.size gd cd gv cv n dl vl g1 g2 g3 q X) w0 w v m :=
  h.weaken fun w ok h => under_own (box_own (stay_own _ _ _ _ _ (stay_andT (stay_andT hX _ _ _) _ _ _)) h) (fun w ok h => under_own (box_own (stay_andT (stay_andT hX _ _ _) _ _ _) h) (fun w ok h => under_box h (fun w ok h => box_box hX h)))
/-- What the rest of the heap is, seen through a queue. -/
theorem LQ.same {hp : Array Obj} (h : LQ (RX w0.heap.size gd cd gv cv n dl vl g1 g2 g3 q (SX w0.heap.size hp)) w0 w v m) : ∀ k, w0.heap.size ≤ k → k < hp.size → w.heap[k]? = hp[k]? := by
  obtain ⟨PT, h1, ⟨Q1, h2, Q2, h3, ⟨⟨⟨h4, _⟩, _⟩, _⟩⟩, h5⟩ := h
  exact fun k a b => (h4 k a b).2
theorem LQ.ends (h : LQ (RX w0.heap.size gd cd gv cv n dl vl g1 g2 g3 q X) w0 w v m) : Kd.R (Kd.int .i64) 3 w w0.heap.size (fun _ => True) (.slice (some ⟨gd, 0, none⟩) n cd) dl ∧ Kd.R (Kd.int .i64) 3 w w0.heap.size (fun k => some k ≠ (Value.slice (some ⟨gd, 0, none⟩) n cd).ownBlock) (.slice (some ⟨gv, 0, none⟩) n cv) vl ∧ Below w0.heap.size w0 w := by
  obtain ⟨PT, h1, ⟨Q1, h2, Q2, h3, _⟩, h5⟩ := h
  have o1 := h2.1 gd rfl
  exact ⟨Kd.R_mono h2 (fun _ _ => trivial), Kd.R_mono h3 (fun k hk he => by
    have e : k = gd := by simpa [Value.ownBlock] using he
    exact hk.1.2 (by rw [e]; exact o1.2)), h5⟩
theorem cell_same {a : Addr} (h : w.heap[a.block]? = w1.heap[a.block]?) : w.cell? a = w1.cell? a := by
  unfold World.cell?
  rw [h]
theorem rowF {g n c j : Nat} {base : Nat} {ok : Nat → Prop} {row : List Int} (h : Kd.R (Kd.int .i64) 3 w base ok (.slice (some ⟨g, 0, none⟩) n c) row) (hj : j < n) : w.cell? ⟨g, j, none⟩ = some (.int .i64 (rd row (j : Int))) := by
  have := (Kd.R_celln (0 : Int) h (j : Int) (Int.natCast_nonneg _) (by omega)).1
  rw [Int.toNat_natCast] at this
  exact this
/-- One list: where its head lies, and its row. -/
theorem list_at {gl cl : Nat} {ll : List (List Int)} {n : Nat} (hL : Kd.S (Kd.slice 3 (Kd.int .i64)) 25 w2 b (fun _ => True) (.slice (some ⟨gl, 0, none⟩) n cl) ll) (i : Int) (h0 : 0 ≤ i) (h1 : i < n) :
    b ≤ gl ∧ gl < w2.heap.size ∧ ∃ A c ok, Kd.R (Kd.int .i64) 3 w2 b ok (.slice A (rd_L4 ll i).length c) (rd_L4 ll i) ∧ w2.cell? ⟨gl, i.toNat, none⟩ = some (.slice A (rd_L4 ll i).length c) := by
  have hr := Kd.S_R hL
  obtain ⟨c, hcl, hM, hcc, _⟩ := Kd.R_elem hr ([] : List Int) i h0 h1
  obtain ⟨u, rfl, hu⟩ := hM
  obtain ⟨A, c2, e⟩ := Kd.R_slice hu
  have hb := (Kd.R_bound hr).1 gl rfl
  refine ⟨hb.2.1, hb.2.2.1, A, c2, fun k => True ∧ k ≠ gl, ?_, ?_⟩
  · rw [e] at hu
    exact hu
  · have := hcc 0 u rfl
    rw [show i.toNat * (Kd.slice 3 (Kd.int .i64)).sz + 0 = i.toNat by show i.toNat * 1 + 0 = i.toNat; omega] at this
    rw [this]
    exact congrArg some e
/-- The list's row in a later world. -/
theorem row_later {A : Option Addr} {c : Nat} {row : List Int} {ok : Nat → Prop} (hr : Kd.R (Kd.int .i64) 3 w2 b ok (.slice A row.length c) row) (hs : ∀ k, b ≤ k → k < w2.heap.size → w.heap[k]? = w2.heap[k]?) (j : Nat) (hj : j < row.length) :
    ∃ g, A = some ⟨g, 0, none⟩ ∧ w.cell? ⟨g, j, none⟩ = some (.int .i64 (rd row (j : Int))) := by
  obtain ⟨g, c', e, _⟩ := Kd.R_form hr (by omega)
  injection e with e1 e2 e3
  subst e1
  have h2 := Kd.R_move (w1 := w) (Kd.R_bound hr) (fun k hk => hs k hk.2.1 hk.2.2.1)
  exact ⟨g, rfl, rowF h2 hj⟩
end
end Go.Proofs.Ytofhgmdehglhgaa.PAll
