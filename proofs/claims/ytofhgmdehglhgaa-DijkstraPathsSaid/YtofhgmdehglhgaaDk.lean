/- What From and To give, as a function; its rounds. dijkstra.Path. -/
import Derived.Test.YtofhgmdehglhgaaDh
import Derived.Test.YtofhgmdehglhgaaDjr
import Derived.Test.YtofhgmdehglhgaaPAllx8
namespace Go.Proofs.Ytofhgmdehglhgaa.PAll
open Go.RowKit Go.Proofs.YtofhgmdehglhgaaW.PrintWords Go.Proofs.YtofhgmdehglhgaaW.PrintLast Go.Proofs.YtofhgmdehglhgaaW.PrintMore
set_option linter.unusedVariables false
set_option linter.unusedSimpArgs false
attribute [local irreducible] Calls

theorem runP_mono (n : Nat) (l : List S40) (x : List Int) (back : Bool) : ∀ (k : Nat) (s : DS), LeO (runP n l x back k s) (runP n l x back (k + 1) s)
  | 0, s => LeO.none _
  | k + 1, s => by
    unfold runP
    split
    · exact runP_mono n l x back k _
    · exact LeO.refl _
def distP (back : Bool) (k : Nat) (n : Int) (l : List S40) (x : List Int) (s : Int) : Option (List Int × Int) :=
  if dchk n l x = 0 then (if s < 0 ∨ n ≤ s then some ([], 2) else (runP n.toNat l x back k (startP n.toNat s)).bind fun r => some (r.d, 0)) else some ([], dchk n l x)
theorem distP_mono (back : Bool) (n : Int) (l : List S40) (x : List Int) (s : Int) (k : Nat) : LeO (distP back k n l x s) (distP back (k + 1) n l x s) := by
  unfold distP
  split
  · split
    · exact LeO.refl _
    · exact LeO.bind (runP_mono _ _ _ _ _ _) (fun _ => LeO.refl _)
  · exact LeO.refl _
theorem dchk_zero {n : Int} {l : List S40} {x : List Int} (h : dchk n l x = 0) : gchk n l = 0 ∧ x.length = l.length := by
  unfold dchk at h
  split at h
  · rename_i c
    split at h
    · rename_i c2
      exact ⟨c, c2⟩
    · cases h
  · exact absurd h (by assumption)
end Go.Proofs.Ytofhgmdehglhgaa.PAll
namespace Go.Proofs.Ytofhgmdehglhgaa.PAll
open Go.RowKit Go.Proofs.YtofhgmdehglhgaaW.PrintWords Go.Proofs.YtofhgmdehglhgaaW.PrintLast Go.Proofs.YtofhgmdehglhgaaW.PrintMore
set_option linter.unusedVariables false
set_option linter.unusedSimpArgs false
attribute [local irreducible] Calls

theorem runP_inv {n : Nat} {l : List S40} {x : List Int} {back : Bool} : ∀ (k : Nat) {s r : DS}, DInv n s → runP n l x back k s = some r → DInv n r
  | 0, _, _, _, h => by simp [runP] at h
  | k + 1, s, r, hi, h => by
    unfold runP at h
    split at h
    · exact runP_inv k (DInv.arcs l x back _ _ hi.pop) h
    · rw [← Option.some.inj h]
      exact hi
/-- The arcs by which t was reached, the last one first. -/
def viaP (l : List S40) (via : List Int) : Nat → Int → List Int → Option (List Int)
  | 0, _, _ => none
  | k + 1, v, out => if 0 ≤ v then (if v < (via.length : Int) then (if 0 ≤ rd via v then (if rd via v < (l.length : Int) then (if out.length < 17592186044416 then viaP l via k (rd_T40 l (rd via v)).f0 (out ++ [rd via v]) else none) else none) else some out) else none) else none
theorem viaP_mono (l : List S40) (via : List Int) : ∀ (k : Nat) (v : Int) (out : List Int), LeO (viaP l via k v out) (viaP l via (k + 1) v out)
  | 0, v, out => LeO.none _
  | k + 1, v, out => by
    rw [viaP, viaP]
    repeat' first
      | exact viaP_mono l via k _ _
      | exact LeO.refl _
      | refine LeO.ite ?_ ?_
def pathP (k : Nat) (n : Int) (l : List S40) (x : List Int) (s t : Int) : Option (List Int × Int × Int) :=
  if dchk n l x = 0 then (if s < 0 ∨ n ≤ s ∨ t < 0 ∨ n ≤ t then some ([], 0, 2) else (runP n.toNat l x false k (startP n.toNat s)).bind fun r => (if rd r.d t = 1152921504606846976 then some ([], 0, 18) else (viaP l r.v k t []).bind fun p => (slices_Reverse_int_int.f k p).bind fun q => some (q, rd r.d t, 0))) else some ([], 0, dchk n l x)
theorem pathP_mono (n : Int) (l : List S40) (x : List Int) (s t : Int) (k : Nat) : LeO (pathP k n l x s t) (pathP (k + 1) n l x s t) := by
  unfold pathP
  repeat' first
    | exact LeO.refl _
    | exact runP_mono _ _ _ _ _ _
    | exact viaP_mono _ _ _ _ _
    | exact slices_Reverse_int_int.mono _ _
    | refine LeO.ite ?_ ?_
    | refine LeO.bind ?_ (fun _ => ?_)
section
variable {R : Apart} {w0 w : World} {v : Value} {xs : List Int}
theorem LA.app (hR : Stay R) (h : LA (OwnK (Kd.int .i64) 3 w0.heap.size v xs R) w0 w) : ∃ ok : Nat → Prop, Kd.R (Kd.int .i64) 3 w w0.heap.size ok v xs ∧ (∀ k, w.heap.size ≤ k → ok k) ∧
    ∀ (ys : List Int) (v1 : Value) (w1 : World), Kd.R (Kd.int .i64) 3 w1 w0.heap.size ok v1 ys → Below w0.heap.size w0 w1 → w.grownBy w1 v.ownBlock → LA (OwnK (Kd.int .i64) 3 w0.heap.size v1 ys R) w0 w1 := by
  obtain ⟨⟨Q, h1, h2⟩, h3⟩ := h
  refine ⟨fun k => (w0.heap.size ≤ k ∧ Q k) ∨ w.heap.size ≤ k, Kd.R_mono h1 (fun k hk => .inl hk), fun k hk => .inr hk, fun ys v1 w1 r1 hb hg => ⟨⟨fun k => (w0.heap.size ≤ k ∧ Q k) ∨ w.heap.size ≤ k, Kd.R_mono r1 (fun k hk => ⟨by rcases hk with hk | hk; exact hk.1; exact Nat.le_trans h3.size hk, hk⟩), ?_⟩, hb⟩⟩
  have hk : Kept w w1 (fun j => some j = v.ownBlock) := ⟨hg.size, fun j hl hn => hg.block j hl hn⟩
  exact hR.mono (hR.kept h2 hk (fun j hj he => hj.2 (h1.1 j he.symm).2)) (fun j hj => ⟨hj.1.1, fun h => h.elim (fun h => hj.1.2 h.2) (fun h => by have := hj.2.2; omega)⟩)
theorem LA.upd (hR : Stay R) (h : LA (OwnK (Kd.int .i64) 3 w0.heap.size v xs R) w0 w) : ∃ P : Nat → Prop, Kd.R (Kd.int .i64) 3 w w0.heap.size P v xs ∧
    ∀ (ys : List Int) (w1 : World), Kd.R (Kd.int .i64) 3 w1 w0.heap.size (fun k => P k ∨ w.heap.size ≤ k) v ys → Below w0.heap.size w0 w1 → Kept w w1 P → LA (OwnK (Kd.int .i64) 3 w0.heap.size v ys R) w0 w1 := by
  obtain ⟨⟨Q, h1, h2⟩, h3⟩ := h
  refine ⟨fun k => w0.heap.size ≤ k ∧ Q k, h1, fun ys w1 r1 hb hk => ⟨⟨fun k => (w0.heap.size ≤ k ∧ Q k) ∨ w.heap.size ≤ k, Kd.R_mono r1 (fun k hk => ⟨by rcases hk with hk | hk; exact hk.1; exact Nat.le_trans h3.size hk, hk⟩), ?_⟩, hb⟩⟩
  exact hR.mono (hR.kept h2 hk (fun j hj he => hj.2 he.2)) (fun j hj => ⟨hj.1.1, fun h => h.elim (fun h => hj.1.2 h.2) (fun h => by have := hj.2.2; omega)⟩)
theorem LA.nilrow (h : LA R w0 w) (hR : Stay R) : LA (OwnK (Kd.int .i64) 3 w0.heap.size (.slice none 0 0) [] R) w0 w :=
  ⟨⟨fun _ => False, Kd.R_nil _ _ _ _ _, hR.mono h.1 (fun k hk => ⟨hk, fun h => h⟩)⟩, h.2⟩
/-- Two rows that a call has made. -/
theorem LA.tworows {w2 w3 : World} {v1 v2 : Value} {a b : List Int} (hB : Below w.heap.size w w2) (h1 : Kd.R (Kd.int .i64) 3 w3 w2.heap.size (fun _ => True) v1 a) (h2 : Kd.R (Kd.int .i64) 3 w3 w2.heap.size (fun k => some k ≠ v1.ownBlock) v2 b) (hb : Below w2.heap.size w2 w3) :
    LA (OwnK (Kd.int .i64) 3 w.heap.size v2 b (OwnK (Kd.int .i64) 3 w.heap.size v1 a (SX w.heap.size w2.heap))) w w3 := by
  refine ⟨⟨fun k => w2.heap.size ≤ k ∧ some k ≠ v1.ownBlock, Kd.R_lower (Kd.R_mono (Kd.R_bound h2) (fun k hk => ⟨Nat.le_trans hB.size hk.2.1, hk.2.1, hk.1⟩)) hB.size, fun k => w2.heap.size ≤ k, Kd.R_lower (Kd.R_mono (Kd.R_bound (Kd.R_tight rfl h1)) (fun k hk => ⟨⟨Nat.le_trans hB.size hk.2.1, fun h => h.2 hk.1⟩, hk.2.1⟩)) hB.size, fun k h3 h4 => ⟨⟨⟨h3, fun h => ?_⟩, fun h => ?_⟩, hb.block k h4⟩⟩, below_step hB hb⟩
  · have := h.1
    have h4' : k < w2.heap.size := h4
    omega
  · have h4' : k < w2.heap.size := h4
    omega
theorem LA.same3 {e1 e2 e3 : Nat} {v1 v2 v3 : Value} {a b c : List Int} {hp : Array Obj} (h : LA (OwnK (Kd.int .i64) e1 w0.heap.size v1 a (OwnK (Kd.int .i64) e2 w0.heap.size v2 b (OwnK (Kd.int .i64) e3 w0.heap.size v3 c (SX w0.heap.size hp)))) w0 w) : ∀ k, w0.heap.size ≤ k → k < hp.size → w.heap[k]? = hp[k]? := by
  obtain ⟨⟨Q1, h1, Q2, h2, Q3, h3, h4⟩, h5⟩ := h
  exact fun k a b => (h4 k a b).2
theorem LA.cell2 {v1 : Value} {a b : List Int} {g n c : Nat} (h : LA (OwnK (Kd.int .i64) 3 w0.heap.size v1 a (OwnK (Kd.int .i64) 3 w0.heap.size (.slice (some ⟨g, 0, none⟩) n c) b R)) w0 w) (i : Int) (h0 : 0 ≤ i) (h1 : i < n) : w.cell? ⟨g, i.toNat, none⟩ = some (.int .i64 (rd b i)) := by
  obtain ⟨⟨Q1, h2, Q2, h3, h4⟩, h5⟩ := h
  exact (Kd.R_celln (0 : Int) h3 i h0 h1).1
theorem LA.cell3 {v1 v2 : Value} {a b b2 : List Int} {g n c : Nat} (h : LA (OwnK (Kd.int .i64) 3 w0.heap.size v1 a (OwnK (Kd.int .i64) 3 w0.heap.size v2 b2 (OwnK (Kd.int .i64) 3 w0.heap.size (.slice (some ⟨g, 0, none⟩) n c) b R))) w0 w) (i : Int) (h0 : 0 ≤ i) (h1 : i < n) : w.cell? ⟨g, i.toNat, none⟩ = some (.int .i64 (rd b i)) := by
  obtain ⟨⟨Q1, h2, Q2, h3, Q3, h4, h5⟩, h6⟩ := h
  exact (Kd.R_celln (0 : Int) h4 i h0 h1).1
theorem LA.first {a : List Int} (h : LA (OwnK (Kd.int .i64) 3 w0.heap.size v a R) w0 w) : Kd.R (Kd.int .i64) 3 w w0.heap.size (fun _ => True) v a := by
  obtain ⟨⟨Q1, h2, h3⟩, h4⟩ := h
  exact Kd.R_mono h2 (fun _ _ => trivial)
end
set_option maxHeartbeats 16000000 in
set_option maxRecDepth 1000000 in
theorem dijkstra_Path_walk (k : Nat) (n : Int) (A0 : Option Addr) (c0 : Nat) (l0 : List S40) (A1 : Option Addr) (c1 : Nat) (x : List Int) (s t : Int) (r1 : List Int) (r2 r3 : Int) (w : World) (hr0 : Kd.C k40 w A0 l0.length l0) (hc0 : l0.length ≤ c0) (hr1 : Kd.C (Kd.int .i64) w A1 x.length x) (hc1 : x.length ≤ c1) (h : pathP k n l0 x s t = some (r1, r2, r3)) :
    Calls Try.prog 9 #[.agg #[.int .i64 n, .slice A0 l0.length c0], .slice A1 x.length c1, .int .i64 s, .int .i64 t] w fun e w' => ∃ v0_ : Value, e = .returned (.tuple #[v0_, .int .i64 r2, .int .i64 r3]) ∧ Kd.R (Kd.int .i64) 3 w' w.heap.size (fun _ => True) v0_ r1 ∧ Below w.heap.size w w' := by
  have hu24 := Try.underlying24
  have HR := Aside0.mk hr0
  have HR1 := Aside0.mk hr1
  have HC := Aside0.mk hc0
  have HC1 := Aside0.mk hc1
  clear hr0 hr1 hc0 hc1
  obtain ⟨e, he⟩ : ∃ e, e = dchk n l0 x := ⟨_, rfl⟩
  have HE := Aside0.mk he
  unfold pathP at h
  rw [← he] at h
  by_cases ce : e = 0
  · rw [if_pos ce] at h
    have HZ := Aside0.mk (dchk_zero (he.symm.trans ce))
    have ceb : (e != 0) = false := bne_eq_false_iff_eq.mpr ce
    clear he
    by_cases cs : s < 0
    · rw [if_pos (Or.inl cs)] at h
      have csb : decide (s < 0) = true := decide_eq_true cs
      have HO := Aside0.mk (Option.some.inj h)
      clear h
      go_enter Try.func9, Try.ntmps9
      go_wp2_with (first
        | ((with_reducible refine gate_dst (N := 4) rfl ?_); refine box_event ?hg (N := 4) ?hd (cs := #[.int .i64 n, .slice A0 l0.length c0]) (t := 24) ?hr ?_; (case hd => rfl); (case hg => rfl); (case hr => first | (go_simp; done) | (go_simp; rfl)); intro g4 hg4 w1 hbox hb; have G4 := Aside0.mk (show w.heap.size ≤ g4 by omega); have HB := Aside0.mk hb; have B4 := Aside0.mk hbox; clear hb hbox hg4; have q0 : w1.cell? ⟨g4, 0, none⟩ = some (.int .i64 n) := (blk_cell B4.out 0).trans rfl; have q1 : w1.cell? ⟨g4, 1, none⟩ = some (.slice A0 l0.length c0) := (blk_cell B4.out 1).trans rfl)
        | (go_at_call 16; refine (dijkstra_Check.calls n A0 c0 l0 A1 c1 x _ _ (Kd.C_below HR.out HB.out) HC.out (Kd.C_below HR1.out HB.out) HC1.out rfl).mono ?_; rw [← HE.out]; rintro e' w2 ⟨rfl, hb⟩; have n2_ := Aside0.mk (blk_below B4.out hb); have n3_ := Aside0.mk (below_step HB.out hb); clear hb B4 HB q0 q1; have B4 := n2_; have HB := n3_; clear n2_ n3_; have q0 : w2.cell? ⟨g4, 0, none⟩ = some (.int .i64 n) := (blk_cell B4.out 0).trans rfl; have q1 : w2.cell? ⟨g4, 1, none⟩ = some (.slice A0 l0.length c0) := (blk_cell B4.out 1).trans rfl))
      go_ret3
      have hp := HO.out
      simp only [Prod.mk.injEq] at hp
      obtain ⟨rfl, rfl, rfl⟩ := hp
      exact ⟨_, rfl, Kd.R_nil _ _ _ _ _, by repeat (first | (with_reducible first | exact HB.out | apply below_alloc | apply pw_below_drewN | apply below_drew1) | exact HB.out)⟩

    · have csb : decide (s < 0) = false := decide_eq_false cs
      by_cases cn : n ≤ s
      · rw [if_pos (Or.inr (Or.inl cn))] at h
        have cnb : decide (n ≤ s) = true := decide_eq_true cn
        have HO := Aside0.mk (Option.some.inj h)
        clear h
        go_enter Try.func9, Try.ntmps9
        go_wp2_with (first
          | ((with_reducible refine gate_dst (N := 4) rfl ?_); refine box_event ?hg (N := 4) ?hd (cs := #[.int .i64 n, .slice A0 l0.length c0]) (t := 24) ?hr ?_; (case hd => rfl); (case hg => rfl); (case hr => first | (go_simp; done) | (go_simp; rfl)); intro g4 hg4 w1 hbox hb; have G4 := Aside0.mk (show w.heap.size ≤ g4 by omega); have HB := Aside0.mk hb; have B4 := Aside0.mk hbox; clear hb hbox hg4; have q0 : w1.cell? ⟨g4, 0, none⟩ = some (.int .i64 n) := (blk_cell B4.out 0).trans rfl; have q1 : w1.cell? ⟨g4, 1, none⟩ = some (.slice A0 l0.length c0) := (blk_cell B4.out 1).trans rfl)
          | (go_at_call 16; refine (dijkstra_Check.calls n A0 c0 l0 A1 c1 x _ _ (Kd.C_below HR.out HB.out) HC.out (Kd.C_below HR1.out HB.out) HC1.out rfl).mono ?_; rw [← HE.out]; rintro e' w2 ⟨rfl, hb⟩; have n2_ := Aside0.mk (blk_below B4.out hb); have n3_ := Aside0.mk (below_step HB.out hb); clear hb B4 HB q0 q1; have B4 := n2_; have HB := n3_; clear n2_ n3_; have q0 : w2.cell? ⟨g4, 0, none⟩ = some (.int .i64 n) := (blk_cell B4.out 0).trans rfl; have q1 : w2.cell? ⟨g4, 1, none⟩ = some (.slice A0 l0.length c0) := (blk_cell B4.out 1).trans rfl))
        go_ret3
        have hp := HO.out
        simp only [Prod.mk.injEq] at hp
        obtain ⟨rfl, rfl, rfl⟩ := hp
        exact ⟨_, rfl, Kd.R_nil _ _ _ _ _, by repeat (first | (with_reducible first | exact HB.out | apply below_alloc | apply pw_below_drewN | apply below_drew1) | exact HB.out)⟩

      · have cnb : decide (n ≤ s) = false := decide_eq_false cn
        by_cases ct : t < 0
        · rw [if_pos (Or.inr (Or.inr (Or.inl ct)))] at h
          have ctb : decide (t < 0) = true := decide_eq_true ct
          have HO := Aside0.mk (Option.some.inj h)
          clear h
          go_enter Try.func9, Try.ntmps9
          go_wp2_with (first
            | ((with_reducible refine gate_dst (N := 4) rfl ?_); refine box_event ?hg (N := 4) ?hd (cs := #[.int .i64 n, .slice A0 l0.length c0]) (t := 24) ?hr ?_; (case hd => rfl); (case hg => rfl); (case hr => first | (go_simp; done) | (go_simp; rfl)); intro g4 hg4 w1 hbox hb; have G4 := Aside0.mk (show w.heap.size ≤ g4 by omega); have HB := Aside0.mk hb; have B4 := Aside0.mk hbox; clear hb hbox hg4; have q0 : w1.cell? ⟨g4, 0, none⟩ = some (.int .i64 n) := (blk_cell B4.out 0).trans rfl; have q1 : w1.cell? ⟨g4, 1, none⟩ = some (.slice A0 l0.length c0) := (blk_cell B4.out 1).trans rfl)
            | (go_at_call 16; refine (dijkstra_Check.calls n A0 c0 l0 A1 c1 x _ _ (Kd.C_below HR.out HB.out) HC.out (Kd.C_below HR1.out HB.out) HC1.out rfl).mono ?_; rw [← HE.out]; rintro e' w2 ⟨rfl, hb⟩; have n2_ := Aside0.mk (blk_below B4.out hb); have n3_ := Aside0.mk (below_step HB.out hb); clear hb B4 HB q0 q1; have B4 := n2_; have HB := n3_; clear n2_ n3_; have q0 : w2.cell? ⟨g4, 0, none⟩ = some (.int .i64 n) := (blk_cell B4.out 0).trans rfl; have q1 : w2.cell? ⟨g4, 1, none⟩ = some (.slice A0 l0.length c0) := (blk_cell B4.out 1).trans rfl))
          go_ret3
          have hp := HO.out
          simp only [Prod.mk.injEq] at hp
          obtain ⟨rfl, rfl, rfl⟩ := hp
          exact ⟨_, rfl, Kd.R_nil _ _ _ _ _, by repeat (first | (with_reducible first | exact HB.out | apply below_alloc | apply pw_below_drewN | apply below_drew1) | exact HB.out)⟩

        · have ctb : decide (t < 0) = false := decide_eq_false ct
          by_cases cm : n ≤ t
          · rw [if_pos (Or.inr (Or.inr (Or.inr cm)))] at h
            have cmb : decide (n ≤ t) = true := decide_eq_true cm
            have HO := Aside0.mk (Option.some.inj h)
            clear h
            go_enter Try.func9, Try.ntmps9
            go_wp2_with (first
              | ((with_reducible refine gate_dst (N := 4) rfl ?_); refine box_event ?hg (N := 4) ?hd (cs := #[.int .i64 n, .slice A0 l0.length c0]) (t := 24) ?hr ?_; (case hd => rfl); (case hg => rfl); (case hr => first | (go_simp; done) | (go_simp; rfl)); intro g4 hg4 w1 hbox hb; have G4 := Aside0.mk (show w.heap.size ≤ g4 by omega); have HB := Aside0.mk hb; have B4 := Aside0.mk hbox; clear hb hbox hg4; have q0 : w1.cell? ⟨g4, 0, none⟩ = some (.int .i64 n) := (blk_cell B4.out 0).trans rfl; have q1 : w1.cell? ⟨g4, 1, none⟩ = some (.slice A0 l0.length c0) := (blk_cell B4.out 1).trans rfl)
              | (go_at_call 16; refine (dijkstra_Check.calls n A0 c0 l0 A1 c1 x _ _ (Kd.C_below HR.out HB.out) HC.out (Kd.C_below HR1.out HB.out) HC1.out rfl).mono ?_; rw [← HE.out]; rintro e' w2 ⟨rfl, hb⟩; have n2_ := Aside0.mk (blk_below B4.out hb); have n3_ := Aside0.mk (below_step HB.out hb); clear hb B4 HB q0 q1; have B4 := n2_; have HB := n3_; clear n2_ n3_; have q0 : w2.cell? ⟨g4, 0, none⟩ = some (.int .i64 n) := (blk_cell B4.out 0).trans rfl; have q1 : w2.cell? ⟨g4, 1, none⟩ = some (.slice A0 l0.length c0) := (blk_cell B4.out 1).trans rfl))
            go_ret3
            have hp := HO.out
            simp only [Prod.mk.injEq] at hp
            obtain ⟨rfl, rfl, rfl⟩ := hp
            exact ⟨_, rfl, Kd.R_nil _ _ _ _ _, by repeat (first | (with_reducible first | exact HB.out | apply below_alloc | apply pw_below_drewN | apply below_drew1) | exact HB.out)⟩

          · have cmb : decide (n ≤ t) = false := decide_eq_false cm
            rw [if_neg (by omega)] at h
            obtain ⟨m, rfl⟩ : ∃ m : Nat, n = m := ⟨n.toNat, by omega⟩
            rw [Int.toNat_natCast] at h
            replace h := Option.bind_eq_some_iff.mp h
            obtain ⟨r, hr, h⟩ := h
            have HS := Aside0.mk (show 0 ≤ s ∧ s < m ∧ 0 ≤ t ∧ t < m from by omega)
            have HI := Aside0.mk (runP_inv k (DInv.start m s) hr)
            have HF := Aside0.mk hr
            have HG := Aside0.mk HZ.out.1
            have HX := Aside0.mk HZ.out.2
            clear hr
            have ht0 : 0 ≤ t := by omega
            have ht1 : t < (m : Int) := by omega
            by_cases ci : rd r.d t = 1152921504606846976
            · rw [if_pos ci] at h
              have cib : (rd r.d t == 1152921504606846976) = true := beq_iff_eq.mpr ci
              have HO := Aside0.mk (Option.some.inj h)
              clear h
              go_enter Try.func9, Try.ntmps9
              go_wp2_with (first
                | ((with_reducible refine gate_dst (N := 4) rfl ?_); refine box_event ?hg (N := 4) ?hd (cs := #[.int (.i64) (m : Int), .slice A0 l0.length c0]) (t := 24) ?hr ?_; (case hd => rfl); (case hg => rfl); (case hr => first | (go_simp; done) | (go_simp; rfl)); intro g4 hg4 w1 hbox hb; have G4 := Aside0.mk (show w.heap.size ≤ g4 by omega); have HB := Aside0.mk hb; have B4 := Aside0.mk hbox; clear hb hbox hg4; have q0 : w1.cell? ⟨g4, 0, none⟩ = some (.int (.i64) (m : Int)) := (blk_cell B4.out 0).trans rfl; have q1 : w1.cell? ⟨g4, 1, none⟩ = some (.slice A0 l0.length c0) := (blk_cell B4.out 1).trans rfl)
                | (go_at_call 16; refine (dijkstra_Check.calls m A0 c0 l0 A1 c1 x _ _ (Kd.C_below HR.out HB.out) HC.out (Kd.C_below HR1.out HB.out) HC1.out rfl).mono ?_; rw [← HE.out]; rintro e' w2 ⟨rfl, hb⟩; have n2_ := Aside0.mk (blk_below B4.out hb); have n3_ := Aside0.mk (below_step HB.out hb); clear hb B4 HB q0 q1; have B4 := n2_; have HB := n3_; clear n2_ n3_; have q0 : w2.cell? ⟨g4, 0, none⟩ = some (.int (.i64) (m : Int)) := (blk_cell B4.out 0).trans rfl; have q1 : w2.cell? ⟨g4, 1, none⟩ = some (.slice A0 l0.length c0) := (blk_cell B4.out 1).trans rfl)
                | (go_at_call 20; refine (run_fwd HG.out A0 A1 c0 c1 x HX.out s HS.out.1 HS.out.2.1 _ (Kd.C_below HR.out HB.out) HC.out (Kd.C_below HR1.out HB.out) k r HF.out).mono ?_; rintro e' w3 ⟨v1, v2, rfl, hd, hv, hb⟩; have HQ := Aside0.mk (LA.nilrow (LA.tworows HB.out hd hv hb) (stay_own _ _ _ _ _ (stay_own _ _ _ _ _ (stay_sx _ _)))); obtain ⟨gd, cd, e1, _⟩ := Kd.R_form hd (by rw [HI.out.d]; have := HS.out; omega); obtain ⟨gv, cv, e2, _⟩ := Kd.R_form hv (by rw [HI.out.v]; have := HS.out; omega); rw [HI.out.d] at e1; rw [HI.out.v] at e2; subst e1; subst e2; have HC4 := Aside0.mk B4.out; clear hd hv hb q0 q1; have z0 := LA.cell3 HQ.out t ht0 ht1))
              go_ret3
              have hp := HO.out
              simp only [Prod.mk.injEq] at hp
              obtain ⟨rfl, rfl, rfl⟩ := hp
              exact ⟨_, rfl, Kd.R_nil _ _ _ _ _, HQ.out.2⟩
            · rw [if_neg ci] at h
              have cib : (rd r.d t == 1152921504606846976) = false := beq_eq_false_iff_ne.mpr ci
              replace h := Option.bind_eq_some_iff.mp h
              obtain ⟨p, hp, h⟩ := h
              replace h := Option.bind_eq_some_iff.mp h
              obtain ⟨q, hq, h⟩ := h
              have HP := Aside0.mk hp
              have HRv := Aside0.mk hq
              have HO := Aside0.mk (Option.some.inj h)
              clear h hp hq
              go_enter Try.func9, Try.ntmps9
              go_wp2_with (first
                | ((with_reducible refine gate_dst (N := 4) rfl ?_); refine box_event ?hg (N := 4) ?hd (cs := #[.int (.i64) (m : Int), .slice A0 l0.length c0]) (t := 24) ?hr ?_; (case hd => rfl); (case hg => rfl); (case hr => first | (go_simp; done) | (go_simp; rfl)); intro g4 hg4 w1 hbox hb; have G4 := Aside0.mk (show w.heap.size ≤ g4 by omega); have HB := Aside0.mk hb; have B4 := Aside0.mk hbox; clear hb hbox hg4; have q0 : w1.cell? ⟨g4, 0, none⟩ = some (.int (.i64) (m : Int)) := (blk_cell B4.out 0).trans rfl; have q1 : w1.cell? ⟨g4, 1, none⟩ = some (.slice A0 l0.length c0) := (blk_cell B4.out 1).trans rfl)
                | (go_at_call 16; refine (dijkstra_Check.calls m A0 c0 l0 A1 c1 x _ _ (Kd.C_below HR.out HB.out) HC.out (Kd.C_below HR1.out HB.out) HC1.out rfl).mono ?_; rw [← HE.out]; rintro e' w2 ⟨rfl, hb⟩; have n2_ := Aside0.mk (blk_below B4.out hb); have n3_ := Aside0.mk (below_step HB.out hb); clear hb B4 HB q0 q1; have B4 := n2_; have HB := n3_; clear n2_ n3_; have q0 : w2.cell? ⟨g4, 0, none⟩ = some (.int (.i64) (m : Int)) := (blk_cell B4.out 0).trans rfl; have q1 : w2.cell? ⟨g4, 1, none⟩ = some (.slice A0 l0.length c0) := (blk_cell B4.out 1).trans rfl)
                | (go_at_call 20; refine (run_fwd HG.out A0 A1 c0 c1 x HX.out s HS.out.1 HS.out.2.1 _ (Kd.C_below HR.out HB.out) HC.out (Kd.C_below HR1.out HB.out) k r HF.out).mono ?_; rintro e' w3 ⟨v1, v2, rfl, hd, hv, hb⟩; have HQ := Aside0.mk (LA.nilrow (LA.tworows HB.out hd hv hb) (stay_own _ _ _ _ _ (stay_own _ _ _ _ _ (stay_sx _ _)))); obtain ⟨gd, cd, e1, _⟩ := Kd.R_form hd (by rw [HI.out.d]; have := HS.out; omega); obtain ⟨gv, cv, e2, _⟩ := Kd.R_form hv (by rw [HI.out.v]; have := HS.out; omega); rw [HI.out.d] at e1; rw [HI.out.v] at e2; subst e1; subst e2; have HC4 := Aside0.mk B4.out; clear hd hv hb q0 q1; have z0 := LA.cell3 HQ.out t ht0 ht1))
              go_loopg [14, 15] k (fun g v14 v15 wr => ∃ (vo : Value) (out : List Int) (vv : Int), vo = v14 ∧ v15 = .int .i64 vv ∧ viaP l0 r.v g vv out = some p ∧ LA (OwnK (Kd.int .i64) 3 w.heap.size vo out (OwnK (Kd.int .i64) 3 w.heap.size (.slice (some ⟨gv, 0, none⟩) m cv) r.v (OwnK (Kd.int .i64) 3 w.heap.size (.slice (some ⟨gd, 0, none⟩) m cd) r.d (SX w.heap.size w2.heap)))) w wr)
              case atStart => exact ⟨_, [], t, rfl, rfl, HP.out, HQ.out⟩
              case round =>
                clear HQ HP z0
                obtain ⟨vo, out, vv, rfl, rfl, hvia, hq⟩ := hrel
                have HQ := Aside0.mk hq
                clear hq
                obtain ⟨k1, hk1, hvia⟩ : ∃ k1, gk = k1 + 1 ∧ viaP l0 r.v (k1 + 1) vv out = some p := by
                  cases gk with
                  | zero => simp [viaP] at hvia
                  | succ k1 => exact ⟨k1, rfl, hvia⟩
                unfold viaP at hvia
                by_cases hv0 : 0 ≤ vv
                · rw [if_pos hv0] at hvia
                  by_cases hv1 : vv < (r.v.length : Int)
                  · rw [if_pos hv1] at hvia
                    have hv1 : vv < (m : Int) := by rw [HI.out.v] at hv1; exact hv1
                    have z1 := LA.cell2 HQ.out vv hv0 hv1
                    by_cases ha0 : 0 ≤ rd r.v vv
                    · rw [if_pos ha0] at hvia
                      by_cases ha1 : rd r.v vv < (l0.length : Int)
                      · rw [if_pos ha1] at hvia
                        by_cases ho1 : out.length < 17592186044416
                        · rw [if_pos ho1] at hvia
                          have HV := Aside0.mk hvia
                          have HLen := Aside0.mk ho1
                          clear hvia ho1
                          obtain ⟨ad, eA, ta0, _⟩ := at_T40 HR.out (rd r.v vv) ha0 ha1
                          subst eA
                          have hta0 := ta0
                          clear ta0
                          generalize (rd_T40 l0 (rd r.v vv)).f0 = fa at *
                          have hab : decide (0 ≤ rd r.v vv) = true := decide_eq_true ha0
                          generalize hav : rd r.v vv = av at z1 ha0 ha1 HV hta0 hab
                          have HAv := Aside0.mk hav
                          clear hav
                          obtain ⟨okq, hor, hof, hon⟩ := LA.app (stay_own _ _ _ _ _ (stay_own _ _ _ _ _ (stay_sx _ _))) HQ.out
                          have HOr := Aside0.mk hor
                          have HOf := Aside0.mk hof
                          have HOn := Aside0.mk hon
                          clear hor hof hon
                          go_wp2_with (first
                            | ((with_reducible refine gate_builtin (b := .append) (xs := #[.tmp 69, .tmp 74]) rfl ?_); go_loud (at_builtin; refine Kd.R_append (Kd.int .i64) (w0 := w) w.heap.size rfl (.tmp 69) (.tmp 74) 25 3 (.int .i64 0) 8 rfl Try.underlying25 info3 rfl (by decide) (by omega) vo out av [.int .i64 av] okq (fun _ => False) rfl rfl ?aP (fun _ hk => hk.elim) HOf.out ?aO ?aB ?aS ?aL ?_; (case aP => exact rfl); (case aB => exact HQ.out.2); (case aO => exact HOr.out); (case aS => exact HQ.out.2.size); (case aL => have := HLen.out; omega); intro vo2 w5 ho hb hg hat; have HQ2 := Aside0.mk (HOn.out _ _ _ ho hb hg); clear ho hb hg hat; have z1 := LA.cell2 HQ2.out vv hv0 hv1; rw [HAv.out] at z1; have q1 := (blk_cell ((LA.same3 HQ2.out g4 G4.out (blk_lt HC4.out)).trans HC4.out) 1).trans (show _ = some (.slice (some ad) l0.length c0) from rfl); have ta0 := pw_cell_below HQ2.out.2 hta0)))
                          go_region
                          have HQ3 := Aside0.mk (LA.step_below (stay_own _ _ _ _ _ (stay_own _ _ _ _ _ (stay_own _ _ _ _ _ (stay_sx _ _)))) HQ2.out (below_drew1 (Below.refl _ _)))
                          clear HQ2 z1 q1 ta0
                          generalize w5.drew = w6 at HQ3 ⊢
                          go_wp2
                          go_roundg k1
                          case measure => omega
                          case rel => exact ⟨_, out ++ [av], fa, rfl, rfl, HV.out, HQ3.out⟩
                        · rw [if_neg ho1] at hvia
                          cases hvia
                      · rw [if_neg ha1] at hvia
                        cases hvia
                    · rw [if_neg ha0] at hvia
                      have hop : out = p := Option.some.inj hvia
                      subst hop
                      have hab : decide (0 ≤ rd r.v vv) = false := decide_eq_false ha0
                      obtain ⟨P, hor, hon⟩ := LA.upd (stay_own _ _ _ _ _ (stay_own _ _ _ _ _ (stay_sx _ _))) HQ.out
                      have HOr := Aside0.mk hor
                      have HOn := Aside0.mk hon
                      clear hor hon
                      go_wp2_with (first
                        | (go_at_call 21; go_loud (refine (slices_Reverse_int_int.calls k P vo out q w wr HQ.out.2 HOr.out HRv.out).mono ?_; rintro e' w6 ⟨rfl, hq, hb, hk⟩; have HQ3 := Aside0.mk (HOn.out _ _ hq hb hk); clear hq hb hk HQ z1; have z0 := LA.cell3 HQ3.out t ht0 ht1)))
                      go_region
                      have HQ4 := Aside0.mk (LA.step_below (stay_own _ _ _ _ _ (stay_own _ _ _ _ _ (stay_own _ _ _ _ _ (stay_sx _ _)))) HQ3.out (below_drew1 (Below.refl _ _)))
                      clear HQ3 z0
                      generalize w6.drew = w7 at HQ4 ⊢
                      go_wp2
                      go_ret3
                      have hp := HO.out
                      simp only [Prod.mk.injEq] at hp
                      obtain ⟨rfl, rfl, rfl⟩ := hp
                      exact ⟨_, rfl, LA.first HQ4.out, HQ4.out.2⟩
                  · rw [if_neg hv1] at hvia
                    cases hvia
                · rw [if_neg hv0] at hvia
                  cases hvia
  · rw [if_neg ce] at h
    have ceb : (e != 0) = true := bne_iff_ne.mpr ce
    clear he
    have HO := Aside0.mk (Option.some.inj h)
    clear h
    go_enter Try.func9, Try.ntmps9
    go_wp2_with (first
      | ((with_reducible refine gate_dst (N := 4) rfl ?_); refine box_event ?hg (N := 4) ?hd (cs := #[.int .i64 n, .slice A0 l0.length c0]) (t := 24) ?hr ?_; (case hd => rfl); (case hg => rfl); (case hr => first | (go_simp; done) | (go_simp; rfl)); intro g4 hg4 w1 hbox hb; have G4 := Aside0.mk (show w.heap.size ≤ g4 by omega); have HB := Aside0.mk hb; have B4 := Aside0.mk hbox; clear hb hbox hg4; have q0 : w1.cell? ⟨g4, 0, none⟩ = some (.int .i64 n) := (blk_cell B4.out 0).trans rfl; have q1 : w1.cell? ⟨g4, 1, none⟩ = some (.slice A0 l0.length c0) := (blk_cell B4.out 1).trans rfl)
      | (go_at_call 16; refine (dijkstra_Check.calls n A0 c0 l0 A1 c1 x _ _ (Kd.C_below HR.out HB.out) HC.out (Kd.C_below HR1.out HB.out) HC1.out rfl).mono ?_; rw [← HE.out]; rintro e' w2 ⟨rfl, hb⟩; have n2_ := Aside0.mk (blk_below B4.out hb); have n3_ := Aside0.mk (below_step HB.out hb); clear hb B4 HB q0 q1; have B4 := n2_; have HB := n3_; clear n2_ n3_; have q0 : w2.cell? ⟨g4, 0, none⟩ = some (.int .i64 n) := (blk_cell B4.out 0).trans rfl; have q1 : w2.cell? ⟨g4, 1, none⟩ = some (.slice A0 l0.length c0) := (blk_cell B4.out 1).trans rfl))
    go_ret3
    have hp := HO.out
    simp only [Prod.mk.injEq] at hp
    obtain ⟨rfl, rfl, rfl⟩ := hp
    exact ⟨_, rfl, Kd.R_nil _ _ _ _ _, by repeat (first | (with_reducible first | exact HB.out | apply below_alloc | apply pw_below_drewN | apply below_drew1) | exact HB.out)⟩
end Go.Proofs.Ytofhgmdehglhgaa.PAll
