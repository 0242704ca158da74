/- Every result of any sequence of operations: the walk of PqPlays. -/
import Derived.Test.YtpdgifldpnpeeaaQR
namespace Go.Proofs.Ytpdgifldpnpeeaa.PAll
open Go.RowKit Go.Proofs.YtpdgifldpnpeeaaW.PrintWords Go.Proofs.YtpdgifldpnpeeaaW.PrintLast Go.Proofs.YtpdgifldpnpeeaaW.PrintMore
set_option linter.unusedVariables false
set_option linter.unusedSimpArgs false
attribute [local irreducible] Calls

/-! #### struct type 40 (mapmakerlaw04.Op) -/
structure S40 where
  f0 : Int
  f1 : Int
  f2 : Int
def z40 : S40 := ⟨0, 0, 0⟩
def k40 : Kd S40 := Kd.iso (Kd.pair (Kd.int .i64) (Kd.pair (Kd.int .i64) (Kd.int .i64))) (fun x : S40 => (x.f0, x.f1, x.f2))
theorem k40_open {w : World} {x : S40} {cs : List Value} (h : k40.K w x cs) : cs = [.int .i64 x.f0, .int .i64 x.f1, .int .i64 x.f2] := by
  obtain ⟨_, _, rfl, rfl, ⟨_, _, rfl, rfl, rfl⟩⟩ := h
  exact rfl
def rd_T40 (xs : List S40) (i : Int) : S40 := xs.getD i.toNat z40
theorem at_T40 {w : World} {A : Option Addr} {n : Nat} {xs : List S40} (h : Kd.C k40 w A n xs) (i : Int) (h0 : 0 ≤ i) (h1 : i < n) : ∃ ad, A = some ad ∧ w.cell? (ad.add (i.toNat * 3)) = some (.int .i64 (rd_T40 xs i).f0) ∧ w.cell? ⟨(ad.add (i.toNat * 3)).block, (ad.add (i.toNat * 3)).off + 1, none⟩ = some (.int .i64 (rd_T40 xs i).f1) ∧ w.cell? ⟨(ad.add (i.toNat * 3)).block, (ad.add (i.toNat * 3)).off + 2, none⟩ = some (.int .i64 (rd_T40 xs i).f2) := by
  obtain ⟨ad, c, e, _, hK, hc0⟩ := Kd.C_get h z40 i h0 h1
  have hc : ∀ j u, c[j]? = some u → w.cell? (ad.add (i.toNat * 3 + j)) = some u := hc0
  obtain rfl := k40_open hK
  exact ⟨ad, e, hc 0 _ rfl, by rw [← add_field _ _ 1 (by omega)]; exact hc 1 _ rfl, by rw [← add_field _ _ 2 (by omega)]; exact hc 2 _ rfl⟩

/-- The reference's queue in its box gb, its rows, and the operation in its box gx, apart from the queue. -/
structure PX (base gb gx : Nat) (u1 u2 vI vK : Value) (a b c : Int) (fs : List Bool) (ks : List Int) (w : World) (ok : Nat → Prop) : Prop where
  b1 : base ≤ gb
  o1 : ok gb
  h1 : w.heap[gb]? = some (.cells #[u1, u2] 37 (0, 0))
  b2 : base ≤ gx
  o2 : ok gx
  h2 : w.heap[gx]? = some (.cells #[.int .i64 a, .int .i64 b, .int .i64 c] 40 (0, 0))
  rI : Kd.R Kd.bool 4 w base ok vI fs
  rK : Kd.R (Kd.int .i64) 3 w base ok vK ks
/-- Without the operation. -/
structure PF (base gb : Nat) (vI vK : Value) (fs : List Bool) (ks : List Int) (w : World) (ok : Nat → Prop) : Prop where
  b1 : base ≤ gb
  o1 : ok gb
  h1 : w.heap[gb]? = some (.cells #[vI, vK] 37 (0, 0))
  rI : Kd.R Kd.bool 4 w base ok vI fs
  rK : Kd.R (Kd.int .i64) 3 w base ok vK ks
section
variable {base gb gx : Nat} {u1 u2 vI vK : Value} {a b c : Int} {fs : List Bool} {ks : List Int} {w0 w w' : World} {ok ok' : Nat → Prop} {v : Value} {m : List (Option Int)}
theorem stay_px : Stay (PX base gb gx u1 u2 vI vK a b c fs ks) := ⟨fun h hk => ⟨h.b1, hk _ h.o1, h.h1, h.b2, hk _ h.o2, h.h2, Kd.R_mono h.rI hk, Kd.R_mono h.rK hk⟩,
  fun h hk hne => ⟨h.b1, ⟨h.o1, hne _ h.o1, blk_lt h.h1⟩, (hk.2 _ (blk_lt h.h1) (hne _ h.o1)).trans h.h1, h.b2, ⟨h.o2, hne _ h.o2, blk_lt h.h2⟩, (hk.2 _ (blk_lt h.h2) (hne _ h.o2)).trans h.h2, Kd.R_keptB h.rI hk hne, Kd.R_keptB h.rK hk hne⟩⟩
theorem stay_pf : Stay (PF base gb vI vK fs ks) := ⟨fun h hk => ⟨h.b1, hk _ h.o1, h.h1, Kd.R_mono h.rI hk, Kd.R_mono h.rK hk⟩,
  fun h hk hne => ⟨h.b1, ⟨h.o1, hne _ h.o1, blk_lt h.h1⟩, (hk.2 _ (blk_lt h.h1) (hne _ h.o1)).trans h.h1, Kd.R_keptB h.rI hk hne, Kd.R_keptB h.rK hk hne⟩⟩
/-- Something new is made: what is apart stays; the new block is apart too. -/
theorem LQ_new {R : World → (Nat → Prop) → Prop} (hR : Stay R) (h : LQ R w0 w v m) (hb : Below w.heap.size w w') : ∃ PT : Nat → Prop, QR w' w0.heap.size PT v m ∧ R w' (fun k => ¬ PT k ∧ k < w.heap.size) ∧ (∀ k, PT k → k < w.heap.size) ∧ Below w0.heap.size w0 w' ∧ w0.heap.size ≤ w.heap.size := by
  obtain ⟨PT, h1, h2, h3⟩ := h
  refine ⟨fun k => PT k ∧ k < w.heap.size, QR_below (QR_mono (QR_bound h1) (fun k hk => ⟨hk.1, hk.2.2⟩)) hb, ?_, fun k hk => hk.2, below_step h3 hb, h3.size⟩
  exact hR.mono (hR.kept (S := fun _ => False) h2 (Kept.of_below hb (fun _ => False)) (fun _ _ h => h)) (fun k hk => ⟨fun h => hk.1 h.1, hk.2.2⟩)
theorem LQ_step {R : World → (Nat → Prop) → Prop} (hR : Stay R) (h : LQ R w0 w v m) (hb : Below w.heap.size w w') : LQ R w0 w' v m := by
  obtain ⟨PT, h1, h2, h3, h4, h5⟩ := LQ_new hR h hb
  exact ⟨PT, h1, hR.mono h2 (fun k hk => hk.1), h4⟩
theorem LQ_op {g : Nat} (h : LQ (PF w0.heap.size gb vI vK fs ks) w0 w v m) (hb : Below w.heap.size w w') (hg : w'.heap[g]? = some (.cells #[.int .i64 a, .int .i64 b, .int .i64 c] 40 (0, 0))) (hge : w.heap.size ≤ g) : LQ (PX w0.heap.size gb g vI vK vI vK a b c fs ks) w0 w' v m := by
  obtain ⟨PT, h1, h2, h3, h4, h5⟩ := LQ_new stay_pf h hb
  have h2 := stay_pf.mono h2 (ok' := fun k => ¬ PT k) (fun k hk => hk.1)
  exact ⟨PT, h1, ⟨h2.b1, h2.o1, h2.h1, by omega, fun h => by have := h3 g h; omega, hg, h2.rI, h2.rK⟩, h4⟩
theorem LQ_back (h : LQ (PX w0.heap.size gb gx vI vK vI vK a b c fs ks) w0 w v m) : LQ (PF w0.heap.size gb vI vK fs ks) w0 w v m := by
  obtain ⟨PT, h1, h2, h3⟩ := h
  exact ⟨PT, h1, ⟨h2.b1, h2.o1, h2.h1, h2.rI, h2.rK⟩, h3⟩
theorem PX_type {g : Nat} (h : PX base gb gx u1 u2 vI vK a b c fs ks w ok) (hg : g = gb ∨ g = gx) : ¬ (vI.ownBlock = some g ∨ vK.ownBlock = some g) := by
  rintro (e | e)
  · obtain ⟨cs, hc⟩ := Kd.R_typed h.rI g e
    rcases hg with rfl | rfl
    · rw [h.h1] at hc; injection hc with hc; injection hc with _ hc; exact absurd hc (by decide)
    · rw [h.h2] at hc; injection hc with hc; injection hc with _ hc; exact absurd hc (by decide)
  · obtain ⟨cs, hc⟩ := Kd.R_typed h.rK g e
    rcases hg with rfl | rfl
    · rw [h.h1] at hc; injection hc with hc; injection hc with _ hc; exact absurd hc (by decide)
    · rw [h.h2] at hc; injection hc with hc; injection hc with _ hc; exact absurd hc (by decide)
/-- A call of the reference that hands back a queue. -/
theorem LQ_ref (h : LQ (PX w0.heap.size gb gx u1 u2 vI vK a b c fs ks) w0 w v m) {v0 v1 : Value} {fs2 : List Bool} {ks2 : List Int}
    (hI : Kd.R Kd.bool 4 w' w0.heap.size (fun k_ => ((vI.ownBlock = some k_ ∨ vK.ownBlock = some k_) ∨ w.heap.size ≤ k_)) v0 fs2) (hK : Kd.R (Kd.int .i64) 3 w' w0.heap.size (fun k_ => ((vI.ownBlock = some k_ ∨ vK.ownBlock = some k_) ∨ w.heap.size ≤ k_)) v1 ks2) (hb : Below w0.heap.size w0 w') (hk : Kept w w' (fun k_ => vI.ownBlock = some k_ ∨ vK.ownBlock = some k_)) :
    LQ (PX w0.heap.size gb gx u1 u2 v0 v1 a b c fs2 ks2) w0 w' v m := by
  obtain ⟨PT, h1, h2, h3⟩ := h
  have hne : ∀ k, PT k → ¬ (vI.ownBlock = some k ∨ vK.ownBlock = some k) := fun k hk e => e.elim (fun e => h2.rI.1 k e hk) (fun e => h2.rK.1 k e hk)
  have hq := QR_keptB h1 hk hne
  have hn : ∀ k, ((vI.ownBlock = some k ∨ vK.ownBlock = some k) ∨ w.heap.size ≤ k) → ¬ (PT k ∧ (¬ (vI.ownBlock = some k ∨ vK.ownBlock = some k) ∧ k < w.heap.size)) := fun k hk h => by
    rcases hk with hk | hk
    · exact h.2.1 hk
    · have := h.2.2
      omega
  exact ⟨_, hq, ⟨h2.b1, fun h => h2.o1 h.1, (hk.2 _ (blk_lt h2.h1) (PX_type h2 (.inl rfl))).trans h2.h1, h2.b2, fun h => h2.o2 h.1, (hk.2 _ (blk_lt h2.h2) (PX_type h2 (.inr rfl))).trans h2.h2, Kd.R_mono hI hn, Kd.R_mono hK hn⟩, hb⟩
theorem px_rows {P : Nat → Prop} {base : Nat} {d : Kd Bool} : True := trivial
theorem LQ_own (h : LQ (PX w0.heap.size gb gx u1 u2 vI vK a b c fs ks) w0 w v m) : Kd.R Kd.bool 4 w w0.heap.size (fun k_ => vI.ownBlock = some k_) vI fs ∧ Kd.R (Kd.int .i64) 3 w w0.heap.size (fun k_ => vK.ownBlock = some k_) vK ks ∧ Below w0.heap.size w0 w := by
  obtain ⟨PT, h1, h2, h3⟩ := h
  exact ⟨Kd.R_flat (fun h => h) h2.rI (fun k e _ => e), Kd.R_flat (fun h => h) h2.rK (fun k e _ => e), h3⟩
/-- The reference's box takes what was handed back. -/
theorem LQ_put (h : LQ (PX w0.heap.size gb gx u1 u2 vI vK a b c fs ks) w0 w v m) (hg : w'.heap[gb]? = some (.cells #[vI, vK] 37 (0, 0))) (hk : ∀ k, k < w.heap.size → k ≠ gb → w'.heap[k]? = w.heap[k]?) (hb : Below w0.heap.size w0 w') : LQ (PX w0.heap.size gb gx vI vK vI vK a b c fs ks) w0 w' v m := by
  obtain ⟨PT, h1, h2, h3⟩ := h
  have hI : Kd.R Kd.bool 4 w w0.heap.size (fun k => ¬ PT k ∧ k ≠ gb) vI fs := Kd.R_flat (fun h => h) h2.rI (fun k e hk => ⟨hk, fun e2 => PX_type h2 (.inl e2) (.inl e)⟩)
  have hK : Kd.R (Kd.int .i64) 3 w w0.heap.size (fun k => ¬ PT k ∧ k ≠ gb) vK ks := Kd.R_flat (fun h => h) h2.rK (fun k e hk => ⟨hk, fun e2 => PX_type h2 (.inl e2) (.inr e)⟩)
  have hxb : gx ≠ gb := fun e => by
    have := h2.h2
    rw [e, h2.h1] at this
    injection this with this
    injection this with _ this
    exact absurd this (by decide)
  exact ⟨PT, QR_step h1 (fun k hp hl => hk k hl (fun e => h2.o1 (e ▸ hp))), ⟨h2.b1, h2.o1, hg, h2.b2, h2.o2, (hk _ (blk_lt h2.h2) hxb).trans h2.h2, Kd.R_mono (Kd.R_step hI (fun k hp hl => hk k hl hp.2)) (fun k hk => hk.1), Kd.R_mono (Kd.R_step hK (fun k hp hl => hk k hl hp.2)) (fun k hk => hk.1)⟩, hb⟩
end

section
variable {gb gx : Nat} {u1 u2 vI vK : Value} {a b c : Int} {fs : List Bool} {ks : List Int} {w0 w w' : World} {v : Value} {m : List (Option Int)}
theorem LQ_shape (h : LQ (PF w0.heap.size gb vI vK fs ks) w0 w v m) : ∃ AI cI AK cK, vI = .slice AI fs.length cI ∧ vK = .slice AK ks.length cK := by
  obtain ⟨PT, h1, h2, h3⟩ := h
  obtain ⟨AI, cI, e1⟩ := Kd.R_slice h2.rI
  obtain ⟨AK, cK, e2⟩ := Kd.R_slice h2.rK
  exact ⟨AI, cI, AK, cK, e1, e2⟩
theorem LQ_small (h : LQ (PX w0.heap.size gb gx u1 u2 vI vK a b c fs ks) w0 w v m) : m.length ≤ 1048576 := by
  obtain ⟨PT, h1, h2, h3⟩ := h
  exact h1.1
theorem LQ_cells (h : LQ (PX w0.heap.size gb gx u1 u2 vI vK a b c fs ks) w0 w v m) : w.cell? ⟨gx, 0, none⟩ = some (.int .i64 a) ∧ w.cell? ⟨gx, 1, none⟩ = some (.int .i64 b) ∧ w.cell? ⟨gx, 2, none⟩ = some (.int .i64 c) ∧ w.cell? ⟨gb, 0, none⟩ = some u1 ∧ w.cell? ⟨gb, 1, none⟩ = some u2 ∧ w.frozen? ⟨gb, 0, none⟩ = false ∧ w.frozen? ⟨gb, 1, none⟩ = false := by
  obtain ⟨PT, h1, h2, h3⟩ := h
  exact ⟨(blk_cell h2.h2 0).trans rfl, (blk_cell h2.h2 1).trans rfl, (blk_cell h2.h2 2).trans rfl, (blk_cell h2.h1 0).trans rfl, (blk_cell h2.h1 1).trans rfl, blk_frozen h2.h1 0, blk_frozen h2.h1 1⟩
theorem LQ_cellsF (h : LQ (PF w0.heap.size gb vI vK fs ks) w0 w v m) : w.cell? ⟨gb, 0, none⟩ = some vI ∧ w.cell? ⟨gb, 1, none⟩ = some vK ∧ w.frozen? ⟨gb, 0, none⟩ = false ∧ w.frozen? ⟨gb, 1, none⟩ = false := by
  obtain ⟨PT, h1, h2, h3⟩ := h
  exact ⟨(blk_cell h2.h1 0).trans rfl, (blk_cell h2.h1 1).trans rfl, blk_frozen h2.h1 0, blk_frozen h2.h1 1⟩
theorem LQ_gb (h : LQ (PX w0.heap.size gb gx u1 u2 vI vK a b c fs ks) w0 w v m) : w0.heap.size ≤ gb ∧ gb < w.heap.size ∧ w.heap[gb]? = some (.cells #[u1, u2] 37 (0, 0)) := by
  obtain ⟨PT, h1, h2, h3⟩ := h
  exact ⟨h2.b1, blk_lt h2.h1, h2.h1⟩
/-- Two cells of one block are written. -/
theorem two_set {g t : Nat} {x y x2 y2 : Value} (h : w.heap[g]? = some (.cells #[x, y] t (0, 0))) : ((w.setCell ⟨g, 0, none⟩ x2).setCell ⟨g, 1, none⟩ y2).heap[g]? = some (.cells #[x2, y2] t (0, 0)) ∧ ∀ k, k ≠ g → ((w.setCell ⟨g, 0, none⟩ x2).setCell ⟨g, 1, none⟩ y2).heap[k]? = w.heap[k]? :=
  ⟨blk_set (cs := #[x2, y]) (blk_set (cs := #[x, y]) h 0 x2) 1 y2, fun k hk => (Below.heap_setCell _ ⟨g, 1, none⟩ _ k hk).trans (Below.heap_setCell _ ⟨g, 0, none⟩ _ k hk)⟩
theorem three_set {g t : Nat} {x y z x2 y2 z2 : Value} (h : w.heap[g]? = some (.cells #[x, y, z] t (0, 0))) : (((w.setCell ⟨g, 0, none⟩ x2).setCell ⟨g, 1, none⟩ y2).setCell ⟨g, 2, none⟩ z2).heap[g]? = some (.cells #[x2, y2, z2] t (0, 0)) ∧ ∀ k, k ≠ g → (((w.setCell ⟨g, 0, none⟩ x2).setCell ⟨g, 1, none⟩ y2).setCell ⟨g, 2, none⟩ z2).heap[k]? = w.heap[k]? :=
  ⟨blk_set (cs := #[x2, y2, z]) (blk_set (cs := #[x2, y, z]) (blk_set (cs := #[x, y, z]) h 0 x2) 1 y2) 2 z2, fun k hk => (Below.heap_setCell _ ⟨g, 2, none⟩ _ k hk).trans ((Below.heap_setCell _ ⟨g, 1, none⟩ _ k hk).trans (Below.heap_setCell _ ⟨g, 0, none⟩ _ k hk))⟩
theorem LQ_begin {w1 w2 w3 w4 : World} {n : Nat} (h : LQ Non w0 w1 v m) (hI : Kd.R Kd.bool 4 w2 w1.heap.size (fun _ => True) vI fs) (hK : Kd.R (Kd.int .i64) 3 w2 w1.heap.size (fun _ => True) vK ks) (hb2 : Below w1.heap.size w1 w2) (hgb : w2.heap.size ≤ gb) (hb3 : Below w2.heap.size w2 w3)
    (hc : w4.heap[gb]? = some (.cells #[vI, vK] 37 (0, 0))) (hk : ∀ k, k ≠ gb → w4.heap[k]? = w3.heap[k]?) (hb4 : Below w0.heap.size w0 w4) : LQ (PF w0.heap.size gb vI vK fs ks) w0 w4 v m := by
  obtain ⟨PT, h1, _, h3⟩ := h
  have hs := h3.size
  have hs2 := hb2.size
  have st : ∀ k, k < w2.heap.size → w4.heap[k]? = w2.heap[k]? := fun k hl => (hk k (by omega)).trans (hb3.block k hl)
  refine ⟨fun k => PT k ∧ k < w1.heap.size, QR_step (QR_mono (QR_bound h1) (fun k hk => ⟨hk.1, hk.2.2⟩)) (fun k hp hl => (st k (by omega)).trans (hb2.block k hl)), ⟨by omega, fun h => by omega, hc, ?_, ?_⟩, hb4⟩
  · exact Kd.R_lower (Kd.R_mono (ok := fun k => w1.heap.size ≤ k ∧ k < w2.heap.size) (Kd.R_step (Kd.R_mono (Kd.R_bound hI) (fun k hk => ⟨hk.2.1, hk.2.2.1⟩)) (fun k hp hl => st k hl)) (fun k hk h => by omega)) hs
  · exact Kd.R_lower (Kd.R_mono (ok := fun k => w1.heap.size ≤ k ∧ k < w2.heap.size) (Kd.R_step (Kd.R_mono (Kd.R_bound hK) (fun k hk => ⟨hk.2.1, hk.2.2.1⟩)) (fun k hp hl => st k hl)) (fun k hk h => by omega)) hs
section
variable {AI AK : Option Addr} {cI cK : Nat}
theorem LQ_refLen (h : LQ (PX w0.heap.size gb gx u1 u2 (.slice AI fs.length cI) (.slice AK ks.length cK) a b c fs ks) w0 w v m) {k : Nat} {r : Int} (hf : mapmakerref04_Len.f k fs ks = some r) :
    Calls Try.prog 20 #[.agg #[.slice AI fs.length cI, .slice AK ks.length cK]] w fun e w' => e = .returned (.int .i64 r) ∧ LQ (PX w0.heap.size gb gx u1 u2 (.slice AI fs.length cI) (.slice AK ks.length cK) a b c fs ks) w0 w' v m := by
  obtain ⟨PT, h1, h2, h3⟩ := id h
  obtain ⟨_, g1, g2⟩ := Kd.R_reads' h2.rI
  obtain ⟨_, g3, g4⟩ := Kd.R_reads' h2.rK
  exact (mapmakerref04_Len.calls k AI cI fs AK cK ks r w g2 g1 g4 g3 hf).mono fun e w' ⟨e1, e2⟩ => ⟨e1, LQ_step stay_px h e2⟩
theorem LQ_refKey (h : LQ (PX w0.heap.size gb gx u1 u2 (.slice AI fs.length cI) (.slice AK ks.length cK) a b c fs ks) w0 w v m) {x r : Int} {r2 : Bool} (hf : mapmakerref04_Key.f fs ks x = some (r, r2)) :
    Calls Try.prog 17 #[.agg #[.slice AI fs.length cI, .slice AK ks.length cK], .int .i64 x] w fun e w' => e = .returned (.tuple #[.int .i64 r, .bool r2]) ∧ LQ (PX w0.heap.size gb gx u1 u2 (.slice AI fs.length cI) (.slice AK ks.length cK) a b c fs ks) w0 w' v m := by
  obtain ⟨PT, h1, h2, h3⟩ := id h
  obtain ⟨_, g1, g2⟩ := Kd.R_reads' h2.rI
  obtain ⟨_, g3, g4⟩ := Kd.R_reads' h2.rK
  exact (mapmakerref04_Key.calls AI cI fs AK cK ks x r r2 w g2 g1 g4 g3 hf).mono fun e w' ⟨e1, e2⟩ => ⟨e1, LQ_step stay_px h e2⟩
end
theorem set_len {m m2 : List (Option Int)} {x k : Int} {r : Bool} (h : pq_Queue_Set.f m x k = some (r, m2)) : m2.length = m.length := by
  unfold pq_Queue_Set.f at h
  injection h with h
  split at h <;> cases h
  · rw [List.length_set]
  · rfl
theorem drop_len {m m2 : List (Option Int)} {x : Int} {r : Bool} (h : pq_Queue_Drop.f m x = some (r, m2)) : m2.length = m.length := by
  unfold pq_Queue_Drop.f at h
  injection h with h
  split at h
  · split at h <;> cases h
    · rw [List.length_set]
    · rfl
  · cases h
    rfl
theorem pop_len {m m2 : List (Option Int)} {r1 r2 : Int} {r3 : Bool} (h : pq_Queue_Pop.f m = some (r1, r2, r3, m2)) : m2.length = m.length := by
  unfold pq_Queue_Pop.f at h
  injection h with h
  split at h <;> cases h
  · rfl
  · rw [List.length_set]
/-- What a call of the reference leaves, the slices in sight. -/
def RefPost (w0 : World) (gb gx : Nat) (u1 u2 : Value) (a b c : Int) (fs2 : List Bool) (ks2 : List Int) (v : Value) (m : List (Option Int)) (mk : Value → Value) (e : Ending) (w' : World) : Prop :=
  ∃ AI cI AK cK, e = .returned (mk (.agg #[.slice AI fs2.length cI, .slice AK ks2.length cK])) ∧ LQ (PX w0.heap.size gb gx u1 u2 (.slice AI fs2.length cI) (.slice AK ks2.length cK) a b c fs2 ks2) w0 w' v m
theorem RefPost.of (h : LQ (PX w0.heap.size gb gx u1 u2 vI vK a b c fs ks) w0 w v m) {mk : Value → Value} {fs2 : List Bool} {ks2 : List Int} {v0 v1 : Value}
    (hI : Kd.R Kd.bool 4 w' w0.heap.size (fun k_ => ((vI.ownBlock = some k_ ∨ vK.ownBlock = some k_) ∨ w.heap.size ≤ k_)) v0 fs2) (hK : Kd.R (Kd.int .i64) 3 w' w0.heap.size (fun k_ => ((vI.ownBlock = some k_ ∨ vK.ownBlock = some k_) ∨ w.heap.size ≤ k_)) v1 ks2) (hb : Below w0.heap.size w0 w') (hk : Kept w w' (fun k_ => vI.ownBlock = some k_ ∨ vK.ownBlock = some k_)) :
    RefPost w0 gb gx u1 u2 a b c fs2 ks2 v m mk (.returned (mk (.agg #[v0, v1]))) w' := by
  have := LQ_ref h hI hK hb hk
  obtain ⟨AI, cI, rfl⟩ := Kd.R_slice hI
  obtain ⟨AK, cK, rfl⟩ := Kd.R_slice hK
  exact ⟨AI, cI, AK, cK, rfl, this⟩
theorem LQ_refSet (h : LQ (PX w0.heap.size gb gx u1 u2 vI vK a b c fs ks) w0 w v m) {x k : Int} {r : Bool} {fs2 : List Bool} {ks2 : List Int} (hf : mapmakerref04_Set.f fs ks x k = some (fs2, ks2, r)) :
    Calls Try.prog 15 #[.agg #[vI, vK], .int .i64 x, .int .i64 k] w (RefPost w0 gb gx u1 u2 a b c fs2 ks2 v m (fun q => .tuple #[q, .bool r])) := by
  obtain ⟨g1, g2, g3⟩ := LQ_own h
  refine (mapmakerref04_Set.calls _ vI fs _ vK ks x k fs2 ks2 r w0 w g3 g1 g2 hf).mono ?_
  rintro e w' ⟨v0, v1, rfl, h1, h2, h3, h4⟩
  exact RefPost.of h h1 h2 h3 h4
theorem LQ_refDrop (h : LQ (PX w0.heap.size gb gx u1 u2 vI vK a b c fs ks) w0 w v m) {x : Int} {r : Bool} {fs2 : List Bool} {ks2 : List Int} (hf : mapmakerref04_Drop.f fs ks x = some (fs2, ks2, r)) :
    Calls Try.prog 18 #[.agg #[vI, vK], .int .i64 x] w (RefPost w0 gb gx u1 u2 a b c fs2 ks2 v m (fun q => .tuple #[q, .bool r])) := by
  obtain ⟨g1, g2, g3⟩ := LQ_own h
  refine (mapmakerref04_Drop.calls _ vI fs _ vK ks x fs2 ks2 r w0 w g3 g1 g2 hf).mono ?_
  rintro e w' ⟨v0, v1, rfl, h1, h2, h3, h4⟩
  exact RefPost.of h h1 h2 h3 h4
theorem LQ_refPop (h : LQ (PX w0.heap.size gb gx u1 u2 vI vK a b c fs ks) w0 w v m) {n : Nat} {r1 r2 : Int} {r3 : Bool} {fs2 : List Bool} {ks2 : List Int} (hf : mapmakerref04_Pop.f n fs ks = some (fs2, ks2, r1, r2, r3)) :
    Calls Try.prog 19 #[.agg #[vI, vK]] w (RefPost w0 gb gx u1 u2 a b c fs2 ks2 v m (fun q => .tuple #[q, .agg #[.int .i64 r1, .int .i64 r2, .bool r3]])) := by
  obtain ⟨g1, g2, g3⟩ := LQ_own h
  refine (mapmakerref04_Pop.calls n _ vI fs _ vK ks fs2 ks2 r1 r2 r3 w0 w g3 g1 g2 hf).mono ?_
  rintro e w' ⟨v0, v1, rfl, h1, h2, h3, h4⟩
  exact RefPost.of h h1 h2 h3 h4
end

def PlayRel (w w' : World) (v : Value) (gb nl g n : Nat) (i : Int) : Prop := 0 ≤ i ∧ i ≤ nl ∧ nl ≤ i + g ∧ ∃ m vI vK fs ks, LQ (PF w.heap.size gb vI vK fs ks) w w' v m ∧ RefI m fs ks ∧ m.length = n

set_option maxHeartbeats 16000000 in
set_option maxRecDepth 1000000 in
theorem PqPlays_walk (a0 : Int) (A0 : Option Addr) (c0 : Nat) (l0 : List S40) (w : World) (hr0 : k40.C w A0 l0.length l0) :
    Calls Try.prog 6 #[.int .i64 a0, .slice A0 l0.length c0] w (LawPost w true) := by
  have HR := Aside0.mk hr0
  clear hr0
  have HB0 := Aside0.mk (Below.refl w.heap.size w)
  by_cases hn : 0 ≤ a0 ∧ a0 ≤ 100 ∧ (l0.length : Int) ≤ 200
  case neg =>
    by_cases c1 : a0 < 0
    · clear hn
      go_enter Try.func6, Try.ntmps6
      go_wp2_with (first | (go_at_call 8; refine (lives.calls w).mono ?_; rintro e w2 ⟨rfl, hb⟩; have HB := Aside0.mk hb; clear hb))
      go_ret
      exact ⟨by first | rfl | (simp; done), HB.out⟩
    · have c1b : decide (a0 < 0) = false := decide_eq_false c1
      by_cases c2 : 100 < a0
      · clear hn c1
        go_enter Try.func6, Try.ntmps6
        go_wp2_with (first | (go_at_call 8; refine (lives.calls w).mono ?_; rintro e w2 ⟨rfl, hb⟩; have HB := Aside0.mk hb; clear hb))
        go_ret
        exact ⟨by first | rfl | (simp; done), HB.out⟩
      · have c2b : decide (100 < a0) = false := decide_eq_false c2
        have c3 : (200 : Int) < (l0.length : Int) := by omega
        clear hn c1 c2
        go_enter Try.func6, Try.ntmps6
        go_wp2_with (first | (go_at_call 8; refine (lives.calls w).mono ?_; rintro e w2 ⟨rfl, hb⟩; have HB := Aside0.mk hb; clear hb))
        go_ret
        exact ⟨by first | rfl | (simp; done), HB.out⟩
  obtain ⟨hn0, hn1, hl⟩ := hn
  obtain ⟨n, rfl⟩ : ∃ n : Nat, a0 = n := ⟨a0.toNat, by omega⟩
  have HN := Aside0.mk (LQ_New HB0.out n (List.replicate n none) (by unfold pq_New.f; rw [if_pos (by omega)]; simp))
  have HRN := Aside0.mk (fun w1 => mapmakerref04_New.calls n (List.replicate n false) (List.replicate n 0) w1 (by unfold mapmakerref04_New.f; rw [if_pos hn0, if_pos (by omega), if_pos (by omega)]; simp))
  have d1 : decide ((n : Int) < 0) = false := decide_eq_false (by omega)
  have d2 : decide (100 < (n : Int)) = false := decide_eq_false (by omega)
  have d3 : decide ((200 : Int) < (l0.length : Int)) = false := decide_eq_false (by omega)
  go_enter Try.func6, Try.ntmps6
  go_wp2_with (first
    | (go_at_call 9; refine (HN.out).mono ?_; rintro e w1 ⟨p, rfl, h1, _, h3⟩; have HQ := Aside0.mk (show LQ Non w w1 (.pointer (some ⟨p, 0, none⟩)) (List.replicate n none) from ⟨_, h1, trivial, h3⟩); clear h1 h3)
    | (go_at_call 14; refine (HRN.out _).mono ?_; rintro e w2 ⟨vI, vK, rfl, h1, h2, hb⟩; have HRI := Aside0.mk h1; have HRK := Aside0.mk h2; have HB2 := Aside0.mk hb; obtain ⟨AI0, cI0, eI⟩ := Kd.R_slice h1; obtain ⟨AK0, cK0, eK⟩ := Kd.R_slice h2; rw [List.length_replicate] at eI eK; subst eI; subst eK; clear h1 h2 hb)
    | ((with_reducible refine gate_dst (N := 6) rfl ?_); refine box_event ?hg6 (N := 6) ?hd6 (cs := #[.slice none 0 0, .slice none 0 0]) (t := 37) ?hr6 ?_; (case hd6 => rfl); (case hg6 => rfl); (case hr6 => first | (go_simp; done) | (go_simp; rfl)); intro gb hg_ w3 hbox_ hb_; have HB3 := Aside0.mk hb_; have BK3 := Aside0.mk hbox_; have HG3 := Aside0.mk (show w2.heap.size ≤ gb from by rw [hg_]; exact Nat.le_refl _); have e0 := (blk_cell hbox_ 0).trans rfl; have e1 := (blk_cell hbox_ 1).trans rfl; have f0 := blk_frozen hbox_ 0; have f1 := blk_frozen hbox_ 1; clear hg_ hbox_ hb_)
    | ((with_reducible refine gate_store (t := 37) (p := 6) rfl ?_); refine store_event (t := 37) (p := 6) (v := ?voa) (w1 := ((w3.setCell ⟨gb, 0, none⟩ (.slice AI0 n cI0)).setCell ⟨gb, 1, none⟩ (.slice AK0 n cK0))) ?hga ?hoa ?hna ?hra ?_; (case hoa => rfl); (case hga => rfl); (case hna => rfl); (case hra => first | (go_simp; done) | (go_simp; rfl)); intro w4 hw; have HQ4 := Aside0.mk (show LQ (PF w.heap.size gb (.slice AI0 n cI0) (.slice AK0 n cK0) (List.replicate n false) (List.replicate n 0)) w w4 (.pointer (some ⟨p, 0, none⟩)) (List.replicate n none) from by (rw [hw]; obtain ⟨s1, s2⟩ := two_set (x2 := .slice AI0 n cI0) (y2 := .slice AK0 n cK0) BK3.out; have hz := HQ.out.below.size; have hz2 := HB2.out.size; have hz3 := HG3.out; exact LQ_begin (n := n) HQ.out HRI.out HRK.out HB2.out HG3.out HB3.out s1 s2 (below_set (below_set (below_step (below_step HQ.out.below HB2.out) HB3.out) (by omega)) (by omega)))); clear hw e0 e1 f0 f1 BK3))
  have HRef := Aside0.mk (ref_new n)
  clear HN HRN d1 d2 d3
  go_loopg [7] l0.length (fun g vi wr => ∃ i : Int, vi = .int .i64 i ∧ PlayRel w wr (.pointer (some ⟨p, 0, none⟩)) gb l0.length g n i)
  case atStart => exact ⟨0, rfl, by omega, by omega, by omega, _, _, _, _, _, HQ4.out, HRef.out, by simp⟩
  case round =>
    clear HQ4 HRef HQ HRI HRK HB2 HB3 HG3
    obtain ⟨i, rfl, i0, i1, hg, m, vI, vK, fs, ks, hq, href, hmn⟩ := hrel
    obtain ⟨AI, cI, AK, cK, rfl, rfl⟩ := LQ_shape hq
    have HQ := Aside0.mk hq
    have HRef := Aside0.mk href
    have HMN := Aside0.mk hmn
    clear hq href hmn
    by_cases c : i < (l0.length : Int)
    case neg =>
      go_wp2_with (first | (go_at_call 8; refine (lives.calls _).mono ?_; rintro e w2 ⟨rfl, hb⟩; have HB := Aside0.mk (below_step HQ.out.below hb); clear hb))
      go_ret
      exact ⟨by first | rfl | (simp; done), HB.out⟩
    obtain ⟨ad, e, hx0, hx1, hx2⟩ := at_T40 (Kd.C_below HR.out HQ.out.below) i i0 c
    subst e
    obtain ⟨a, ha⟩ : ∃ a, (rd_T40 l0 i).f0 = a := ⟨_, rfl⟩
    obtain ⟨b, hb⟩ : ∃ b, (rd_T40 l0 i).f1 = b := ⟨_, rfl⟩
    obtain ⟨cc, hcc⟩ : ∃ c, (rd_T40 l0 i).f2 = c := ⟨_, rfl⟩
    rw [ha] at hx0
    rw [hb] at hx1
    rw [hcc] at hx2
    clear ha hb hcc
    by_cases k0 : a = 0
    · subst k0
      obtain ⟨r, m2, fs2, ks2, hf1, hf2, hr2⟩ := ref_set HRef.out b cc
      have hm2 : m2.length = n := (set_len hf1).trans HMN.out
      have HC := Aside0.mk (fun gx w6 (h : LQ (PX w.heap.size gb gx (.slice AI fs.length cI) (.slice AK ks.length cK) (.slice AI fs.length cI) (.slice AK ks.length cK) 0 b cc fs ks) w w6 (.pointer (some ⟨p, 0, none⟩)) m) => LQ_Set stay_px h b cc r m2 hf1)
      have HF := Aside0.mk hf2
      have HR2 := Aside0.mk hr2
      clear HMN
      have HMN := Aside0.mk hm2
      clear hf1 hf2 hr2 hm2
      go_wp2_with (first
        | ((with_reducible refine gate_dst (N := 8) rfl ?_); refine box_event ?hg8_q9 (N := 8) ?hd8_q9 (cs := #[.int .i64 0, .int .i64 0, .int .i64 0]) (t := 40) ?hr8_q9 ?_; (case hd8_q9 => rfl); (case hg8_q9 => rfl); (case hr8_q9 => first | (go_simp; done) | (go_simp; rfl)); intro gx hg_ w5 hbox_ hb_; have HB5 := Aside0.mk hb_; have BK5 := Aside0.mk hbox_; have HG5 := Aside0.mk (show wr.heap.size ≤ gx from by rw [hg_]; exact Nat.le_refl _); have e0 := (blk_cell hbox_ 0).trans rfl; have e1 := (blk_cell hbox_ 1).trans rfl; have e2 := (blk_cell hbox_ 2).trans rfl; have f0 := blk_frozen hbox_ 0; have f1 := blk_frozen hbox_ 1; have f2 := blk_frozen hbox_ 2; clear hg_ hbox_ hb_ hx0 hx1 hx2)
        | ((with_reducible refine gate_store (t := 40) (p := 8) rfl ?_); refine store_event (t := 40) (p := 8) (v := ?vob_q9) (w1 := (((w5.setCell ⟨gx, 0, none⟩ (.int .i64 0)).setCell ⟨gx, 1, none⟩ (.int .i64 b)).setCell ⟨gx, 2, none⟩ (.int .i64 cc))) ?hgb_q9 ?hob_q9 ?hnb_q9 ?hrb_q9 ?_; (case hob_q9 => rfl); (case hgb_q9 => rfl); (case hnb_q9 => rfl); (case hrb_q9 => first | (go_simp; done) | (go_simp; rfl)); intro w6 hw; have HQ6 := Aside0.mk (show LQ (PX w.heap.size gb gx (.slice AI fs.length cI) (.slice AK ks.length cK) (.slice AI fs.length cI) (.slice AK ks.length cK) 0 b cc fs ks) w w6 (.pointer (some ⟨p, 0, none⟩)) m from by (rw [hw]; obtain ⟨s1, s2⟩ := three_set (x2 := .int .i64 0) (y2 := .int .i64 b) (z2 := .int .i64 cc) BK5.out; have hz := HG5.out; exact LQ_op HQ.out (below_set (below_set (below_set HB5.out hz) hz) hz) s1 hz)); clear hw e0 e1 e2 f0 f1 f2 BK5 HQ; obtain ⟨x0, x1, x2, y0, y1, z0, z1⟩ := LQ_cells HQ6.out)
        | (go_at_call 10; refine (HC.out _ _ HQ6.out).mono ?_; rintro e w7 ⟨rfl, h⟩; have HQ7 := Aside0.mk h; clear h; clear x0 x1 x2 y0 y1 z0 z1; obtain ⟨x0, x1, x2, y0, y1, z0, z1⟩ := LQ_cells HQ7.out)
        | (go_at_call 15; refine (LQ_refSet HQ7.out HF.out).mono ?_; rintro e w8 ⟨AI2, cI2, AK2, cK2, rfl, h⟩; have HQ8 := Aside0.mk h; clear h; clear x0 x1 x2 y0 y1 z0 z1; obtain ⟨x0, x1, x2, y0, y1, z0, z1⟩ := LQ_cells HQ8.out)
        | ((with_reducible refine gate_dst (N := 10) rfl ?_); refine box_event ?hg10_q9 (N := 10) ?hd10_q9 (cs := #[.slice none 0 0, .slice none 0 0]) (t := 37) ?hr10_q9 ?_; (case hd10_q9 => rfl); (case hg10_q9 => rfl); (case hr10_q9 => first | (go_simp; done) | (go_simp; rfl)); intro gy hg_ w9 hbox_ hb_; have HB9 := Aside0.mk hb_; have BK9 := Aside0.mk hbox_; have HG9 := Aside0.mk (show w8.heap.size ≤ gy from by rw [hg_]; exact Nat.le_refl _); have e0 := (blk_cell hbox_ 0).trans rfl; have e1 := (blk_cell hbox_ 1).trans rfl; have f0 := blk_frozen hbox_ 0; have f1 := blk_frozen hbox_ 1; clear hg_ hbox_ hb_; clear x0 x1 x2 y0 y1 z0 z1; obtain ⟨x0, x1, x2, y0, y1, z0, z1⟩ := LQ_cells (LQ_step stay_px HQ8.out HB9.out))
        | ((with_reducible refine gate_store (t := 37) (p := 10) rfl ?_); refine store_event (t := 37) (p := 10) (v := ?voy_q9) (w1 := ((w9.setCell ⟨gy, 0, none⟩ (.slice AI2 fs2.length cI2)).setCell ⟨gy, 1, none⟩ (.slice AK2 ks2.length cK2))) ?hgy_q9 ?hoy_q9 ?hny_q9 ?hry_q9 ?_; (case hoy_q9 => rfl); (case hgy_q9 => rfl); (case hny_q9 => rfl); (case hry_q9 => first | (go_simp; done) | (go_simp; rfl)); intro w10 hw; have HS10 := Aside0.mk (show w10.heap[gy]? = some (.cells #[.slice AI2 fs2.length cI2, .slice AK2 ks2.length cK2] 37 (0, 0)) from by (rw [hw]; exact (two_set BK9.out).1)); have HB10 := Aside0.mk (show Below w8.heap.size w8 w10 from by (rw [hw]; exact below_set (below_set HB9.out HG9.out) HG9.out)); clear hw e0 e1 f0 f1 BK9 HB9; clear x0 x1 x2 y0 y1 z0 z1; have e0 := (blk_cell HS10.out 0).trans rfl; have e1 := (blk_cell HS10.out 1).trans rfl; obtain ⟨x0, x1, x2, y0, y1, z0, z1⟩ := LQ_cells (LQ_step stay_px HQ8.out HB10.out))
        | ((with_reducible refine gate_store (t := 37) (p := 6) rfl ?_); refine store_event (t := 37) (p := 6) (v := ?voz_q9) (w1 := ((w10.setCell ⟨gb, 0, none⟩ (.slice AI2 fs2.length cI2)).setCell ⟨gb, 1, none⟩ (.slice AK2 ks2.length cK2))) ?hgz_q9 ?hoz_q9 ?hnz_q9 ?hrz_q9 ?_; (case hoz_q9 => rfl); (case hgz_q9 => rfl); (case hnz_q9 => rfl); (case hrz_q9 => first | (go_simp; done) | (go_simp; rfl)); intro w11 hw; have HQ11 := Aside0.mk (show LQ (PX w.heap.size gb gx (.slice AI2 fs2.length cI2) (.slice AK2 ks2.length cK2) (.slice AI2 fs2.length cI2) (.slice AK2 ks2.length cK2) 0 b cc fs2 ks2) w w11 (.pointer (some ⟨p, 0, none⟩)) m2 from by (rw [hw]; have hh := LQ_step stay_px HQ8.out HB10.out; obtain ⟨s0, s1, s2⟩ := LQ_gb hh; obtain ⟨t1, t2⟩ := two_set (x2 := .slice AI2 fs2.length cI2) (y2 := .slice AK2 ks2.length cK2) s2; exact LQ_put hh t1 (fun k _ hk => t2 k hk) (below_set (below_set hh.below s0) s0))); clear hw e0 e1 HS10 HB10; clear x0 x1 x2 y0 y1 z0 z1; obtain ⟨x0, x1, x2, y0, y1, z0, z1⟩ := LQ_cells HQ11.out))
      obtain ⟨kl, hlen⟩ := ref_len HR2.out (LQ_small HQ11.out)
      have HLen := Aside0.mk hlen
      clear hlen
      refine start_ (n := 5) (S := fun w' => LQ (PX w.heap.size gb gx (.slice AI2 fs2.length cI2) (.slice AK2 ks2.length cK2) (.slice AI2 fs2.length cI2) (.slice AK2 ks2.length cK2) 0 b cc fs2 ks2) w w' (.pointer (some ⟨p, 0, none⟩)) m2) (ds := []) #[false, false, false, false, false] (by kernel_rfl) rfl rfl (LQ_step stay_px HQ11.out (below_drew (Below.refl _ _))) (fun hHeld => ?_)
      generalize w11.drew = wq at hHeld ⊢
      refine pure_ (i := 0) (N := some 148) (v := ?_) (a' := ?_) #[true, false, false, false, false] rfl rfl (by kernel_rfl) (fun _ _ _ h => h) (Or.inl ⟨by rfl, ?_⟩) ?_ ?_
      rotate_left
      · intro w'
        go_simp
        with_reducible rfl
      rotate_left
      · simp only [Act.put, List.setIfInBounds_toArray, List.set_cons_zero, List.set_cons_succ, i64_w, i32_w]
        rfl
      refine take_ (i := 2) (N := some 150) (v := ?_) (a' := ?_) #[true, false, true, false, false] rfl rfl (by kernel_rfl) (fun _ _ _ h => h) (Or.inl ⟨by rfl, ?_⟩) hHeld ?_ ?_
      rotate_left
      · rintro w' hS
        obtain ⟨x0, x1, x2, y0, y1, z0, z1⟩ := LQ_cells hS
        go_simp
        with_reducible rfl
      rotate_left
      · simp only [Act.put, List.setIfInBounds_toArray, List.set_cons_zero, List.set_cons_succ, i64_w, i32_w]
        rfl
      refine one_ (i := 1) (N := some 149) #[true, true, true, false, false] rfl rfl (by kernel_rfl) (by decide) (fun K hK => ?_)
      refine goes_ Try.func12 (by kernel_rfl) rfl #[.pointer (some ⟨p, 0, none⟩)] (by rfl) rfl rfl (by first | rfl | (go_simp; done) | (simp [Act.eval]; done) | kernel_rfl) ?_
      refine (LQ_LenQ stay_px hHeld (cnt m2 : Int) rfl).mono ?_
      rintro e wa ⟨rfl, hS⟩
      refine ⟨_, rfl, ?_⟩
      clear hHeld
      refine hK.out _ _ hS (fun hHeld => ?_)
      clear hK K hS
      refine norm_ (a' := ?_) ?_ ?_
      rotate_left
      · show Act.put _ (some 149) _ = _
        simp only [Act.put, List.setIfInBounds_toArray, List.set_cons_zero, List.set_cons_succ, i64_w, i32_w]
        rfl
      refine one_ (i := 3) (N := some 151) #[true, true, true, true, false] rfl rfl (by kernel_rfl) (by decide) (fun K hK => ?_)
      refine goes_ Try.func20 (by kernel_rfl) rfl #[.agg #[.slice AI2 fs2.length cI2, .slice AK2 ks2.length cK2]] (by rfl) rfl rfl (by first | rfl | (go_simp; done) | (simp [Act.eval]; done) | kernel_rfl) ?_
      refine (LQ_refLen hHeld HLen.out).mono ?_
      rintro e wa ⟨rfl, hS⟩
      refine ⟨_, rfl, ?_⟩
      clear hHeld
      refine hK.out _ _ hS (fun hHeld => ?_)
      clear hK K hS
      refine norm_ (a' := ?_) ?_ ?_
      rotate_left
      · show Act.put _ (some 151) _ = _
        simp only [Act.put, List.setIfInBounds_toArray, List.set_cons_zero, List.set_cons_succ, i64_w, i32_w]
        rfl
      have HQz := Aside0.mk hHeld
      refine pure_ (i := 4) (N := some 152) (v := ?_) (a' := ?_) #[true, true, true, true, true] rfl rfl (by kernel_rfl) (fun _ _ _ h => h) (Or.inl ⟨by rfl, ?_⟩) ?_ ?_
      rotate_left
      · intro w'
        go_simp
        with_reducible rfl
      rotate_left
      · simp only [Act.put, List.setIfInBounds_toArray, List.set_cons_zero, List.set_cons_succ, i64_w, i32_w]
        rfl
      refine done_ (by kernel_rfl) ?_
      clear hHeld
      go_wp2
      go_roundg (l0.length - (i + 1)).toNat
      case measure => omega
      case rel => exact ⟨i + 1, by first | rfl | go_num | (congr 1; unfold wrap64; omega), by omega, by omega, by omega, m2, _, _, fs2, ks2, LQ_back HQz.out, HR2.out, HMN.out⟩
    have k0b : (a == 0) = false := beq_eq_false_iff_ne.2 k0
    by_cases k1 : a = 1
    · subst k1
      clear k0 k0b
      obtain ⟨r, r2, hf1, hf2⟩ := ref_key HRef.out b
      have HC := Aside0.mk (fun gx w6 (h : LQ (PX w.heap.size gb gx (.slice AI fs.length cI) (.slice AK ks.length cK) (.slice AI fs.length cI) (.slice AK ks.length cK) 1 b cc fs ks) w w6 (.pointer (some ⟨p, 0, none⟩)) m) => LQ_KeyQ stay_px h b r r2 hf1)
      have HF := Aside0.mk hf2
      clear hf1 hf2
      go_wp2_with (first
        | ((with_reducible refine gate_dst (N := 8) rfl ?_); refine box_event ?hg8_q1 (N := 8) ?hd8_q1 (cs := #[.int .i64 0, .int .i64 0, .int .i64 0]) (t := 40) ?hr8_q1 ?_; (case hd8_q1 => rfl); (case hg8_q1 => rfl); (case hr8_q1 => first | (go_simp; done) | (go_simp; rfl)); intro gx hg_ w5 hbox_ hb_; have HB5 := Aside0.mk hb_; have BK5 := Aside0.mk hbox_; have HG5 := Aside0.mk (show wr.heap.size ≤ gx from by rw [hg_]; exact Nat.le_refl _); have e0 := (blk_cell hbox_ 0).trans rfl; have e1 := (blk_cell hbox_ 1).trans rfl; have e2 := (blk_cell hbox_ 2).trans rfl; have f0 := blk_frozen hbox_ 0; have f1 := blk_frozen hbox_ 1; have f2 := blk_frozen hbox_ 2; clear hg_ hbox_ hb_ hx0 hx1 hx2)
        | ((with_reducible refine gate_store (t := 40) (p := 8) rfl ?_); refine store_event (t := 40) (p := 8) (v := ?vob_q1) (w1 := (((w5.setCell ⟨gx, 0, none⟩ (.int .i64 1)).setCell ⟨gx, 1, none⟩ (.int .i64 b)).setCell ⟨gx, 2, none⟩ (.int .i64 cc))) ?hgb_q1 ?hob_q1 ?hnb_q1 ?hrb_q1 ?_; (case hob_q1 => rfl); (case hgb_q1 => rfl); (case hnb_q1 => rfl); (case hrb_q1 => first | (go_simp; done) | (go_simp; rfl)); intro w6 hw; have HQ6 := Aside0.mk (show LQ (PX w.heap.size gb gx (.slice AI fs.length cI) (.slice AK ks.length cK) (.slice AI fs.length cI) (.slice AK ks.length cK) 1 b cc fs ks) w w6 (.pointer (some ⟨p, 0, none⟩)) m from by (rw [hw]; obtain ⟨s1, s2⟩ := three_set (x2 := .int .i64 1) (y2 := .int .i64 b) (z2 := .int .i64 cc) BK5.out; have hz := HG5.out; exact LQ_op HQ.out (below_set (below_set (below_set HB5.out hz) hz) hz) s1 hz)); clear hw e0 e1 e2 f0 f1 f2 BK5 HQ; obtain ⟨x0, x1, x2, y0, y1, z0, z1⟩ := LQ_cells HQ6.out)
        | (go_at_call 16; refine (HC.out _ _ HQ6.out).mono ?_; rintro e w7 ⟨rfl, h⟩; have HQ7 := Aside0.mk h; clear h; clear x0 x1 x2 y0 y1 z0 z1; obtain ⟨x0, x1, x2, y0, y1, z0, z1⟩ := LQ_cells HQ7.out)
        | (go_at_call 17; refine (LQ_refKey HQ7.out HF.out).mono ?_; rintro e w8 ⟨rfl, h⟩; have HQ8 := Aside0.mk h; clear h; clear x0 x1 x2 y0 y1 z0 z1; obtain ⟨x0, x1, x2, y0, y1, z0, z1⟩ := LQ_cells HQ8.out))
      obtain ⟨kl, hlen⟩ := ref_len HRef.out (LQ_small HQ8.out)
      have HLen := Aside0.mk hlen
      clear hlen
      refine start_ (n := 5) (S := fun w' => LQ (PX w.heap.size gb gx (.slice AI fs.length cI) (.slice AK ks.length cK) (.slice AI fs.length cI) (.slice AK ks.length cK) 1 b cc fs ks) w w' (.pointer (some ⟨p, 0, none⟩)) m) (ds := []) #[false, false, false, false, false] (by kernel_rfl) rfl rfl (LQ_step stay_px HQ8.out (below_drew (Below.refl _ _))) (fun hHeld => ?_)
      generalize w8.drew = wq at hHeld ⊢
      refine pure_ (i := 0) (N := some 148) (v := ?_) (a' := ?_) #[true, false, false, false, false] rfl rfl (by kernel_rfl) (fun _ _ _ h => h) (Or.inl ⟨by rfl, ?_⟩) ?_ ?_
      rotate_left
      · intro w'
        go_simp
        with_reducible rfl
      rotate_left
      · simp only [Act.put, List.setIfInBounds_toArray, List.set_cons_zero, List.set_cons_succ, i64_w, i32_w]
        rfl
      refine take_ (i := 2) (N := some 150) (v := ?_) (a' := ?_) #[true, false, true, false, false] rfl rfl (by kernel_rfl) (fun _ _ _ h => h) (Or.inl ⟨by rfl, ?_⟩) hHeld ?_ ?_
      rotate_left
      · rintro w' hS
        obtain ⟨x0, x1, x2, y0, y1, z0, z1⟩ := LQ_cells hS
        go_simp
        with_reducible rfl
      rotate_left
      · simp only [Act.put, List.setIfInBounds_toArray, List.set_cons_zero, List.set_cons_succ, i64_w, i32_w]
        rfl
      refine one_ (i := 1) (N := some 149) #[true, true, true, false, false] rfl rfl (by kernel_rfl) (by decide) (fun K hK => ?_)
      refine goes_ Try.func12 (by kernel_rfl) rfl #[.pointer (some ⟨p, 0, none⟩)] (by rfl) rfl rfl (by first | rfl | (go_simp; done) | (simp [Act.eval]; done) | kernel_rfl) ?_
      refine (LQ_LenQ stay_px hHeld (cnt m : Int) rfl).mono ?_
      rintro e wa ⟨rfl, hS⟩
      refine ⟨_, rfl, ?_⟩
      clear hHeld
      refine hK.out _ _ hS (fun hHeld => ?_)
      clear hK K hS
      refine norm_ (a' := ?_) ?_ ?_
      rotate_left
      · show Act.put _ (some 149) _ = _
        simp only [Act.put, List.setIfInBounds_toArray, List.set_cons_zero, List.set_cons_succ, i64_w, i32_w]
        rfl
      refine one_ (i := 3) (N := some 151) #[true, true, true, true, false] rfl rfl (by kernel_rfl) (by decide) (fun K hK => ?_)
      refine goes_ Try.func20 (by kernel_rfl) rfl #[.agg #[.slice AI fs.length cI, .slice AK ks.length cK]] (by rfl) rfl rfl (by first | rfl | (go_simp; done) | (simp [Act.eval]; done) | kernel_rfl) ?_
      refine (LQ_refLen hHeld HLen.out).mono ?_
      rintro e wa ⟨rfl, hS⟩
      refine ⟨_, rfl, ?_⟩
      clear hHeld
      refine hK.out _ _ hS (fun hHeld => ?_)
      clear hK K hS
      refine norm_ (a' := ?_) ?_ ?_
      rotate_left
      · show Act.put _ (some 151) _ = _
        simp only [Act.put, List.setIfInBounds_toArray, List.set_cons_zero, List.set_cons_succ, i64_w, i32_w]
        rfl
      have HQz := Aside0.mk hHeld
      refine pure_ (i := 4) (N := some 152) (v := ?_) (a' := ?_) #[true, true, true, true, true] rfl rfl (by kernel_rfl) (fun _ _ _ h => h) (Or.inl ⟨by rfl, ?_⟩) ?_ ?_
      rotate_left
      · intro w'
        go_simp
        with_reducible rfl
      rotate_left
      · simp only [Act.put, List.setIfInBounds_toArray, List.set_cons_zero, List.set_cons_succ, i64_w, i32_w]
        rfl
      refine done_ (by kernel_rfl) ?_
      clear hHeld
      go_wp2
      go_roundg (l0.length - (i + 1)).toNat
      case measure => omega
      case rel => exact ⟨i + 1, by first | rfl | go_num | (congr 1; unfold wrap64; omega), by omega, by omega, by omega, m, _, _, fs, ks, LQ_back HQz.out, HRef.out, HMN.out⟩
    have k1b : (a == 1) = false := beq_eq_false_iff_ne.2 k1
    by_cases k2 : a = 2
    · subst k2
      clear k0 k1 k0b k1b
      obtain ⟨r, m2, fs2, ks2, hf1, hf2, hr2⟩ := ref_drop HRef.out b
      have hm2 : m2.length = n := (drop_len hf1).trans HMN.out
      have HC := Aside0.mk (fun gx w6 (h : LQ (PX w.heap.size gb gx (.slice AI fs.length cI) (.slice AK ks.length cK) (.slice AI fs.length cI) (.slice AK ks.length cK) 2 b cc fs ks) w w6 (.pointer (some ⟨p, 0, none⟩)) m) => LQ_Drop stay_px h b r m2 hf1)
      have HF := Aside0.mk hf2
      have HR2 := Aside0.mk hr2
      clear HMN
      have HMN := Aside0.mk hm2
      clear hf1 hf2 hr2 hm2
      go_wp2_with (first
        | ((with_reducible refine gate_dst (N := 8) rfl ?_); refine box_event ?hg8_q2 (N := 8) ?hd8_q2 (cs := #[.int .i64 0, .int .i64 0, .int .i64 0]) (t := 40) ?hr8_q2 ?_; (case hd8_q2 => rfl); (case hg8_q2 => rfl); (case hr8_q2 => first | (go_simp; done) | (go_simp; rfl)); intro gx hg_ w5 hbox_ hb_; have HB5 := Aside0.mk hb_; have BK5 := Aside0.mk hbox_; have HG5 := Aside0.mk (show wr.heap.size ≤ gx from by rw [hg_]; exact Nat.le_refl _); have e0 := (blk_cell hbox_ 0).trans rfl; have e1 := (blk_cell hbox_ 1).trans rfl; have e2 := (blk_cell hbox_ 2).trans rfl; have f0 := blk_frozen hbox_ 0; have f1 := blk_frozen hbox_ 1; have f2 := blk_frozen hbox_ 2; clear hg_ hbox_ hb_ hx0 hx1 hx2)
        | ((with_reducible refine gate_store (t := 40) (p := 8) rfl ?_); refine store_event (t := 40) (p := 8) (v := ?vob_q2) (w1 := (((w5.setCell ⟨gx, 0, none⟩ (.int .i64 2)).setCell ⟨gx, 1, none⟩ (.int .i64 b)).setCell ⟨gx, 2, none⟩ (.int .i64 cc))) ?hgb_q2 ?hob_q2 ?hnb_q2 ?hrb_q2 ?_; (case hob_q2 => rfl); (case hgb_q2 => rfl); (case hnb_q2 => rfl); (case hrb_q2 => first | (go_simp; done) | (go_simp; rfl)); intro w6 hw; have HQ6 := Aside0.mk (show LQ (PX w.heap.size gb gx (.slice AI fs.length cI) (.slice AK ks.length cK) (.slice AI fs.length cI) (.slice AK ks.length cK) 2 b cc fs ks) w w6 (.pointer (some ⟨p, 0, none⟩)) m from by (rw [hw]; obtain ⟨s1, s2⟩ := three_set (x2 := .int .i64 2) (y2 := .int .i64 b) (z2 := .int .i64 cc) BK5.out; have hz := HG5.out; exact LQ_op HQ.out (below_set (below_set (below_set HB5.out hz) hz) hz) s1 hz)); clear hw e0 e1 e2 f0 f1 f2 BK5 HQ; obtain ⟨x0, x1, x2, y0, y1, z0, z1⟩ := LQ_cells HQ6.out)
        | (go_at_call 13; refine (HC.out _ _ HQ6.out).mono ?_; rintro e w7 ⟨rfl, h⟩; have HQ7 := Aside0.mk h; clear h; clear x0 x1 x2 y0 y1 z0 z1; obtain ⟨x0, x1, x2, y0, y1, z0, z1⟩ := LQ_cells HQ7.out)
        | (go_at_call 18; refine (LQ_refDrop HQ7.out HF.out).mono ?_; rintro e w8 ⟨AI2, cI2, AK2, cK2, rfl, h⟩; have HQ8 := Aside0.mk h; clear h; clear x0 x1 x2 y0 y1 z0 z1; obtain ⟨x0, x1, x2, y0, y1, z0, z1⟩ := LQ_cells HQ8.out)
        | ((with_reducible refine gate_dst (N := 17) rfl ?_); refine box_event ?hg17_q2 (N := 17) ?hd17_q2 (cs := #[.slice none 0 0, .slice none 0 0]) (t := 37) ?hr17_q2 ?_; (case hd17_q2 => rfl); (case hg17_q2 => rfl); (case hr17_q2 => first | (go_simp; done) | (go_simp; rfl)); intro gy hg_ w9 hbox_ hb_; have HB9 := Aside0.mk hb_; have BK9 := Aside0.mk hbox_; have HG9 := Aside0.mk (show w8.heap.size ≤ gy from by rw [hg_]; exact Nat.le_refl _); have e0 := (blk_cell hbox_ 0).trans rfl; have e1 := (blk_cell hbox_ 1).trans rfl; have f0 := blk_frozen hbox_ 0; have f1 := blk_frozen hbox_ 1; clear hg_ hbox_ hb_; clear x0 x1 x2 y0 y1 z0 z1; obtain ⟨x0, x1, x2, y0, y1, z0, z1⟩ := LQ_cells (LQ_step stay_px HQ8.out HB9.out))
        | ((with_reducible refine gate_store (t := 37) (p := 17) rfl ?_); refine store_event (t := 37) (p := 17) (v := ?voy_q2) (w1 := ((w9.setCell ⟨gy, 0, none⟩ (.slice AI2 fs2.length cI2)).setCell ⟨gy, 1, none⟩ (.slice AK2 ks2.length cK2))) ?hgy_q2 ?hoy_q2 ?hny_q2 ?hry_q2 ?_; (case hoy_q2 => rfl); (case hgy_q2 => rfl); (case hny_q2 => rfl); (case hry_q2 => first | (go_simp; done) | (go_simp; rfl)); intro w10 hw; have HS10 := Aside0.mk (show w10.heap[gy]? = some (.cells #[.slice AI2 fs2.length cI2, .slice AK2 ks2.length cK2] 37 (0, 0)) from by (rw [hw]; exact (two_set BK9.out).1)); have HB10 := Aside0.mk (show Below w8.heap.size w8 w10 from by (rw [hw]; exact below_set (below_set HB9.out HG9.out) HG9.out)); clear hw e0 e1 f0 f1 BK9 HB9; clear x0 x1 x2 y0 y1 z0 z1; have e0 := (blk_cell HS10.out 0).trans rfl; have e1 := (blk_cell HS10.out 1).trans rfl; obtain ⟨x0, x1, x2, y0, y1, z0, z1⟩ := LQ_cells (LQ_step stay_px HQ8.out HB10.out))
        | ((with_reducible refine gate_store (t := 37) (p := 6) rfl ?_); refine store_event (t := 37) (p := 6) (v := ?voz_q2) (w1 := ((w10.setCell ⟨gb, 0, none⟩ (.slice AI2 fs2.length cI2)).setCell ⟨gb, 1, none⟩ (.slice AK2 ks2.length cK2))) ?hgz_q2 ?hoz_q2 ?hnz_q2 ?hrz_q2 ?_; (case hoz_q2 => rfl); (case hgz_q2 => rfl); (case hnz_q2 => rfl); (case hrz_q2 => first | (go_simp; done) | (go_simp; rfl)); intro w11 hw; have HQ11 := Aside0.mk (show LQ (PX w.heap.size gb gx (.slice AI2 fs2.length cI2) (.slice AK2 ks2.length cK2) (.slice AI2 fs2.length cI2) (.slice AK2 ks2.length cK2) 2 b cc fs2 ks2) w w11 (.pointer (some ⟨p, 0, none⟩)) m2 from by (rw [hw]; have hh := LQ_step stay_px HQ8.out HB10.out; obtain ⟨s0, s1, s2⟩ := LQ_gb hh; obtain ⟨t1, t2⟩ := two_set (x2 := .slice AI2 fs2.length cI2) (y2 := .slice AK2 ks2.length cK2) s2; exact LQ_put hh t1 (fun k _ hk => t2 k hk) (below_set (below_set hh.below s0) s0))); clear hw e0 e1 HS10 HB10; clear x0 x1 x2 y0 y1 z0 z1; obtain ⟨x0, x1, x2, y0, y1, z0, z1⟩ := LQ_cells HQ11.out))
      obtain ⟨kl, hlen⟩ := ref_len HR2.out (LQ_small HQ11.out)
      have HLen := Aside0.mk hlen
      clear hlen
      refine start_ (n := 5) (S := fun w' => LQ (PX w.heap.size gb gx (.slice AI2 fs2.length cI2) (.slice AK2 ks2.length cK2) (.slice AI2 fs2.length cI2) (.slice AK2 ks2.length cK2) 2 b cc fs2 ks2) w w' (.pointer (some ⟨p, 0, none⟩)) m2) (ds := []) #[false, false, false, false, false] (by kernel_rfl) rfl rfl (LQ_step stay_px HQ11.out (below_drew (Below.refl _ _))) (fun hHeld => ?_)
      generalize w11.drew = wq at hHeld ⊢
      refine pure_ (i := 0) (N := some 148) (v := ?_) (a' := ?_) #[true, false, false, false, false] rfl rfl (by kernel_rfl) (fun _ _ _ h => h) (Or.inl ⟨by rfl, ?_⟩) ?_ ?_
      rotate_left
      · intro w'
        go_simp
        with_reducible rfl
      rotate_left
      · simp only [Act.put, List.setIfInBounds_toArray, List.set_cons_zero, List.set_cons_succ, i64_w, i32_w]
        rfl
      refine take_ (i := 2) (N := some 150) (v := ?_) (a' := ?_) #[true, false, true, false, false] rfl rfl (by kernel_rfl) (fun _ _ _ h => h) (Or.inl ⟨by rfl, ?_⟩) hHeld ?_ ?_
      rotate_left
      · rintro w' hS
        obtain ⟨x0, x1, x2, y0, y1, z0, z1⟩ := LQ_cells hS
        go_simp
        with_reducible rfl
      rotate_left
      · simp only [Act.put, List.setIfInBounds_toArray, List.set_cons_zero, List.set_cons_succ, i64_w, i32_w]
        rfl
      refine one_ (i := 1) (N := some 149) #[true, true, true, false, false] rfl rfl (by kernel_rfl) (by decide) (fun K hK => ?_)
      refine goes_ Try.func12 (by kernel_rfl) rfl #[.pointer (some ⟨p, 0, none⟩)] (by rfl) rfl rfl (by first | rfl | (go_simp; done) | (simp [Act.eval]; done) | kernel_rfl) ?_
      refine (LQ_LenQ stay_px hHeld (cnt m2 : Int) rfl).mono ?_
      rintro e wa ⟨rfl, hS⟩
      refine ⟨_, rfl, ?_⟩
      clear hHeld
      refine hK.out _ _ hS (fun hHeld => ?_)
      clear hK K hS
      refine norm_ (a' := ?_) ?_ ?_
      rotate_left
      · show Act.put _ (some 149) _ = _
        simp only [Act.put, List.setIfInBounds_toArray, List.set_cons_zero, List.set_cons_succ, i64_w, i32_w]
        rfl
      refine one_ (i := 3) (N := some 151) #[true, true, true, true, false] rfl rfl (by kernel_rfl) (by decide) (fun K hK => ?_)
      refine goes_ Try.func20 (by kernel_rfl) rfl #[.agg #[.slice AI2 fs2.length cI2, .slice AK2 ks2.length cK2]] (by rfl) rfl rfl (by first | rfl | (go_simp; done) | (simp [Act.eval]; done) | kernel_rfl) ?_
      refine (LQ_refLen hHeld HLen.out).mono ?_
      rintro e wa ⟨rfl, hS⟩
      refine ⟨_, rfl, ?_⟩
      clear hHeld
      refine hK.out _ _ hS (fun hHeld => ?_)
      clear hK K hS
      refine norm_ (a' := ?_) ?_ ?_
      rotate_left
      · show Act.put _ (some 151) _ = _
        simp only [Act.put, List.setIfInBounds_toArray, List.set_cons_zero, List.set_cons_succ, i64_w, i32_w]
        rfl
      have HQz := Aside0.mk hHeld
      refine pure_ (i := 4) (N := some 152) (v := ?_) (a' := ?_) #[true, true, true, true, true] rfl rfl (by kernel_rfl) (fun _ _ _ h => h) (Or.inl ⟨by rfl, ?_⟩) ?_ ?_
      rotate_left
      · intro w'
        go_simp
        with_reducible rfl
      rotate_left
      · simp only [Act.put, List.setIfInBounds_toArray, List.set_cons_zero, List.set_cons_succ, i64_w, i32_w]
        rfl
      refine done_ (by kernel_rfl) ?_
      clear hHeld
      go_wp2
      go_roundg (l0.length - (i + 1)).toNat
      case measure => omega
      case rel => exact ⟨i + 1, by first | rfl | go_num | (congr 1; unfold wrap64; omega), by omega, by omega, by omega, m2, _, _, fs2, ks2, LQ_back HQz.out, HR2.out, HMN.out⟩
    have k2b : (a == 2) = false := beq_eq_false_iff_ne.2 k2
    by_cases k3 : a = 3
    · subst k3
      clear k0 k1 k2 k0b k1b k2b
      obtain ⟨r1, r2, r3, m2, fs2, ks2, kp, hf1, hf2, hr2⟩ := ref_pop HRef.out (by have := HMN.out; omega)
      have hm2 : m2.length = n := (pop_len hf1).trans HMN.out
      have HC := Aside0.mk (fun gx w6 (h : LQ (PX w.heap.size gb gx (.slice AI fs.length cI) (.slice AK ks.length cK) (.slice AI fs.length cI) (.slice AK ks.length cK) 3 b cc fs ks) w w6 (.pointer (some ⟨p, 0, none⟩)) m) => LQ_Pop stay_px h r1 r2 r3 m2 hf1)
      have HF := Aside0.mk hf2
      have HR2 := Aside0.mk hr2
      clear HMN
      have HMN := Aside0.mk hm2
      clear hf1 hf2 hr2 hm2
      go_wp2_with (first
        | ((with_reducible refine gate_dst (N := 8) rfl ?_); refine box_event ?hg8_q3 (N := 8) ?hd8_q3 (cs := #[.int .i64 0, .int .i64 0, .int .i64 0]) (t := 40) ?hr8_q3 ?_; (case hd8_q3 => rfl); (case hg8_q3 => rfl); (case hr8_q3 => first | (go_simp; done) | (go_simp; rfl)); intro gx hg_ w5 hbox_ hb_; have HB5 := Aside0.mk hb_; have BK5 := Aside0.mk hbox_; have HG5 := Aside0.mk (show wr.heap.size ≤ gx from by rw [hg_]; exact Nat.le_refl _); have e0 := (blk_cell hbox_ 0).trans rfl; have e1 := (blk_cell hbox_ 1).trans rfl; have e2 := (blk_cell hbox_ 2).trans rfl; have f0 := blk_frozen hbox_ 0; have f1 := blk_frozen hbox_ 1; have f2 := blk_frozen hbox_ 2; clear hg_ hbox_ hb_ hx0 hx1 hx2)
        | ((with_reducible refine gate_store (t := 40) (p := 8) rfl ?_); refine store_event (t := 40) (p := 8) (v := ?vob_q3) (w1 := (((w5.setCell ⟨gx, 0, none⟩ (.int .i64 3)).setCell ⟨gx, 1, none⟩ (.int .i64 b)).setCell ⟨gx, 2, none⟩ (.int .i64 cc))) ?hgb_q3 ?hob_q3 ?hnb_q3 ?hrb_q3 ?_; (case hob_q3 => rfl); (case hgb_q3 => rfl); (case hnb_q3 => rfl); (case hrb_q3 => first | (go_simp; done) | (go_simp; rfl)); intro w6 hw; have HQ6 := Aside0.mk (show LQ (PX w.heap.size gb gx (.slice AI fs.length cI) (.slice AK ks.length cK) (.slice AI fs.length cI) (.slice AK ks.length cK) 3 b cc fs ks) w w6 (.pointer (some ⟨p, 0, none⟩)) m from by (rw [hw]; obtain ⟨s1, s2⟩ := three_set (x2 := .int .i64 3) (y2 := .int .i64 b) (z2 := .int .i64 cc) BK5.out; have hz := HG5.out; exact LQ_op HQ.out (below_set (below_set (below_set HB5.out hz) hz) hz) s1 hz)); clear hw e0 e1 e2 f0 f1 f2 BK5 HQ; obtain ⟨x0, x1, x2, y0, y1, z0, z1⟩ := LQ_cells HQ6.out)
        | (go_at_call 11; refine (HC.out _ _ HQ6.out).mono ?_; rintro e w7 ⟨rfl, h⟩; have HQ7 := Aside0.mk h; clear h; clear x0 x1 x2 y0 y1 z0 z1; obtain ⟨x0, x1, x2, y0, y1, z0, z1⟩ := LQ_cells HQ7.out)
        | (go_at_call 19; refine (LQ_refPop HQ7.out HF.out).mono ?_; rintro e w8 ⟨AI2, cI2, AK2, cK2, rfl, h⟩; have HQ8 := Aside0.mk h; clear h; clear x0 x1 x2 y0 y1 z0 z1; obtain ⟨x0, x1, x2, y0, y1, z0, z1⟩ := LQ_cells HQ8.out)
        | ((with_reducible refine gate_dst (N := 22) rfl ?_); refine box_event ?hg22_q3 (N := 22) ?hd22_q3 (cs := #[.slice none 0 0, .slice none 0 0]) (t := 37) ?hr22_q3 ?_; (case hd22_q3 => rfl); (case hg22_q3 => rfl); (case hr22_q3 => first | (go_simp; done) | (go_simp; rfl)); intro gy hg_ w9 hbox_ hb_; have HB9 := Aside0.mk hb_; have BK9 := Aside0.mk hbox_; have HBs := Aside0.mk (show w8.heap.size ≤ w9.heap.size from hb_.size); have HG9 := Aside0.mk (show w8.heap.size ≤ gy from by rw [hg_]; exact Nat.le_refl _); have e0 := (blk_cell hbox_ 0).trans rfl; have e1 := (blk_cell hbox_ 1).trans rfl; have f0 := blk_frozen hbox_ 0; have f1 := blk_frozen hbox_ 1; clear hg_ hbox_ hb_; clear x0 x1 x2 y0 y1 z0 z1; obtain ⟨x0, x1, x2, y0, y1, z0, z1⟩ := LQ_cells (LQ_step stay_px HQ8.out HB9.out))
        | ((with_reducible refine gate_dst (N := 23) rfl ?_); refine box_event ?hg23_q3 (N := 23) ?hd23_q3 (cs := #[.int .i64 0, .int .i64 0, .bool false]) (t := 48) ?hr23_q3 ?_; (case hd23_q3 => rfl); (case hg23_q3 => rfl); (case hr23_q3 => first | (go_simp; done) | (go_simp; rfl)); intro gz hg_ w9b hbox_ hb_; have HB9b := Aside0.mk (below_step HB9.out hb_); have BK9b := Aside0.mk hbox_; have BKyb := Aside0.mk (blk_below BK9.out hb_); have HGz := Aside0.mk (show w9.heap.size ≤ gz from by rw [hg_]; exact Nat.le_refl _); have HNz := Aside0.mk (show gy ≠ gz from by have := HGz.out; have := blk_lt BK9.out; omega); clear e0 e1 f0 f1; have e0 := (blk_cell BKyb.out 0).trans rfl; have e1 := (blk_cell BKyb.out 1).trans rfl; have f0 := blk_frozen BKyb.out 0; have f1 := blk_frozen BKyb.out 1; clear hg_ hbox_ hb_ BK9 HB9; clear x0 x1 x2 y0 y1 z0 z1; obtain ⟨x0, x1, x2, y0, y1, z0, z1⟩ := LQ_cells (LQ_step stay_px HQ8.out HB9b.out))
        | ((with_reducible refine gate_store (t := 37) (p := 22) rfl ?_); refine store_event (t := 37) (p := 22) (v := ?voy_q3) (w1 := ((w9b.setCell ⟨gy, 0, none⟩ (.slice AI2 fs2.length cI2)).setCell ⟨gy, 1, none⟩ (.slice AK2 ks2.length cK2))) ?hgy_q3 ?hoy_q3 ?hny_q3 ?hry_q3 ?_; (case hoy_q3 => rfl); (case hgy_q3 => rfl); (case hny_q3 => rfl); (case hry_q3 => first | (go_simp; done) | (go_simp; rfl)); intro w10 hw; have HS10 := Aside0.mk (show w10.heap[gy]? = some (.cells #[.slice AI2 fs2.length cI2, .slice AK2 ks2.length cK2] 37 (0, 0)) from by (rw [hw]; exact (two_set BKyb.out).1)); have BK10b := Aside0.mk (show w10.heap[gz]? = some (.cells #[.int .i64 0, .int .i64 0, .bool false] 48 (0, 0)) from by (rw [hw]; exact ((two_set BKyb.out).2 _ (Ne.symm HNz.out)).trans BK9b.out)); have HB10 := Aside0.mk (show Below w8.heap.size w8 w10 from by (rw [hw]; exact below_set (below_set HB9b.out HG9.out) HG9.out)); clear hw e0 e1 f0 f1 BKyb HB9b BK9b; clear x0 x1 x2 y0 y1 z0 z1; have e0 := (blk_cell BK10b.out 0).trans rfl; have e1 := (blk_cell BK10b.out 1).trans rfl; have e2 := (blk_cell BK10b.out 2).trans rfl; have f0 := blk_frozen BK10b.out 0; have f1 := blk_frozen BK10b.out 1; have f2 := blk_frozen BK10b.out 2; obtain ⟨x0, x1, x2, y0, y1, z0, z1⟩ := LQ_cells (LQ_step stay_px HQ8.out HB10.out))
        | ((with_reducible refine gate_store (t := 48) (p := 23) rfl ?_); refine store_event (t := 48) (p := 23) (v := ?voz3_q3) (w1 := (((w10.setCell ⟨gz, 0, none⟩ (.int .i64 r1)).setCell ⟨gz, 1, none⟩ (.int .i64 r2)).setCell ⟨gz, 2, none⟩ (.bool r3))) ?hgz3_q3 ?hoz3_q3 ?hnz3_q3 ?hrz3_q3 ?_; (case hoz3_q3 => rfl); (case hgz3_q3 => rfl); (case hnz3_q3 => rfl); (case hrz3_q3 => first | (go_simp; done) | (go_simp; rfl)); intro w10c hw; have HS10c := Aside0.mk (show w10c.heap[gy]? = some (.cells #[.slice AI2 fs2.length cI2, .slice AK2 ks2.length cK2] 37 (0, 0)) from by (rw [hw]; exact ((three_set BK10b.out).2 _ HNz.out).trans HS10.out)); have BK10c := Aside0.mk (show w10c.heap[gz]? = some (.cells #[.int .i64 r1, .int .i64 r2, .bool r3] 48 (0, 0)) from by (rw [hw]; exact (three_set BK10b.out).1)); have HGz8 := Aside0.mk (show w8.heap.size ≤ gz from by have := HG9.out; have := HNz.out; have h1 := HGz.out; have h2 := HBs.out; omega); have HB10c := Aside0.mk (show Below w8.heap.size w8 w10c from by (rw [hw]; exact below_set (below_set (below_set HB10.out HGz8.out) HGz8.out) HGz8.out)); clear hw e0 e1 e2 f0 f1 f2 BK10b HS10 HB10; clear x0 x1 x2 y0 y1 z0 z1; have e0 := (blk_cell HS10c.out 0).trans rfl; have e1 := (blk_cell HS10c.out 1).trans rfl; obtain ⟨x0, x1, x2, y0, y1, z0, z1⟩ := LQ_cells (LQ_step stay_px HQ8.out HB10c.out))
        | ((with_reducible refine gate_store (t := 37) (p := 6) rfl ?_); refine store_event (t := 37) (p := 6) (v := ?voz_q3) (w1 := ((w10c.setCell ⟨gb, 0, none⟩ (.slice AI2 fs2.length cI2)).setCell ⟨gb, 1, none⟩ (.slice AK2 ks2.length cK2))) ?hgz_q3 ?hoz_q3 ?hnz_q3 ?hrz_q3 ?_; (case hoz_q3 => rfl); (case hgz_q3 => rfl); (case hnz_q3 => rfl); (case hrz_q3 => first | (go_simp; done) | (go_simp; rfl)); intro w11 hw; have HQ11 := Aside0.mk (show LQ (PX w.heap.size gb gx (.slice AI2 fs2.length cI2) (.slice AK2 ks2.length cK2) (.slice AI2 fs2.length cI2) (.slice AK2 ks2.length cK2) 3 b cc fs2 ks2) w w11 (.pointer (some ⟨p, 0, none⟩)) m2 from by (rw [hw]; have hh := LQ_step stay_px HQ8.out HB10c.out; obtain ⟨s0, s1, s2⟩ := LQ_gb hh; obtain ⟨t1, t2⟩ := two_set (x2 := .slice AI2 fs2.length cI2) (y2 := .slice AK2 ks2.length cK2) s2; exact LQ_put hh t1 (fun k _ hk => t2 k hk) (below_set (below_set hh.below s0) s0))); have BK11 := Aside0.mk (show w11.heap[gz]? = some (.cells #[.int .i64 r1, .int .i64 r2, .bool r3] 48 (0, 0)) from by (rw [hw]; obtain ⟨s0, s1, s2⟩ := LQ_gb (LQ_step stay_px HQ8.out HB10c.out); have s3 := (LQ_gb HQ8.out).2.1; exact ((two_set s2).2 _ (fun e_ => by have := HGz8.out; omega)).trans BK10c.out)); clear hw e0 e1 HS10c HB10c BK10c; clear x0 x1 x2 y0 y1 z0 z1; have e0 := (blk_cell BK11.out 0).trans rfl; have e1 := (blk_cell BK11.out 1).trans rfl; have e2 := (blk_cell BK11.out 2).trans rfl; obtain ⟨x0, x1, x2, y0, y1, z0, z1⟩ := LQ_cells HQ11.out))
      obtain ⟨kl, hlen⟩ := ref_len HR2.out (LQ_small HQ11.out)
      have HLen := Aside0.mk hlen
      clear hlen
      refine start_ (n := 5) (S := fun w' => LQ (PX w.heap.size gb gx (.slice AI2 fs2.length cI2) (.slice AK2 ks2.length cK2) (.slice AI2 fs2.length cI2) (.slice AK2 ks2.length cK2) 3 b cc fs2 ks2) w w' (.pointer (some ⟨p, 0, none⟩)) m2) (ds := []) #[false, false, false, false, false] (by kernel_rfl) rfl rfl (LQ_step stay_px HQ11.out (below_drew (Below.refl _ _))) (fun hHeld => ?_)
      generalize w11.drew = wq at hHeld ⊢
      refine pure_ (i := 0) (N := some 148) (v := ?_) (a' := ?_) #[true, false, false, false, false] rfl rfl (by kernel_rfl) (fun _ _ _ h => h) (Or.inl ⟨by rfl, ?_⟩) ?_ ?_
      rotate_left
      · intro w'
        go_simp
        with_reducible rfl
      rotate_left
      · simp only [Act.put, List.setIfInBounds_toArray, List.set_cons_zero, List.set_cons_succ, i64_w, i32_w]
        rfl
      refine take_ (i := 2) (N := some 150) (v := ?_) (a' := ?_) #[true, false, true, false, false] rfl rfl (by kernel_rfl) (fun _ _ _ h => h) (Or.inl ⟨by rfl, ?_⟩) hHeld ?_ ?_
      rotate_left
      · rintro w' hS
        obtain ⟨x0, x1, x2, y0, y1, z0, z1⟩ := LQ_cells hS
        go_simp
        with_reducible rfl
      rotate_left
      · simp only [Act.put, List.setIfInBounds_toArray, List.set_cons_zero, List.set_cons_succ, i64_w, i32_w]
        rfl
      refine one_ (i := 1) (N := some 149) #[true, true, true, false, false] rfl rfl (by kernel_rfl) (by decide) (fun K hK => ?_)
      refine goes_ Try.func12 (by kernel_rfl) rfl #[.pointer (some ⟨p, 0, none⟩)] (by rfl) rfl rfl (by first | rfl | (go_simp; done) | (simp [Act.eval]; done) | kernel_rfl) ?_
      refine (LQ_LenQ stay_px hHeld (cnt m2 : Int) rfl).mono ?_
      rintro e wa ⟨rfl, hS⟩
      refine ⟨_, rfl, ?_⟩
      clear hHeld
      refine hK.out _ _ hS (fun hHeld => ?_)
      clear hK K hS
      refine norm_ (a' := ?_) ?_ ?_
      rotate_left
      · show Act.put _ (some 149) _ = _
        simp only [Act.put, List.setIfInBounds_toArray, List.set_cons_zero, List.set_cons_succ, i64_w, i32_w]
        rfl
      refine one_ (i := 3) (N := some 151) #[true, true, true, true, false] rfl rfl (by kernel_rfl) (by decide) (fun K hK => ?_)
      refine goes_ Try.func20 (by kernel_rfl) rfl #[.agg #[.slice AI2 fs2.length cI2, .slice AK2 ks2.length cK2]] (by rfl) rfl rfl (by first | rfl | (go_simp; done) | (simp [Act.eval]; done) | kernel_rfl) ?_
      refine (LQ_refLen hHeld HLen.out).mono ?_
      rintro e wa ⟨rfl, hS⟩
      refine ⟨_, rfl, ?_⟩
      clear hHeld
      refine hK.out _ _ hS (fun hHeld => ?_)
      clear hK K hS
      refine norm_ (a' := ?_) ?_ ?_
      rotate_left
      · show Act.put _ (some 151) _ = _
        simp only [Act.put, List.setIfInBounds_toArray, List.set_cons_zero, List.set_cons_succ, i64_w, i32_w]
        rfl
      have HQz := Aside0.mk hHeld
      refine pure_ (i := 4) (N := some 152) (v := ?_) (a' := ?_) #[true, true, true, true, true] rfl rfl (by kernel_rfl) (fun _ _ _ h => h) (Or.inl ⟨by rfl, ?_⟩) ?_ ?_
      rotate_left
      · intro w'
        go_simp
        with_reducible rfl
      rotate_left
      · simp only [Act.put, List.setIfInBounds_toArray, List.set_cons_zero, List.set_cons_succ, i64_w, i32_w]
        rfl
      refine done_ (by kernel_rfl) ?_
      clear hHeld
      go_wp2
      go_roundg (l0.length - (i + 1)).toNat
      case measure => omega
      case rel => exact ⟨i + 1, by first | rfl | go_num | (congr 1; unfold wrap64; omega), by omega, by omega, by omega, m2, _, _, fs2, ks2, LQ_back HQz.out, HR2.out, HMN.out⟩
    have k3b : (a == 3) = false := beq_eq_false_iff_ne.2 k3
    clear k0 k1 k2 k3
    go_wp2_with (first
        | ((with_reducible refine gate_dst (N := 8) rfl ?_); refine box_event ?hg8_q4 (N := 8) ?hd8_q4 (cs := #[.int .i64 0, .int .i64 0, .int .i64 0]) (t := 40) ?hr8_q4 ?_; (case hd8_q4 => rfl); (case hg8_q4 => rfl); (case hr8_q4 => first | (go_simp; done) | (go_simp; rfl)); intro gx hg_ w5 hbox_ hb_; have HB5 := Aside0.mk hb_; have BK5 := Aside0.mk hbox_; have HG5 := Aside0.mk (show wr.heap.size ≤ gx from by rw [hg_]; exact Nat.le_refl _); have e0 := (blk_cell hbox_ 0).trans rfl; have e1 := (blk_cell hbox_ 1).trans rfl; have e2 := (blk_cell hbox_ 2).trans rfl; have f0 := blk_frozen hbox_ 0; have f1 := blk_frozen hbox_ 1; have f2 := blk_frozen hbox_ 2; clear hg_ hbox_ hb_ hx0 hx1 hx2)
        | ((with_reducible refine gate_store (t := 40) (p := 8) rfl ?_); refine store_event (t := 40) (p := 8) (v := ?vob_q4) (w1 := (((w5.setCell ⟨gx, 0, none⟩ (.int .i64 a)).setCell ⟨gx, 1, none⟩ (.int .i64 b)).setCell ⟨gx, 2, none⟩ (.int .i64 cc))) ?hgb_q4 ?hob_q4 ?hnb_q4 ?hrb_q4 ?_; (case hob_q4 => rfl); (case hgb_q4 => rfl); (case hnb_q4 => rfl); (case hrb_q4 => first | (go_simp; done) | (go_simp; rfl)); intro w6 hw; have HQ6 := Aside0.mk (show LQ (PX w.heap.size gb gx (.slice AI fs.length cI) (.slice AK ks.length cK) (.slice AI fs.length cI) (.slice AK ks.length cK) a b cc fs ks) w w6 (.pointer (some ⟨p, 0, none⟩)) m from by (rw [hw]; obtain ⟨s1, s2⟩ := three_set (x2 := .int .i64 a) (y2 := .int .i64 b) (z2 := .int .i64 cc) BK5.out; have hz := HG5.out; exact LQ_op HQ.out (below_set (below_set (below_set HB5.out hz) hz) hz) s1 hz)); clear hw e0 e1 e2 f0 f1 f2 BK5 HQ; obtain ⟨x0, x1, x2, y0, y1, z0, z1⟩ := LQ_cells HQ6.out))
    obtain ⟨kl, hlen⟩ := ref_len HRef.out (LQ_small HQ6.out)
    have HLen := Aside0.mk hlen
    clear hlen
    refine start_ (n := 5) (S := fun w' => LQ (PX w.heap.size gb gx (.slice AI fs.length cI) (.slice AK ks.length cK) (.slice AI fs.length cI) (.slice AK ks.length cK) a b cc fs ks) w w' (.pointer (some ⟨p, 0, none⟩)) m) (ds := []) #[false, false, false, false, false] (by kernel_rfl) rfl rfl (LQ_step stay_px HQ6.out (below_drew (Below.refl _ _))) (fun hHeld => ?_)
    generalize w6.drew = wq at hHeld ⊢
    refine pure_ (i := 0) (N := some 148) (v := ?_) (a' := ?_) #[true, false, false, false, false] rfl rfl (by kernel_rfl) (fun _ _ _ h => h) (Or.inl ⟨by rfl, ?_⟩) ?_ ?_
    rotate_left
    · intro w'
      go_simp
      with_reducible rfl
    rotate_left
    · simp only [Act.put, List.setIfInBounds_toArray, List.set_cons_zero, List.set_cons_succ, i64_w, i32_w]
      rfl
    refine take_ (i := 2) (N := some 150) (v := ?_) (a' := ?_) #[true, false, true, false, false] rfl rfl (by kernel_rfl) (fun _ _ _ h => h) (Or.inl ⟨by rfl, ?_⟩) hHeld ?_ ?_
    rotate_left
    · rintro w' hS
      obtain ⟨x0, x1, x2, y0, y1, z0, z1⟩ := LQ_cells hS
      go_simp
      with_reducible rfl
    rotate_left
    · simp only [Act.put, List.setIfInBounds_toArray, List.set_cons_zero, List.set_cons_succ, i64_w, i32_w]
      rfl
    refine one_ (i := 1) (N := some 149) #[true, true, true, false, false] rfl rfl (by kernel_rfl) (by decide) (fun K hK => ?_)
    refine goes_ Try.func12 (by kernel_rfl) rfl #[.pointer (some ⟨p, 0, none⟩)] (by rfl) rfl rfl (by first | rfl | (go_simp; done) | (simp [Act.eval]; done) | kernel_rfl) ?_
    refine (LQ_LenQ stay_px hHeld (cnt m : Int) rfl).mono ?_
    rintro e wa ⟨rfl, hS⟩
    refine ⟨_, rfl, ?_⟩
    clear hHeld
    refine hK.out _ _ hS (fun hHeld => ?_)
    clear hK K hS
    refine norm_ (a' := ?_) ?_ ?_
    rotate_left
    · show Act.put _ (some 149) _ = _
      simp only [Act.put, List.setIfInBounds_toArray, List.set_cons_zero, List.set_cons_succ, i64_w, i32_w]
      rfl
    refine one_ (i := 3) (N := some 151) #[true, true, true, true, false] rfl rfl (by kernel_rfl) (by decide) (fun K hK => ?_)
    refine goes_ Try.func20 (by kernel_rfl) rfl #[.agg #[.slice AI fs.length cI, .slice AK ks.length cK]] (by rfl) rfl rfl (by first | rfl | (go_simp; done) | (simp [Act.eval]; done) | kernel_rfl) ?_
    refine (LQ_refLen hHeld HLen.out).mono ?_
    rintro e wa ⟨rfl, hS⟩
    refine ⟨_, rfl, ?_⟩
    clear hHeld
    refine hK.out _ _ hS (fun hHeld => ?_)
    clear hK K hS
    refine norm_ (a' := ?_) ?_ ?_
    rotate_left
    · show Act.put _ (some 151) _ = _
      simp only [Act.put, List.setIfInBounds_toArray, List.set_cons_zero, List.set_cons_succ, i64_w, i32_w]
      rfl
    have HQz := Aside0.mk hHeld
    refine pure_ (i := 4) (N := some 152) (v := ?_) (a' := ?_) #[true, true, true, true, true] rfl rfl (by kernel_rfl) (fun _ _ _ h => h) (Or.inl ⟨by rfl, ?_⟩) ?_ ?_
    rotate_left
    · intro w'
      go_simp
      with_reducible rfl
    rotate_left
    · simp only [Act.put, List.setIfInBounds_toArray, List.set_cons_zero, List.set_cons_succ, i64_w, i32_w]
      rfl
    refine done_ (by kernel_rfl) ?_
    clear hHeld
    go_wp2
    go_roundg (l0.length - (i + 1)).toNat
    case measure => omega
    case rel => exact ⟨i + 1, by first | rfl | go_num | (congr 1; unfold wrap64; omega), by omega, by omega, by omega, m, _, _, fs, ks, LQ_back HQz.out, HRef.out, HMN.out⟩
end Go.Proofs.Ytpdgifldpnpeeaa.PAll
