/- A device behind a pointer (package device), as a value: its blocks at the beginning, its writes, its blocks now. -/
import Derived.Test.YtfinlgckalbfoaaPAllx0
import Derived.Test.YtfinlgckalbfoaaWInvWords
import Derived.WalkKit
import Derived.BigRegion
import Derived.BigQuiet
import Derived.Deep.QuietTactic
import Derived.Deep.MidRow
namespace Go.Proofs.Ytfinlgckalbfoaa.PAll
open Go.RowKit Go.Proofs.YtfinlgckalbfoaaW.PrintWords Go.Proofs.YtfinlgckalbfoaaW.PrintLast Go.Proofs.YtfinlgckalbfoaaW.PrintMore
set_option linter.unusedVariables false
set_option linter.unusedSimpArgs false
attribute [local irreducible] Calls

/-- The cells of a block. -/
def bcs (b : ByteArray) : List Value := (bytesOf b).map (.int .u8)
theorem bcs_length (b : ByteArray) : (bcs b).length = b.size := by rw [bcs, List.length_map, bytesOf_length]
theorem bcs_one (b : ByteArray) : ∀ u ∈ bcs b, u.oneCell' = true := by
  intro u hu
  obtain ⟨x, _, rfl⟩ := List.mem_map.1 hu
  rfl
/-- An element without rows of its own. -/
def flatKd {α : Type} (sz : Nat) (enc : α → List Value) (good : α → Prop) (hl : ∀ x, good x → (enc x).length = sz) (h1 : ∀ x, ∀ u ∈ enc x, u.oneCell' = true) : Kd α where
  sz := sz
  E := []
  K := fun _ x cs => good x ∧ cs = enc x
  M := fun _ _ _ x cs => good x ∧ cs = enc x
  K_len := fun h => by rw [h.2]; exact hl _ h.1
  K_one := fun h u hu => h1 _ u (by rw [← h.2]; exact hu)
  K_below := fun _ h => h
  K_of_M := fun h => h
  M_mono := fun _ h => h
  M_bound := fun h => h
  M_move := fun _ h => h
  M_lower := fun _ h => h
/-- A block of 64 bytes. -/
def kB : Kd ByteArray := flatKd 64 bcs (fun b => b.size = 64) (fun x h => (bcs_length x).trans h) bcs_one
def wcs (x : Int × ByteArray) : List Value := .int .i64 x.1 :: bcs x.2
/-- A write. -/
def kW : Kd (Int × ByteArray) := flatKd 65 wcs (fun x => x.2.size = 64) (fun x h => by simp only [wcs, List.length_cons, bcs_length]; omega) (fun x u hu => by
  rcases List.mem_cons.1 hu with rfl | h
  · rfl
  · exact bcs_one _ _ h)

structure Dv where
  first : List ByteArray
  log : List (Int × ByteArray)
  now : List ByteArray
  lim : Bool
  left : Int

/-- v points to a device; its blocks are from base on, and in ok. -/
structure DC (w : World) (base : Nat) (ok : Nat → Prop) (p : Nat) (sf sl sn : Value) (d : Dv) : Prop where
  bp : base ≤ p
  op : ok p
  cells : w.heap[p]? = some (.cells #[sf, sl, sn, .bool d.lim, .int .i64 d.left] 52 (0, 0))
  F : Kd.R kB 54 w base ok sf d.first
  L : Kd.R kW 56 w base ok sl d.log
  N : Kd.R kB 54 w base ok sn d.now
  ap : ∀ k, sf.ownBlock = some k → sn.ownBlock ≠ some k
structure DGood (d : Dv) : Prop where
  n1 : 1 ≤ d.now.length
  n2 : d.now.length ≤ 65536
  nf : d.first.length = d.now.length
  ll : d.log.length ≤ 1000000
  at_ : ∀ x ∈ d.log, 0 ≤ x.1 ∧ x.1 < d.now.length
def DR (w : World) (base : Nat) (ok : Nat → Prop) (v : Value) (d : Dv) : Prop :=
  DGood d ∧ ∃ (p : Nat) (sf sl sn : Value), v = .pointer (some ⟨p, 0, none⟩) ∧ DC w base ok p sf sl sn d
section
variable {w w1 W : World} {base base' : Nat} {ok ok' : Nat → Prop} {p : Nat} {v sf sl sn : Value} {d : Dv}
theorem DC.mono (h : DC w base ok p sf sl sn d) (hok : ∀ k, ok k → ok' k) : DC w base ok' p sf sl sn d :=
  ⟨h.bp, hok _ h.op, h.cells, Kd.R_mono h.F hok, Kd.R_mono h.L hok, Kd.R_mono h.N hok, h.ap⟩
theorem DC.lower (h : DC w base ok p sf sl sn d) (hb : base' ≤ base) : DC w base' ok p sf sl sn d :=
  ⟨Nat.le_trans hb h.bp, h.op, h.cells, Kd.R_lower h.F hb, Kd.R_lower h.L hb, Kd.R_lower h.N hb, h.ap⟩
theorem DC.bound (h : DC w base ok p sf sl sn d) : DC w base (fun k => ok k ∧ base ≤ k ∧ k < w.heap.size) p sf sl sn d :=
  ⟨h.bp, ⟨h.op, h.bp, blk_lt h.cells⟩, h.cells, Kd.R_mono (Kd.R_bound h.F) (fun k hk => ⟨hk.1, hk.2.1, hk.2.2.1⟩), Kd.R_mono (Kd.R_bound h.L) (fun k hk => ⟨hk.1, hk.2.1, hk.2.2.1⟩), Kd.R_mono (Kd.R_bound h.N) (fun k hk => ⟨hk.1, hk.2.1, hk.2.2.1⟩), h.ap⟩
theorem DC.step (h : DC w base ok p sf sl sn d) (hm : ∀ k, ok k → k < w.heap.size → w1.heap[k]? = w.heap[k]?) : DC w1 base ok p sf sl sn d :=
  ⟨h.bp, h.op, (hm p h.op (blk_lt h.cells)).trans h.cells, Kd.R_step h.F hm, Kd.R_step h.L hm, Kd.R_step h.N hm, h.ap⟩
theorem DR_ptr (h : DR w base ok v d) : ∃ p, v = .pointer (some ⟨p, 0, none⟩) := by
  obtain ⟨_, p, _, _, _, he, _⟩ := h
  exact ⟨p, he⟩
theorem DR_mono (h : DR w base ok v d) (hok : ∀ k, ok k → ok' k) : DR w base ok' v d := by
  obtain ⟨g, p, sf, sl, sn, he, h⟩ := h
  exact ⟨g, p, sf, sl, sn, he, h.mono hok⟩
theorem DR_lower (h : DR w base ok v d) (hb : base' ≤ base) : DR w base' ok v d := by
  obtain ⟨g, p, sf, sl, sn, he, h⟩ := h
  exact ⟨g, p, sf, sl, sn, he, h.lower hb⟩
theorem DR_bound (h : DR w base ok v d) : DR w base (fun k => ok k ∧ base ≤ k ∧ k < w.heap.size) v d := by
  obtain ⟨g, p, sf, sl, sn, he, h⟩ := h
  exact ⟨g, p, sf, sl, sn, he, h.bound⟩
theorem DR_step (h : DR w base ok v d) (hm : ∀ k, ok k → k < w.heap.size → w1.heap[k]? = w.heap[k]?) : DR w1 base ok v d := by
  obtain ⟨g, p, sf, sl, sn, he, h⟩ := h
  exact ⟨g, p, sf, sl, sn, he, h.step hm⟩
theorem DR_below (h : DR w base ok v d) (hb : Below w.heap.size w w1) : DR w1 base ok v d := DR_step h (fun k _ hk => hb.block k hk)
theorem DR_alloc (h : DR w base ok v d) (o : Obj) : DR (w.alloc o) base ok v d := DR_below h (below_alloc (Below.refl _ _) o)
theorem DR_drew (h : DR w base ok v d) : DR w.drew base ok v d := DR_below h (below_drew (Below.refl _ _))
theorem DR_drewN (h : DR w base ok v d) (n : Nat) : DR (w.drewN n) base ok v d := DR_below h (pw_below_drewN (Below.refl _ _) n)
theorem DR_keptB {S : Nat → Prop} (h : DR w base ok v d) (hk : Kept w w1 S) (hne : ∀ k, ok k → ¬ S k) : DR w1 base (fun k => ok k ∧ (¬ S k ∧ k < w.heap.size)) v d :=
  DR_step (DR_mono (DR_bound h) (fun k hk => ⟨hk.1, hne k hk.1, hk.2.2⟩)) (fun k hk' hl => hk.2 k hl hk'.2.1)
/-- The cells, one by one. -/
theorem DC.c0 (h : DC w base ok p sf sl sn d) : w.cell? ⟨p, 0, none⟩ = some sf := (blk_cell h.cells 0).trans rfl
theorem DC.c1 (h : DC w base ok p sf sl sn d) : w.cell? ⟨p, 1, none⟩ = some sl := (blk_cell h.cells 1).trans rfl
theorem DC.c2 (h : DC w base ok p sf sl sn d) : w.cell? ⟨p, 2, none⟩ = some sn := (blk_cell h.cells 2).trans rfl
theorem DC.c3 (h : DC w base ok p sf sl sn d) : w.cell? ⟨p, 3, none⟩ = some (.bool d.lim) := (blk_cell h.cells 3).trans rfl
theorem DC.c4 (h : DC w base ok p sf sl sn d) : w.cell? ⟨p, 4, none⟩ = some (.int .i64 d.left) := (blk_cell h.cells 4).trans rfl
theorem DC.fz (h : DC w base ok p sf sl sn d) (j : Nat) : w.frozen? ⟨p, j, none⟩ = false := blk_frozen h.cells j
theorem DC.npf (h : DC w base ok p sf sl sn d) : some p ≠ sf.ownBlock := Kd.R_ne h.F h.cells (by decide)
theorem DC.npl (h : DC w base ok p sf sl sn d) : some p ≠ sl.ownBlock := Kd.R_ne h.L h.cells (by decide)
theorem DC.npn (h : DC w base ok p sf sl sn d) : some p ≠ sn.ownBlock := Kd.R_ne h.N h.cells (by decide)
end
/-- What goes from w to w2 touches only what is made from base on, or what ok holds. -/
def Tr (base : Nat) (ok : Nat → Prop) (w w2 : World) : Prop :=
  ∀ (w0 w1 : World) (S : Nat → Prop), w0.heap.size = base → (∀ k, ok k → S k ∨ w1.heap.size ≤ k) → (Below w0.heap.size w0 w → Below w0.heap.size w0 w2) ∧ (Kept w1 w S → Kept w1 w2 S)
theorem Tr.refl (base : Nat) (ok : Nat → Prop) (w : World) : Tr base ok w w := fun _ _ _ _ _ => ⟨id, id⟩
theorem Tr.trans {base : Nat} {ok : Nat → Prop} {w w2 w3 : World} (h : Tr base ok w w2) (k : Tr base ok w2 w3) : Tr base ok w w3 :=
  fun w0 w1 S e s => ⟨fun b => (k w0 w1 S e s).1 ((h w0 w1 S e s).1 b), fun b => (k w0 w1 S e s).2 ((h w0 w1 S e s).2 b)⟩
theorem Tr.drew {base : Nat} {ok : Nat → Prop} {w w2 : World} (h : Tr base ok w w2) : Tr base ok w w2.drew :=
  fun w0 w1 S e s => ⟨fun b => below_drew1 ((h w0 w1 S e s).1 b), fun b => Kept.drew ((h w0 w1 S e s).2 b)⟩
theorem Tr.drewN {base : Nat} {ok : Nat → Prop} {w w2 : World} (h : Tr base ok w w2) (n : Nat) : Tr base ok w (w2.drewN n) :=
  fun w0 w1 S e s => ⟨fun b => pw_below_drewN ((h w0 w1 S e s).1 b) n, fun b => Kept.drewN ((h w0 w1 S e s).2 b) n⟩
theorem Tr.set {base : Nat} {ok : Nat → Prop} {w w2 : World} (h : Tr base ok w w2) {g : Nat} (hb : base ≤ g) (hk : ok g) (j : Nat) (v : Value) : Tr base ok w (w2.setCell ⟨g, j, none⟩ v) :=
  fun w0 w1 S e s => ⟨fun b => below_set ((h w0 w1 S e s).1 b) (by omega), fun b => Kept.setCell ((h w0 w1 S e s).2 b) (s g hk) v⟩
theorem Tr.grown {base : Nat} {ok : Nat → Prop} {w w2 w3 : World} (h : Tr base ok w w2) {row : Option Nat} (hg : w2.grownBy w3 row) (hr : ∀ k, row = some k → base ≤ k ∧ ok k) (hz : base ≤ w2.heap.size) : Tr base ok w w3 :=
  fun w0 w1 S e s => ⟨fun b => ((h w0 w1 S e s).1 b).grown hg (by omega) (fun k e2 => by have := (hr k e2).1; omega), fun b => Kept.of_grown hg ((h w0 w1 S e s).2 b) (fun k e2 => s k (hr k e2).2)⟩
theorem Tr.below {base : Nat} {ok : Nat → Prop} {w w2 w3 : World} (h : Tr base ok w w2) (hb : Below w2.heap.size w2 w3) (hz : base ≤ w2.heap.size) : Tr base ok w w3 :=
  h.grown (row := none) ⟨hb.os, hb.tape, hb.output, hb.size, fun k hk _ => hb.block k hk⟩ (fun k e => by cases e) hz
end Go.Proofs.Ytfinlgckalbfoaa.PAll
