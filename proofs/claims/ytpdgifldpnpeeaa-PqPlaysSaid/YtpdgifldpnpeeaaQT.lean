/- A queue behind a pointer (package pq): its three rows, and what its inner methods do with them. -/
import Derived.Test.YtpdgifldpnpeeaaPAllx0
import Derived.Test.YtpdgifldpnpeeaaWInvWords
import Derived.WalkKit
import Derived.BigRegion
import Derived.BigQuiet
import Derived.Deep.QuietTactic
namespace Go.Proofs.Ytpdgifldpnpeeaa.PAll
open Go.RowKit Go.Proofs.YtpdgifldpnpeeaaW.PrintWords Go.Proofs.YtpdgifldpnpeeaaW.PrintLast Go.Proofs.YtpdgifldpnpeeaaW.PrintMore
set_option linter.unusedVariables false
set_option linter.unusedSimpArgs false
attribute [local irreducible] Calls

/-- What goes from w to w2 touches only what is made from base on, or what ok holds. -/
def Tr (base : Nat) (ok : Nat → Prop) (w w2 : World) : Prop :=
  ∀ (w0 w1 : World) (S : Nat → Prop), w0.heap.size = base → (∀ k, ok k → S k ∨ w1.heap.size ≤ k) → (Below w0.heap.size w0 w → Below w0.heap.size w0 w2) ∧ (Kept w1 w S → Kept w1 w2 S)
theorem Tr.refl (base : Nat) (ok : Nat → Prop) (w : World) : Tr base ok w w := fun _ _ _ _ _ => ⟨id, id⟩
theorem Tr.trans {base : Nat} {ok : Nat → Prop} {w w2 w3 : World} (h : Tr base ok w w2) (k : Tr base ok w2 w3) : Tr base ok w w3 :=
  fun w0 w1 S e s => ⟨fun b => (k w0 w1 S e s).1 ((h w0 w1 S e s).1 b), fun b => (k w0 w1 S e s).2 ((h w0 w1 S e s).2 b)⟩
theorem Tr.drew {base : Nat} {ok : Nat → Prop} {w w2 : World} (h : Tr base ok w w2) : Tr base ok w w2.drew :=
  fun w0 w1 S e s => ⟨fun b => below_drew1 ((h w0 w1 S e s).1 b), fun b => Kept.drew ((h w0 w1 S e s).2 b)⟩
theorem Tr.drewN {base : Nat} {ok : Nat → Prop} {w w2 : World} (h : Tr base ok w w2) (n : Nat) : Tr base ok w (w2.drewN n) :=
  fun w0 w1 S e s => ⟨fun b => pw_below_drewN ((h w0 w1 S e s).1 b) n, fun b => Kept.drewN ((h w0 w1 S e s).2 b) n⟩
theorem Tr.set {base : Nat} {ok : Nat → Prop} {w w2 : World} (h : Tr base ok w w2) {g : Nat} (hb : base ≤ g) (hk : ok g) (j : Nat) (v : Value) : Tr base ok w (w2.setCell ⟨g, j, none⟩ v) :=
  fun w0 w1 S e s => ⟨fun b => below_set ((h w0 w1 S e s).1 b) (by omega), fun b => Kept.setCell ((h w0 w1 S e s).2 b) (s g hk) v⟩
theorem Tr.grown {base : Nat} {ok : Nat → Prop} {w w2 w3 : World} (h : Tr base ok w w2) {row : Option Nat} (hg : w2.grownBy w3 row) (hr : ∀ k, row = some k → base ≤ k ∧ ok k) (hz : base ≤ w2.heap.size) : Tr base ok w w3 :=
  fun w0 w1 S e s => ⟨fun b => ((h w0 w1 S e s).1 b).grown hg (by omega) (fun k e2 => by have := (hr k e2).1; omega), fun b => Kept.of_grown hg ((h w0 w1 S e s).2 b) (fun k e2 => s k (hr k e2).2)⟩

/-- Three rows that lie apart, and the struct that holds them. -/
structure QC (w : World) (base : Nat) (ok : Nat → Prop) (p gh gp gk ch cp ck nh n : Nat) (hp pl ky : List Int) : Prop where
  bp : base ≤ p
  op : ok p
  cells : w.heap[p]? = some (.cells #[.slice (some ⟨gh, 0, none⟩) nh ch, .slice (some ⟨gp, 0, none⟩) n cp, .slice (some ⟨gk, 0, none⟩) n ck] 54 (0, 0))
  H : Kd.R (Kd.int .i64) 3 w base ok (.slice (some ⟨gh, 0, none⟩) nh ch) hp
  P : Kd.R (Kd.int .i64) 3 w base ok (.slice (some ⟨gp, 0, none⟩) n cp) pl
  K : Kd.R (Kd.int .i64) 3 w base ok (.slice (some ⟨gk, 0, none⟩) n ck) ky
  nhp : gh ≠ gp
  nhk : gh ≠ gk
  npk : gp ≠ gk
namespace QC
variable {w : World} {base : Nat} {ok : Nat → Prop} {p gh gp gk ch cp ck nh n : Nat} {hp pl ky : List Int}
theorem ne_of {g c : Nat} {xs : List Int} (h : Kd.R (Kd.int .i64) 3 w base ok (.slice (some ⟨g, 0, none⟩) n c) xs) {cs : Array Value} (hc : w.heap[p]? = some (.cells cs 54 (0, 0))) : p ≠ g := by
  rintro rfl
  exact Kd.R_ne h hc (by decide) rfl
theorem c0 (h : QC w base ok p gh gp gk ch cp ck nh n hp pl ky) : w.cell? ⟨p, 0, none⟩ = some (.slice (some ⟨gh, 0, none⟩) nh ch) := (blk_cell h.cells 0).trans rfl
theorem c1 (h : QC w base ok p gh gp gk ch cp ck nh n hp pl ky) : w.cell? ⟨p, 1, none⟩ = some (.slice (some ⟨gp, 0, none⟩) n cp) := (blk_cell h.cells 1).trans rfl
theorem c2 (h : QC w base ok p gh gp gk ch cp ck nh n hp pl ky) : w.cell? ⟨p, 2, none⟩ = some (.slice (some ⟨gk, 0, none⟩) n ck) := (blk_cell h.cells 2).trans rfl
theorem hl (h : QC w base ok p gh gp gk ch cp ck nh n hp pl ky) : nh = hp.length ∧ n = pl.length ∧ n = ky.length := ⟨(Kd.R_reads' h.H).1, (Kd.R_reads' h.P).1, (Kd.R_reads' h.K).1⟩
theorem drew (h : QC w base ok p gh gp gk ch cp ck nh n hp pl ky) : QC w.drew base ok p gh gp gk ch cp ck nh n hp pl ky :=
  ⟨h.bp, h.op, blk_drew h.cells, Kd.R_drew h.H, Kd.R_drew h.P, Kd.R_drew h.K, h.nhp, h.nhk, h.npk⟩
theorem drewN (h : QC w base ok p gh gp gk ch cp ck nh n hp pl ky) (m : Nat) : QC (w.drewN m) base ok p gh gp gk ch cp ck nh n hp pl ky :=
  ⟨h.bp, h.op, blk_drewN h.cells m, Kd.R_drewN h.H m, Kd.R_drewN h.P m, Kd.R_drewN h.K m, h.nhp, h.nhk, h.npk⟩
theorem far {g c m : Nat} {xs : List Int} (h : Kd.R (Kd.int .i64) 3 w base ok (.slice (some ⟨g, 0, none⟩) m c) xs) {q : Nat} (hne : g ≠ q) (j : Nat) (u : Value) : Kd.R (Kd.int .i64) 3 (w.setCell ⟨q, j, none⟩ u) base ok (.slice (some ⟨g, 0, none⟩) m c) xs :=
  Kd.R_mono (ok := fun k => ok k ∧ k ≠ q) (Kd.R_far (Kd.R_flat (ok' := fun k => ok k ∧ k ≠ q) (fun h => h) h (fun k e hk => ⟨hk, by cases e; exact hne⟩)) (p := ⟨q, j, none⟩) (fun k hk => hk.2) u) (fun k hk => hk.1)
theorem blkfar {q : Nat} {o : Obj} (h : w.heap[p]? = some o) (hne : p ≠ q) (j : Nat) (u : Value) : (w.setCell ⟨q, j, none⟩ u).heap[p]? = some o := (Below.heap_setCell w ⟨q, j, none⟩ u p hne).trans h
theorem setH (h : QC w base ok p gh gp gk ch cp ck nh n hp pl ky) (i x : Int) : QC (w.setCell ⟨gh, i.toNat, none⟩ (.int .i64 x)) base ok p gh gp gk ch cp ck nh n (hp.set i.toNat x) pl ky :=
  ⟨h.bp, h.op, blkfar h.cells (ne_of h.H h.cells) _ _, Kd.R_putn h.H i x, far h.P (Ne.symm h.nhp) _ _, far h.K (Ne.symm h.nhk) _ _, h.nhp, h.nhk, h.npk⟩
theorem setP (h : QC w base ok p gh gp gk ch cp ck nh n hp pl ky) (i x : Int) : QC (w.setCell ⟨gp, i.toNat, none⟩ (.int .i64 x)) base ok p gh gp gk ch cp ck nh n hp (pl.set i.toNat x) ky :=
  ⟨h.bp, h.op, blkfar h.cells (ne_of h.P h.cells) _ _, far h.H h.nhp _ _, Kd.R_putn h.P i x, far h.K (Ne.symm h.npk) _ _, h.nhp, h.nhk, h.npk⟩
theorem setK (h : QC w base ok p gh gp gk ch cp ck nh n hp pl ky) (i x : Int) : QC (w.setCell ⟨gk, i.toNat, none⟩ (.int .i64 x)) base ok p gh gp gk ch cp ck nh n hp pl (ky.set i.toNat x) :=
  ⟨h.bp, h.op, blkfar h.cells (ne_of h.K h.cells) _ _, far h.H h.nhk _ _, far h.P h.npk _ _, Kd.R_putn h.K i x, h.nhp, h.nhk, h.npk⟩
theorem rh (h : QC w base ok p gh gp gk ch cp ck nh n hp pl ky) {i : Int} (h0 : 0 ≤ i) (h1 : i < nh) : w.cell? ⟨gh, i.toNat, none⟩ = some (.int .i64 (rd hp i)) ∧ w.frozen? ⟨gh, i.toNat, none⟩ = false := Kd.R_celln 0 h.H i h0 h1
theorem rp (h : QC w base ok p gh gp gk ch cp ck nh n hp pl ky) {i : Int} (h0 : 0 ≤ i) (h1 : i < n) : w.cell? ⟨gp, i.toNat, none⟩ = some (.int .i64 (rd pl i)) ∧ w.frozen? ⟨gp, i.toNat, none⟩ = false := Kd.R_celln 0 h.P i h0 h1
theorem rk (h : QC w base ok p gh gp gk ch cp ck nh n hp pl ky) {i : Int} (h0 : 0 ≤ i) (h1 : i < n) : w.cell? ⟨gk, i.toNat, none⟩ = some (.int .i64 (rd ky i)) ∧ w.frozen? ⟨gk, i.toNat, none⟩ = false := Kd.R_celln 0 h.K i h0 h1
theorem bh (h : QC w base ok p gh gp gk ch cp ck nh n hp pl ky) : base ≤ gh ∧ ok gh := ⟨Kd.R_base h.H gh rfl, h.H.1 gh rfl⟩
theorem bpl (h : QC w base ok p gh gp gk ch cp ck nh n hp pl ky) : base ≤ gp ∧ ok gp := ⟨Kd.R_base h.P gp rfl, h.P.1 gp rfl⟩
theorem bk (h : QC w base ok p gh gp gk ch cp ck nh n hp pl ky) : base ≤ gk ∧ ok gk := ⟨Kd.R_base h.K gk rfl, h.K.1 gk rfl⟩
end QC

/-- The same where the first row may be nil. -/
structure QD (w : World) (base : Nat) (ok : Nat → Prop) (p : Nat) (sh : Value) (gp gk cp ck n : Nat) (hp pl ky : List Int) : Prop where
  bp : base ≤ p
  op : ok p
  cells : w.heap[p]? = some (.cells #[sh, .slice (some ⟨gp, 0, none⟩) n cp, .slice (some ⟨gk, 0, none⟩) n ck] 54 (0, 0))
  H : Kd.R (Kd.int .i64) 3 w base ok sh hp
  P : Kd.R (Kd.int .i64) 3 w base ok (.slice (some ⟨gp, 0, none⟩) n cp) pl
  K : Kd.R (Kd.int .i64) 3 w base ok (.slice (some ⟨gk, 0, none⟩) n ck) ky
  ah : ∀ k, sh.ownBlock = some k → k ≠ gp ∧ k ≠ gk
  npk : gp ≠ gk
section
variable {w : World} {base : Nat} {ok : Nat → Prop} {p gh gp gk ch cp ck nh n : Nat} {sh : Value} {hp pl ky : List Int}
theorem QC.toQD (h : QC w base ok p gh gp gk ch cp ck nh n hp pl ky) : QD w base ok p (.slice (some ⟨gh, 0, none⟩) nh ch) gp gk cp ck n hp pl ky :=
  ⟨h.bp, h.op, h.cells, h.H, h.P, h.K, fun k e => by cases e; exact ⟨h.nhp, h.nhk⟩, h.npk⟩
theorem QD.toQC (h : QD w base ok p sh gp gk cp ck n hp pl ky) (hl : 0 < hp.length) : ∃ gh ch, sh = .slice (some ⟨gh, 0, none⟩) hp.length ch ∧ QC w base ok p gh gp gk ch cp ck hp.length n hp pl ky := by
  obtain ⟨g, c, e, _⟩ := Kd.R_form h.H hl
  subst e
  exact ⟨g, c, rfl, h.bp, h.op, h.cells, h.H, h.P, h.K, (h.ah g rfl).1, (h.ah g rfl).2, h.npk⟩
namespace QD
theorem c0 (h : QD w base ok p sh gp gk cp ck n hp pl ky) : w.cell? ⟨p, 0, none⟩ = some sh := (blk_cell h.cells 0).trans rfl
theorem c1 (h : QD w base ok p sh gp gk cp ck n hp pl ky) : w.cell? ⟨p, 1, none⟩ = some (.slice (some ⟨gp, 0, none⟩) n cp) := (blk_cell h.cells 1).trans rfl
theorem c2 (h : QD w base ok p sh gp gk cp ck n hp pl ky) : w.cell? ⟨p, 2, none⟩ = some (.slice (some ⟨gk, 0, none⟩) n ck) := (blk_cell h.cells 2).trans rfl
theorem f0 (h : QD w base ok p sh gp gk cp ck n hp pl ky) (j : Nat) : w.frozen? ⟨p, j, none⟩ = false := blk_frozen h.cells j
theorem hl (h : QD w base ok p sh gp gk cp ck n hp pl ky) : n = pl.length ∧ n = ky.length := ⟨(Kd.R_reads' h.P).1, (Kd.R_reads' h.K).1⟩
theorem drew (h : QD w base ok p sh gp gk cp ck n hp pl ky) : QD w.drew base ok p sh gp gk cp ck n hp pl ky := ⟨h.bp, h.op, blk_drew h.cells, Kd.R_drew h.H, Kd.R_drew h.P, Kd.R_drew h.K, h.ah, h.npk⟩
theorem drewN (h : QD w base ok p sh gp gk cp ck n hp pl ky) (m : Nat) : QD (w.drewN m) base ok p sh gp gk cp ck n hp pl ky := ⟨h.bp, h.op, blk_drewN h.cells m, Kd.R_drewN h.H m, Kd.R_drewN h.P m, Kd.R_drewN h.K m, h.ah, h.npk⟩
theorem farv {q : Nat} {v : Value} {xs : List Int} (h : Kd.R (Kd.int .i64) 3 w base ok v xs) (hne : ∀ k, v.ownBlock = some k → k ≠ q) (j : Nat) (u : Value) : Kd.R (Kd.int .i64) 3 (w.setCell ⟨q, j, none⟩ u) base ok v xs :=
  Kd.R_mono (ok := fun k => ok k ∧ k ≠ q) (Kd.R_far (Kd.R_flat (ok' := fun k => ok k ∧ k ≠ q) (fun h => h) h (fun k e hk => ⟨hk, hne k e⟩)) (p := ⟨q, j, none⟩) (fun k hk => hk.2) u) (fun k hk => hk.1)
theorem setP (h : QD w base ok p sh gp gk cp ck n hp pl ky) (i x : Int) : QD (w.setCell ⟨gp, i.toNat, none⟩ (.int .i64 x)) base ok p sh gp gk cp ck n hp (pl.set i.toNat x) ky :=
  ⟨h.bp, h.op, QC.blkfar h.cells (QC.ne_of h.P h.cells) _ _, farv h.H (fun k e => (h.ah k e).1) _ _, Kd.R_putn h.P i x, QC.far h.K (Ne.symm h.npk) _ _, h.ah, h.npk⟩
theorem setK (h : QD w base ok p sh gp gk cp ck n hp pl ky) (i x : Int) : QD (w.setCell ⟨gk, i.toNat, none⟩ (.int .i64 x)) base ok p sh gp gk cp ck n hp pl (ky.set i.toNat x) :=
  ⟨h.bp, h.op, QC.blkfar h.cells (QC.ne_of h.K h.cells) _ _, farv h.H (fun k e => (h.ah k e).2) _ _, QC.far h.P h.npk _ _, Kd.R_putn h.K i x, h.ah, h.npk⟩
theorem rp (h : QD w base ok p sh gp gk cp ck n hp pl ky) {i : Int} (h0 : 0 ≤ i) (h1 : i < n) : w.cell? ⟨gp, i.toNat, none⟩ = some (.int .i64 (rd pl i)) ∧ w.frozen? ⟨gp, i.toNat, none⟩ = false := Kd.R_celln 0 h.P i h0 h1
theorem rk (h : QD w base ok p sh gp gk cp ck n hp pl ky) {i : Int} (h0 : 0 ≤ i) (h1 : i < n) : w.cell? ⟨gk, i.toNat, none⟩ = some (.int .i64 (rd ky i)) ∧ w.frozen? ⟨gk, i.toNat, none⟩ = false := Kd.R_celln 0 h.K i h0 h1
theorem bpl (h : QD w base ok p sh gp gk cp ck n hp pl ky) : base ≤ gp ∧ ok gp := ⟨Kd.R_base h.P gp rfl, h.P.1 gp rfl⟩
theorem bk (h : QD w base ok p sh gp gk cp ck n hp pl ky) : base ≤ gk ∧ ok gk := ⟨Kd.R_base h.K gk rfl, h.K.1 gk rfl⟩
theorem bh (h : QD w base ok p sh gp gk cp ck n hp pl ky) (k : Nat) (e : sh.ownBlock = some k) : base ≤ k ∧ ok k := ⟨Kd.R_base h.H k e, h.H.1 k e⟩
/-- The first row is written anew into the struct. -/
theorem putH (h : QD w base ok p sh gp gk cp ck n hp pl ky) {sh2 : Value} {hp2 : List Int} (hH : Kd.R (Kd.int .i64) 3 w base ok sh2 hp2) (ha : ∀ k, sh2.ownBlock = some k → k ≠ gp ∧ k ≠ gk) : QD (w.setCell ⟨p, 0, none⟩ sh2) base ok p sh2 gp gk cp ck n hp2 pl ky :=
  ⟨h.bp, h.op, blk_set h.cells 0 sh2, farv hH (fun k e e2 => by subst e2; exact Kd.R_ne hH h.cells (by decide) e.symm) _ _, QC.far h.P (Ne.symm (QC.ne_of h.P h.cells)) _ _, QC.far h.K (Ne.symm (QC.ne_of h.K h.cells)) _ _, ha, h.npk⟩
/-- The first row has grown, by an append. -/
theorem after {w1 : World} {sh2 : Value} {hp2 : List Int} (h : QD w base ok p sh gp gk cp ck n hp pl ky) (hg : w.grownBy w1 sh.ownBlock) (hH : Kd.R (Kd.int .i64) 3 w1 base ok sh2 hp2) (hat : sh2.ownBlock = sh.ownBlock ∨ ∃ b, sh2.ownBlock = some b ∧ w.heap.size ≤ b) :
    w1.heap[p]? = some (.cells #[sh, .slice (some ⟨gp, 0, none⟩) n cp, .slice (some ⟨gk, 0, none⟩) n ck] 54 (0, 0)) ∧ QD (w1.setCell ⟨p, 0, none⟩ sh2) base ok p sh2 gp gk cp ck n hp2 pl ky := by
  have hne : some p ≠ sh.ownBlock := Kd.R_ne h.H h.cells (by decide)
  have hc : w1.heap[p]? = some (.cells #[sh, .slice (some ⟨gp, 0, none⟩) n cp, .slice (some ⟨gk, 0, none⟩) n ck] 54 (0, 0)) := blk_grown h.cells hg hne
  have hP : Kd.R (Kd.int .i64) 3 w1 base ok (.slice (some ⟨gp, 0, none⟩) n cp) pl :=
    Kd.R_mono (ok := fun k => ok k ∧ some k ≠ sh.ownBlock) (Kd.R_grown (Kd.R_flat (ok' := fun k => ok k ∧ some k ≠ sh.ownBlock) (fun h => h) h.P (fun k e hk => ⟨hk, fun e2 => (h.ah k e2.symm).1 (by cases e; rfl)⟩)) hg (fun k hk => hk.2)) (fun k hk => hk.1)
  have hK : Kd.R (Kd.int .i64) 3 w1 base ok (.slice (some ⟨gk, 0, none⟩) n ck) ky :=
    Kd.R_mono (ok := fun k => ok k ∧ some k ≠ sh.ownBlock) (Kd.R_grown (Kd.R_flat (ok' := fun k => ok k ∧ some k ≠ sh.ownBlock) (fun h => h) h.K (fun k e hk => ⟨hk, fun e2 => (h.ah k e2.symm).2 (by cases e; rfl)⟩)) hg (fun k hk => hk.2)) (fun k hk => hk.1)
  have hlp := Kd.R_lt h.P gp rfl
  have hlk := Kd.R_lt h.K gk rfl
  refine ⟨hc, h.bp, h.op, blk_set hc 0 sh2, farv hH (fun k e e2 => by subst e2; exact Kd.R_ne hH hc (by decide) e.symm) _ _, QC.far hP (Ne.symm (QC.ne_of hP hc)) _ _, QC.far hK (Ne.symm (QC.ne_of hK hc)) _ _, fun k e => ?_, h.npk⟩
  rcases hat with e2 | ⟨b, e2, hle⟩
  · exact h.ah k (e2 ▸ e)
  · rw [e2] at e
    cases e
    exact ⟨by omega, by omega⟩
end QD
end

/-- The order of two items by their keys. -/
def ltk (ky : List Int) (a b : Int) : Bool := decide (rd ky a < rd ky b) || (rd ky a == rd ky b && decide (a < b))
end Go.Proofs.Ytpdgifldpnpeeaa.PAll
