/- A queue behind a pointer (package pq): its three rows, and what its inner methods do with them. The heap law, plain: lists of whole numbers, an exchange, an order with one hole. The walks of less and swap (package pq). The walk of settle (package pq): a heap with a hole is a heap again. What a queue holds, plain: of each item its key, or none; how the rows follow when an item is set, dropped, popped. A queue (package pq) as a value: what its methods return and leave. The walk of New (package pq). A queue beside something else: what each method leaves of both; the example of the chapter. Rows of one's own and boxes beside a queue. The closure relax of dijkstra.run. -/
import Derived.Test.YtofhgmdehglhgaaPAllx0
import Derived.Test.YtofhgmdehglhgaaWInvWords
import Derived.WalkKit
import Derived.BigRegion
import Derived.BigQuiet
import Derived.Deep.QuietTactic
import Derived.Deep.LoopGhost
import Derived.Test.YtofhgmdehglhgaaWMore
namespace Go.Proofs.Ytofhgmdehglhgaa.PAll
open Go.RowKit Go.Proofs.YtofhgmdehglhgaaW.PrintWords Go.Proofs.YtofhgmdehglhgaaW.PrintLast Go.Proofs.YtofhgmdehglhgaaW.PrintMore
set_option linter.unusedVariables false
set_option linter.unusedSimpArgs false
attribute [local irreducible] Calls

/-- What goes from w to w2 touches only what is made from base on, or what ok holds. -/
def Tr (base : Nat) (ok : Nat → Prop) (w w2 : World) : Prop :=
  ∀ (w0 w1 : World) (S : Nat → Prop), w0.heap.size = base → (∀ k, ok k → S k ∨ w1.heap.size ≤ k) → (Below w0.heap.size w0 w → Below w0.heap.size w0 w2) ∧ (Kept w1 w S → Kept w1 w2 S)
theorem Tr.refl (base : Nat) (ok : Nat → Prop) (w : World) : Tr base ok w w := fun _ _ _ _ _ => ⟨id, id⟩
theorem Tr.trans {base : Nat} {ok : Nat → Prop} {w w2 w3 : World} (h : Tr base ok w w2) (k : Tr base ok w2 w3) : Tr base ok w w3 :=
  fun w0 w1 S e s => ⟨fun b => (k w0 w1 S e s).1 ((h w0 w1 S e s).1 b), fun b => (k w0 w1 S e s).2 ((h w0 w1 S e s).2 b)⟩
theorem Tr.drew {base : Nat} {ok : Nat → Prop} {w w2 : World} (h : Tr base ok w w2) : Tr base ok w w2.drew :=
  fun w0 w1 S e s => ⟨fun b => below_drew1 ((h w0 w1 S e s).1 b), fun b => Kept.drew ((h w0 w1 S e s).2 b)⟩
theorem Tr.drewN {base : Nat} {ok : Nat → Prop} {w w2 : World} (h : Tr base ok w w2) (n : Nat) : Tr base ok w (w2.drewN n) :=
  fun w0 w1 S e s => ⟨fun b => pw_below_drewN ((h w0 w1 S e s).1 b) n, fun b => Kept.drewN ((h w0 w1 S e s).2 b) n⟩
theorem Tr.set {base : Nat} {ok : Nat → Prop} {w w2 : World} (h : Tr base ok w w2) {g : Nat} (hb : base ≤ g) (hk : ok g) (j : Nat) (v : Value) : Tr base ok w (w2.setCell ⟨g, j, none⟩ v) :=
  fun w0 w1 S e s => ⟨fun b => below_set ((h w0 w1 S e s).1 b) (by omega), fun b => Kept.setCell ((h w0 w1 S e s).2 b) (s g hk) v⟩
theorem Tr.grown {base : Nat} {ok : Nat → Prop} {w w2 w3 : World} (h : Tr base ok w w2) {row : Option Nat} (hg : w2.grownBy w3 row) (hr : ∀ k, row = some k → base ≤ k ∧ ok k) (hz : base ≤ w2.heap.size) : Tr base ok w w3 :=
  fun w0 w1 S e s => ⟨fun b => ((h w0 w1 S e s).1 b).grown hg (by omega) (fun k e2 => by have := (hr k e2).1; omega), fun b => Kept.of_grown hg ((h w0 w1 S e s).2 b) (fun k e2 => s k (hr k e2).2)⟩

/-- Three rows that lie apart, and the struct that holds them. -/
structure QC (w : World) (base : Nat) (ok : Nat → Prop) (p gh gp gk ch cp ck nh n : Nat) (hp pl ky : List Int) : Prop where
  bp : base ≤ p
  op : ok p
  cells : w.heap[p]? = some (.cells #[.slice (some ⟨gh, 0, none⟩) nh ch, .slice (some ⟨gp, 0, none⟩) n cp, .slice (some ⟨gk, 0, none⟩) n ck] 76 (0, 0))
  H : Kd.R (Kd.int .i64) 3 w base ok (.slice (some ⟨gh, 0, none⟩) nh ch) hp
  P : Kd.R (Kd.int .i64) 3 w base ok (.slice (some ⟨gp, 0, none⟩) n cp) pl
  K : Kd.R (Kd.int .i64) 3 w base ok (.slice (some ⟨gk, 0, none⟩) n ck) ky
  nhp : gh ≠ gp
  nhk : gh ≠ gk
  npk : gp ≠ gk
namespace QC
variable {w : World} {base : Nat} {ok : Nat → Prop} {p gh gp gk ch cp ck nh n : Nat} {hp pl ky : List Int}
theorem ne_of {g c : Nat} {xs : List Int} (h : Kd.R (Kd.int .i64) 3 w base ok (.slice (some ⟨g, 0, none⟩) n c) xs) {cs : Array Value} (hc : w.heap[p]? = some (.cells cs 76 (0, 0))) : p ≠ g := by
  rintro rfl
  exact Kd.R_ne h hc (by decide) rfl
theorem c0 (h : QC w base ok p gh gp gk ch cp ck nh n hp pl ky) : w.cell? ⟨p, 0, none⟩ = some (.slice (some ⟨gh, 0, none⟩) nh ch) := (blk_cell h.cells 0).trans rfl
theorem c1 (h : QC w base ok p gh gp gk ch cp ck nh n hp pl ky) : w.cell? ⟨p, 1, none⟩ = some (.slice (some ⟨gp, 0, none⟩) n cp) := (blk_cell h.cells 1).trans rfl
theorem c2 (h : QC w base ok p gh gp gk ch cp ck nh n hp pl ky) : w.cell? ⟨p, 2, none⟩ = some (.slice (some ⟨gk, 0, none⟩) n ck) := (blk_cell h.cells 2).trans rfl
theorem hl (h : QC w base ok p gh gp gk ch cp ck nh n hp pl ky) : nh = hp.length ∧ n = pl.length ∧ n = ky.length := ⟨(Kd.R_reads' h.H).1, (Kd.R_reads' h.P).1, (Kd.R_reads' h.K).1⟩
theorem drew (h : QC w base ok p gh gp gk ch cp ck nh n hp pl ky) : QC w.drew base ok p gh gp gk ch cp ck nh n hp pl ky :=
  ⟨h.bp, h.op, blk_drew h.cells, Kd.R_drew h.H, Kd.R_drew h.P, Kd.R_drew h.K, h.nhp, h.nhk, h.npk⟩
theorem drewN (h : QC w base ok p gh gp gk ch cp ck nh n hp pl ky) (m : Nat) : QC (w.drewN m) base ok p gh gp gk ch cp ck nh n hp pl ky :=
  ⟨h.bp, h.op, blk_drewN h.cells m, Kd.R_drewN h.H m, Kd.R_drewN h.P m, Kd.R_drewN h.K m, h.nhp, h.nhk, h.npk⟩
theorem far {g c m : Nat} {xs : List Int} (h : Kd.R (Kd.int .i64) 3 w base ok (.slice (some ⟨g, 0, none⟩) m c) xs) {q : Nat} (hne : g ≠ q) (j : Nat) (u : Value) : Kd.R (Kd.int .i64) 3 (w.setCell ⟨q, j, none⟩ u) base ok (.slice (some ⟨g, 0, none⟩) m c) xs :=
  Kd.R_mono (ok := fun k => ok k ∧ k ≠ q) (Kd.R_far (Kd.R_flat (ok' := fun k => ok k ∧ k ≠ q) (fun h => h) h (fun k e hk => ⟨hk, by cases e; exact hne⟩)) (p := ⟨q, j, none⟩) (fun k hk => hk.2) u) (fun k hk => hk.1)
theorem blkfar {q : Nat} {o : Obj} (h : w.heap[p]? = some o) (hne : p ≠ q) (j : Nat) (u : Value) : (w.setCell ⟨q, j, none⟩ u).heap[p]? = some o := (Below.heap_setCell w ⟨q, j, none⟩ u p hne).trans h
theorem setH (h : QC w base ok p gh gp gk ch cp ck nh n hp pl ky) (i x : Int) : QC (w.setCell ⟨gh, i.toNat, none⟩ (.int .i64 x)) base ok p gh gp gk ch cp ck nh n (hp.set i.toNat x) pl ky :=
  ⟨h.bp, h.op, blkfar h.cells (ne_of h.H h.cells) _ _, Kd.R_putn h.H i x, far h.P (Ne.symm h.nhp) _ _, far h.K (Ne.symm h.nhk) _ _, h.nhp, h.nhk, h.npk⟩
theorem setP (h : QC w base ok p gh gp gk ch cp ck nh n hp pl ky) (i x : Int) : QC (w.setCell ⟨gp, i.toNat, none⟩ (.int .i64 x)) base ok p gh gp gk ch cp ck nh n hp (pl.set i.toNat x) ky :=
  ⟨h.bp, h.op, blkfar h.cells (ne_of h.P h.cells) _ _, far h.H h.nhp _ _, Kd.R_putn h.P i x, far h.K (Ne.symm h.npk) _ _, h.nhp, h.nhk, h.npk⟩
theorem setK (h : QC w base ok p gh gp gk ch cp ck nh n hp pl ky) (i x : Int) : QC (w.setCell ⟨gk, i.toNat, none⟩ (.int .i64 x)) base ok p gh gp gk ch cp ck nh n hp pl (ky.set i.toNat x) :=
  ⟨h.bp, h.op, blkfar h.cells (ne_of h.K h.cells) _ _, far h.H h.nhk _ _, far h.P h.npk _ _, Kd.R_putn h.K i x, h.nhp, h.nhk, h.npk⟩
theorem rh (h : QC w base ok p gh gp gk ch cp ck nh n hp pl ky) {i : Int} (h0 : 0 ≤ i) (h1 : i < nh) : w.cell? ⟨gh, i.toNat, none⟩ = some (.int .i64 (rd hp i)) ∧ w.frozen? ⟨gh, i.toNat, none⟩ = false := Kd.R_celln 0 h.H i h0 h1
theorem rp (h : QC w base ok p gh gp gk ch cp ck nh n hp pl ky) {i : Int} (h0 : 0 ≤ i) (h1 : i < n) : w.cell? ⟨gp, i.toNat, none⟩ = some (.int .i64 (rd pl i)) ∧ w.frozen? ⟨gp, i.toNat, none⟩ = false := Kd.R_celln 0 h.P i h0 h1
theorem rk (h : QC w base ok p gh gp gk ch cp ck nh n hp pl ky) {i : Int} (h0 : 0 ≤ i) (h1 : i < n) : w.cell? ⟨gk, i.toNat, none⟩ = some (.int .i64 (rd ky i)) ∧ w.frozen? ⟨gk, i.toNat, none⟩ = false := Kd.R_celln 0 h.K i h0 h1
theorem bh (h : QC w base ok p gh gp gk ch cp ck nh n hp pl ky) : base ≤ gh ∧ ok gh := ⟨Kd.R_base h.H gh rfl, h.H.1 gh rfl⟩
theorem bpl (h : QC w base ok p gh gp gk ch cp ck nh n hp pl ky) : base ≤ gp ∧ ok gp := ⟨Kd.R_base h.P gp rfl, h.P.1 gp rfl⟩
theorem bk (h : QC w base ok p gh gp gk ch cp ck nh n hp pl ky) : base ≤ gk ∧ ok gk := ⟨Kd.R_base h.K gk rfl, h.K.1 gk rfl⟩
end QC

/-- The same where the first row may be nil. -/
structure QD (w : World) (base : Nat) (ok : Nat → Prop) (p : Nat) (sh : Value) (gp gk cp ck n : Nat) (hp pl ky : List Int) : Prop where
  bp : base ≤ p
  op : ok p
  cells : w.heap[p]? = some (.cells #[sh, .slice (some ⟨gp, 0, none⟩) n cp, .slice (some ⟨gk, 0, none⟩) n ck] 76 (0, 0))
  H : Kd.R (Kd.int .i64) 3 w base ok sh hp
  P : Kd.R (Kd.int .i64) 3 w base ok (.slice (some ⟨gp, 0, none⟩) n cp) pl
  K : Kd.R (Kd.int .i64) 3 w base ok (.slice (some ⟨gk, 0, none⟩) n ck) ky
  ah : ∀ k, sh.ownBlock = some k → k ≠ gp ∧ k ≠ gk
  npk : gp ≠ gk
section
variable {w : World} {base : Nat} {ok : Nat → Prop} {p gh gp gk ch cp ck nh n : Nat} {sh : Value} {hp pl ky : List Int}
theorem QC.toQD (h : QC w base ok p gh gp gk ch cp ck nh n hp pl ky) : QD w base ok p (.slice (some ⟨gh, 0, none⟩) nh ch) gp gk cp ck n hp pl ky :=
  ⟨h.bp, h.op, h.cells, h.H, h.P, h.K, fun k e => by cases e; exact ⟨h.nhp, h.nhk⟩, h.npk⟩
theorem QD.toQC (h : QD w base ok p sh gp gk cp ck n hp pl ky) (hl : 0 < hp.length) : ∃ gh ch, sh = .slice (some ⟨gh, 0, none⟩) hp.length ch ∧ QC w base ok p gh gp gk ch cp ck hp.length n hp pl ky := by
  obtain ⟨g, c, e, _⟩ := Kd.R_form h.H hl
  subst e
  exact ⟨g, c, rfl, h.bp, h.op, h.cells, h.H, h.P, h.K, (h.ah g rfl).1, (h.ah g rfl).2, h.npk⟩
namespace QD
theorem c0 (h : QD w base ok p sh gp gk cp ck n hp pl ky) : w.cell? ⟨p, 0, none⟩ = some sh := (blk_cell h.cells 0).trans rfl
theorem c1 (h : QD w base ok p sh gp gk cp ck n hp pl ky) : w.cell? ⟨p, 1, none⟩ = some (.slice (some ⟨gp, 0, none⟩) n cp) := (blk_cell h.cells 1).trans rfl
theorem c2 (h : QD w base ok p sh gp gk cp ck n hp pl ky) : w.cell? ⟨p, 2, none⟩ = some (.slice (some ⟨gk, 0, none⟩) n ck) := (blk_cell h.cells 2).trans rfl
theorem f0 (h : QD w base ok p sh gp gk cp ck n hp pl ky) (j : Nat) : w.frozen? ⟨p, j, none⟩ = false := blk_frozen h.cells j
theorem hl (h : QD w base ok p sh gp gk cp ck n hp pl ky) : n = pl.length ∧ n = ky.length := ⟨(Kd.R_reads' h.P).1, (Kd.R_reads' h.K).1⟩
theorem drew (h : QD w base ok p sh gp gk cp ck n hp pl ky) : QD w.drew base ok p sh gp gk cp ck n hp pl ky := ⟨h.bp, h.op, blk_drew h.cells, Kd.R_drew h.H, Kd.R_drew h.P, Kd.R_drew h.K, h.ah, h.npk⟩
theorem drewN (h : QD w base ok p sh gp gk cp ck n hp pl ky) (m : Nat) : QD (w.drewN m) base ok p sh gp gk cp ck n hp pl ky := ⟨h.bp, h.op, blk_drewN h.cells m, Kd.R_drewN h.H m, Kd.R_drewN h.P m, Kd.R_drewN h.K m, h.ah, h.npk⟩
theorem farv {q : Nat} {v : Value} {xs : List Int} (h : Kd.R (Kd.int .i64) 3 w base ok v xs) (hne : ∀ k, v.ownBlock = some k → k ≠ q) (j : Nat) (u : Value) : Kd.R (Kd.int .i64) 3 (w.setCell ⟨q, j, none⟩ u) base ok v xs :=
  Kd.R_mono (ok := fun k => ok k ∧ k ≠ q) (Kd.R_far (Kd.R_flat (ok' := fun k => ok k ∧ k ≠ q) (fun h => h) h (fun k e hk => ⟨hk, hne k e⟩)) (p := ⟨q, j, none⟩) (fun k hk => hk.2) u) (fun k hk => hk.1)
theorem setP (h : QD w base ok p sh gp gk cp ck n hp pl ky) (i x : Int) : QD (w.setCell ⟨gp, i.toNat, none⟩ (.int .i64 x)) base ok p sh gp gk cp ck n hp (pl.set i.toNat x) ky :=
  ⟨h.bp, h.op, QC.blkfar h.cells (QC.ne_of h.P h.cells) _ _, farv h.H (fun k e => (h.ah k e).1) _ _, Kd.R_putn h.P i x, QC.far h.K (Ne.symm h.npk) _ _, h.ah, h.npk⟩
theorem setK (h : QD w base ok p sh gp gk cp ck n hp pl ky) (i x : Int) : QD (w.setCell ⟨gk, i.toNat, none⟩ (.int .i64 x)) base ok p sh gp gk cp ck n hp pl (ky.set i.toNat x) :=
  ⟨h.bp, h.op, QC.blkfar h.cells (QC.ne_of h.K h.cells) _ _, farv h.H (fun k e => (h.ah k e).2) _ _, QC.far h.P h.npk _ _, Kd.R_putn h.K i x, h.ah, h.npk⟩
theorem rp (h : QD w base ok p sh gp gk cp ck n hp pl ky) {i : Int} (h0 : 0 ≤ i) (h1 : i < n) : w.cell? ⟨gp, i.toNat, none⟩ = some (.int .i64 (rd pl i)) ∧ w.frozen? ⟨gp, i.toNat, none⟩ = false := Kd.R_celln 0 h.P i h0 h1
theorem rk (h : QD w base ok p sh gp gk cp ck n hp pl ky) {i : Int} (h0 : 0 ≤ i) (h1 : i < n) : w.cell? ⟨gk, i.toNat, none⟩ = some (.int .i64 (rd ky i)) ∧ w.frozen? ⟨gk, i.toNat, none⟩ = false := Kd.R_celln 0 h.K i h0 h1
theorem bpl (h : QD w base ok p sh gp gk cp ck n hp pl ky) : base ≤ gp ∧ ok gp := ⟨Kd.R_base h.P gp rfl, h.P.1 gp rfl⟩
theorem bk (h : QD w base ok p sh gp gk cp ck n hp pl ky) : base ≤ gk ∧ ok gk := ⟨Kd.R_base h.K gk rfl, h.K.1 gk rfl⟩
theorem bh (h : QD w base ok p sh gp gk cp ck n hp pl ky) (k : Nat) (e : sh.ownBlock = some k) : base ≤ k ∧ ok k := ⟨Kd.R_base h.H k e, h.H.1 k e⟩
/-- The first row is written anew into the struct. -/
theorem putH (h : QD w base ok p sh gp gk cp ck n hp pl ky) {sh2 : Value} {hp2 : List Int} (hH : Kd.R (Kd.int .i64) 3 w base ok sh2 hp2) (ha : ∀ k, sh2.ownBlock = some k → k ≠ gp ∧ k ≠ gk) : QD (w.setCell ⟨p, 0, none⟩ sh2) base ok p sh2 gp gk cp ck n hp2 pl ky :=
  ⟨h.bp, h.op, blk_set h.cells 0 sh2, farv hH (fun k e e2 => by subst e2; exact Kd.R_ne hH h.cells (by decide) e.symm) _ _, QC.far h.P (Ne.symm (QC.ne_of h.P h.cells)) _ _, QC.far h.K (Ne.symm (QC.ne_of h.K h.cells)) _ _, ha, h.npk⟩
/-- The first row has grown, by an append. -/
theorem after {w1 : World} {sh2 : Value} {hp2 : List Int} (h : QD w base ok p sh gp gk cp ck n hp pl ky) (hg : w.grownBy w1 sh.ownBlock) (hH : Kd.R (Kd.int .i64) 3 w1 base ok sh2 hp2) (hat : sh2.ownBlock = sh.ownBlock ∨ ∃ b, sh2.ownBlock = some b ∧ w.heap.size ≤ b) :
    w1.heap[p]? = some (.cells #[sh, .slice (some ⟨gp, 0, none⟩) n cp, .slice (some ⟨gk, 0, none⟩) n ck] 76 (0, 0)) ∧ QD (w1.setCell ⟨p, 0, none⟩ sh2) base ok p sh2 gp gk cp ck n hp2 pl ky := by
  have hne : some p ≠ sh.ownBlock := Kd.R_ne h.H h.cells (by decide)
  have hc : w1.heap[p]? = some (.cells #[sh, .slice (some ⟨gp, 0, none⟩) n cp, .slice (some ⟨gk, 0, none⟩) n ck] 76 (0, 0)) := blk_grown h.cells hg hne
  have hP : Kd.R (Kd.int .i64) 3 w1 base ok (.slice (some ⟨gp, 0, none⟩) n cp) pl :=
    Kd.R_mono (ok := fun k => ok k ∧ some k ≠ sh.ownBlock) (Kd.R_grown (Kd.R_flat (ok' := fun k => ok k ∧ some k ≠ sh.ownBlock) (fun h => h) h.P (fun k e hk => ⟨hk, fun e2 => (h.ah k e2.symm).1 (by cases e; rfl)⟩)) hg (fun k hk => hk.2)) (fun k hk => hk.1)
  have hK : Kd.R (Kd.int .i64) 3 w1 base ok (.slice (some ⟨gk, 0, none⟩) n ck) ky :=
    Kd.R_mono (ok := fun k => ok k ∧ some k ≠ sh.ownBlock) (Kd.R_grown (Kd.R_flat (ok' := fun k => ok k ∧ some k ≠ sh.ownBlock) (fun h => h) h.K (fun k e hk => ⟨hk, fun e2 => (h.ah k e2.symm).2 (by cases e; rfl)⟩)) hg (fun k hk => hk.2)) (fun k hk => hk.1)
  have hlp := Kd.R_lt h.P gp rfl
  have hlk := Kd.R_lt h.K gk rfl
  refine ⟨hc, h.bp, h.op, blk_set hc 0 sh2, farv hH (fun k e e2 => by subst e2; exact Kd.R_ne hH hc (by decide) e.symm) _ _, QC.far hP (Ne.symm (QC.ne_of hP hc)) _ _, QC.far hK (Ne.symm (QC.ne_of hK hc)) _ _, fun k e => ?_, h.npk⟩
  rcases hat with e2 | ⟨b, e2, hle⟩
  · exact h.ah k (e2 ▸ e)
  · rw [e2] at e
    cases e
    exact ⟨by omega, by omega⟩
end QD
end

/-- The order of two items by their keys. -/
def ltk (ky : List Int) (a b : Int) : Bool := decide (rd ky a < rd ky b) || (rd ky a == rd ky b && decide (a < b))
end Go.Proofs.Ytofhgmdehglhgaa.PAll
namespace Go.Proofs.Ytofhgmdehglhgaa.PAll
open Go.RowKit Go.Proofs.YtofhgmdehglhgaaW.PrintWords
set_option linter.unusedVariables false
set_option linter.unusedSimpArgs false

def swh (hp : List Int) (i k : Int) : List Int := (hp.set i.toNat (rd hp k)).set k.toNat (rd hp i)
def swp (hp pl : List Int) (i k : Int) : List Int := (pl.set (rd (swh hp i k) i).toNat i).set (rd (swh hp i k) k).toNat k
theorem rd_set (xs : List Int) (i : Nat) (j x : Int) (hi : i < xs.length) : rd (xs.set i x) j = if j.toNat = i then x else rd xs j := by
  unfold rd
  rw [List.getD_eq_getElem?_getD, List.getD_eq_getElem?_getD, List.getElem?_set]
  by_cases e : i = j.toNat
  · rw [if_pos e, if_pos e.symm, if_pos (by omega)]
    rfl
  · rw [if_neg e, if_neg (fun h => e h.symm)]
theorem rd_set' (xs : List Int) (i j x : Int) (h0 : 0 ≤ i) (h1 : i < xs.length) (hj : 0 ≤ j) : rd (xs.set i.toNat x) j = if j = i then x else rd xs j := by
  rw [rd_set _ _ _ _ (by omega)]
  by_cases e : j = i
  · rw [if_pos e, if_pos (by rw [e])]
  · rw [if_neg e, if_neg (by omega)]
theorem len_set (xs : List Int) (i : Nat) (x : Int) : (xs.set i x).length = xs.length := by simp
theorem swh_len (hp : List Int) (i k : Int) : (swh hp i k).length = hp.length := by simp [swh]
theorem swp_len (hp pl : List Int) (i k : Int) : (swp hp pl i k).length = pl.length := by simp [swp]
/-- The exchanged row, cell by cell. -/
theorem swh_rd {hp : List Int} {i k j : Int} (hi0 : 0 ≤ i) (hi1 : i < hp.length) (hk0 : 0 ≤ k) (hk1 : k < hp.length) (hj : 0 ≤ j) : rd (swh hp i k) j = if j = k then rd hp i else if j = i then rd hp k else rd hp j := by
  unfold swh
  rw [rd_set' _ _ _ _ hk0 (by rw [len_set]; exact hk1) hj, rd_set' _ _ _ _ hi0 hi1 hj]

/-- What the three rows tell of each other. -/
structure QI (n : Nat) (hp pl ky : List Int) : Prop where
  lp : pl.length = n
  lk : ky.length = n
  hb : ∀ j : Int, 0 ≤ j → j < hp.length → 0 ≤ rd hp j ∧ rd hp j < n ∧ rd pl (rd hp j) = j
  pb : ∀ x : Int, 0 ≤ x → x < n → rd pl x = -1 ∨ (0 ≤ rd pl x ∧ rd pl x < hp.length ∧ rd hp (rd pl x) = x)
/-- The same items are in the queue. -/
def Same (n : Nat) (pl pl2 : List Int) : Prop := ∀ x : Int, 0 ≤ x → x < n → (rd pl2 x < 0 ↔ rd pl x < 0)
theorem Same.refl (n : Nat) (pl : List Int) : Same n pl pl := fun _ _ _ => Iff.rfl
theorem Same.trans {n : Nat} {a b c : List Int} (h : Same n a b) (k : Same n b c) : Same n a c := fun x h0 h1 => (k x h0 h1).trans (h x h0 h1)

theorem swap_QI {n : Nat} {hp pl ky : List Int} {i k : Int} (h : QI n hp pl ky) (hi0 : 0 ≤ i) (hi1 : i < hp.length) (hk0 : 0 ≤ k) (hk1 : k < hp.length) : QI n (swh hp i k) (swp hp pl i k) ky ∧ Same n pl (swp hp pl i k) := by
  have hx := h.hb i hi0 hi1
  have hy := h.hb k hk0 hk1
  have e1 : rd (swh hp i k) i = if i = k then rd hp i else rd hp k := by
    rw [swh_rd hi0 hi1 hk0 hk1 hi0]
    simp
  have e1' : rd (swh hp i k) i = rd hp k := by
    rw [e1]
    by_cases c : i = k
    · rw [if_pos c, c]
    · rw [if_neg c]
  have e2 : rd (swh hp i k) k = rd hp i := by
    rw [swh_rd hi0 hi1 hk0 hk1 hk0]
    simp
  have hP : ∀ x : Int, 0 ≤ x → x < n → rd (swp hp pl i k) x = if x = rd hp i then k else if x = rd hp k then i else rd pl x := by
    intro x h0 h1
    unfold swp
    rw [e1', e2, rd_set' _ _ _ _ hx.1 (by rw [len_set, h.lp]; exact hx.2.1) h0, rd_set' _ _ _ _ hy.1 (by rw [h.lp]; exact hy.2.1) h0]
  have inj : ∀ a b : Int, 0 ≤ a → a < hp.length → 0 ≤ b → b < hp.length → rd hp a = rd hp b → a = b := by
    intro a b a0 a1 b0 b1 e
    have h1 := (h.hb a a0 a1).2.2
    have h2 := (h.hb b b0 b1).2.2
    rw [e] at h1
    exact h1.symm.trans h2
  refine ⟨⟨by rw [swp_len]; exact h.lp, h.lk, ?_, ?_⟩, ?_⟩
  · intro j j0 j1
    rw [swh_len] at j1
    have hj := h.hb j j0 j1
    rw [swh_rd hi0 hi1 hk0 hk1 j0]
    by_cases c1 : j = k
    · rw [if_pos c1]
      refine ⟨hx.1, hx.2.1, ?_⟩
      rw [hP _ hx.1 hx.2.1, if_pos rfl, c1]
    · rw [if_neg c1]
      by_cases c2 : j = i
      · rw [if_pos c2]
        refine ⟨hy.1, hy.2.1, ?_⟩
        rw [hP _ hy.1 hy.2.1, if_neg (fun e => c1 (c2.trans (inj i k hi0 hi1 hk0 hk1 e.symm))), if_pos rfl, c2]
      · rw [if_neg c2]
        refine ⟨hj.1, hj.2.1, ?_⟩
        rw [hP _ hj.1 hj.2.1, if_neg (fun e => c2 (inj _ _ j0 j1 hi0 hi1 e)), if_neg (fun e => c1 (inj _ _ j0 j1 hk0 hk1 e))]
        exact hj.2.2
  · intro x h0 h1
    rw [hP x h0 h1, swh_len]
    by_cases c1 : x = rd hp i
    · rw [if_pos c1]
      exact .inr ⟨hk0, hk1, by rw [e2, c1]⟩
    · rw [if_neg c1]
      by_cases c2 : x = rd hp k
      · rw [if_pos c2]
        exact .inr ⟨hi0, hi1, by rw [e1', c2]⟩
      · rw [if_neg c2]
        rcases h.pb x h0 h1 with g | ⟨g0, g1, g2⟩
        · exact .inl g
        · refine .inr ⟨g0, g1, ?_⟩
          rw [swh_rd hi0 hi1 hk0 hk1 g0, if_neg (fun e => c2 (by rw [← g2, e])), if_neg (fun e => c1 (by rw [← g2, e]))]
          exact g2
  · intro x h0 h1
    rw [hP x h0 h1]
    by_cases c1 : x = rd hp i
    · rw [if_pos c1, c1, hx.2.2]
      omega
    · rw [if_neg c1]
      by_cases c2 : x = rd hp k
      · rw [if_pos c2, c2, hy.2.2]
        omega
      · rw [if_neg c2]

theorem ltk_iff (ky : List Int) (a b : Int) : ltk ky a b = true ↔ rd ky a < rd ky b ∨ (rd ky a = rd ky b ∧ a < b) := by
  unfold ltk
  simp
/-- a does not come behind b. -/
def ord (ky : List Int) (a b : Int) : Prop := rd ky a < rd ky b ∨ (rd ky a = rd ky b ∧ a ≤ b)
theorem ord_of_not {ky : List Int} {a b : Int} (h : ltk ky b a = false) : ord ky a b := by
  have : ¬ (rd ky b < rd ky a ∨ (rd ky b = rd ky a ∧ b < a)) := fun h2 => by rw [(ltk_iff ky b a).2 h2] at h; cases h
  unfold ord
  omega
theorem ord_of_lt {ky : List Int} {a b : Int} (h : ltk ky a b = true) : ord ky a b := by
  have := (ltk_iff ky a b).1 h
  unfold ord
  omega
theorem ord_trans {ky : List Int} {a b c : Int} (h : ord ky a b) (k : ord ky b c) : ord ky a c := by
  unfold ord at *
  omega
theorem ltk_ord {ky : List Int} {a b c : Int} (h : ltk ky a b = true) (k : ord ky b c) : ltk ky a c = true := by
  rw [ltk_iff] at *
  unfold ord at k
  omega
theorem ord_refl (ky : List Int) (a : Int) : ord ky a a := by
  unfold ord
  omega

/-- In order but at i: there what hangs below i lies behind what is above i. -/
def Hole (hp ky : List Int) (i : Int) : Prop :=
  (∀ k : Int, 0 < k → k < hp.length → k ≠ i → (k - 1) / 2 ≠ i → ord ky (rd hp ((k - 1) / 2)) (rd hp k)) ∧
  (∀ c : Int, 0 < c → c < hp.length → (c - 1) / 2 = i → 0 < i → ord ky (rd hp ((i - 1) / 2)) (rd hp c))
def UpOk (hp ky : List Int) (i : Int) : Prop := 0 < i → ord ky (rd hp ((i - 1) / 2)) (rd hp i)
def Heap (hp ky : List Int) : Prop := ∀ k : Int, 0 < k → k < hp.length → ord ky (rd hp ((k - 1) / 2)) (rd hp k)

theorem hole_of_heap {hp ky : List Int} (h : Heap hp ky) (i : Int) (hi : i < hp.length) : Hole hp ky i :=
  ⟨fun k h0 h1 _ _ => h k h0 h1, fun c h0 h1 e hi0 => ord_trans (h i hi0 hi) (by have := h c h0 h1; rw [e] at this; exact this)⟩

theorem up_step {hp ky : List Int} {i : Int} (h : Hole hp ky i) (hi0 : 0 < i) (hi1 : i < hp.length) (hl : ltk ky (rd hp i) (rd hp ((i - 1) / 2)) = true) : Hole (swh hp i ((i - 1) / 2)) ky ((i - 1) / 2) := by
  have p0 : 0 ≤ (i - 1) / 2 := by omega
  have p1 : (i - 1) / 2 < i := by omega
  generalize hp' : (i - 1) / 2 = q at *
  have ho := ord_of_lt hl
  have sw : ∀ j, 0 ≤ j → rd (swh hp i q) j = if j = q then rd hp i else if j = i then rd hp q else rd hp j := fun j hj => swh_rd (by omega) hi1 p0 (by omega) hj
  constructor
  · intro k h0 h1 h2 h3
    rw [swh_len] at h1
    rw [sw _ (by omega), sw _ (by omega), if_neg h3, if_neg h2]
    by_cases c1 : (k - 1) / 2 = i
    · rw [if_pos c1, if_neg (by omega)]
      have h4 := h.2 k h0 h1 c1 hi0
      rw [hp'] at h4
      exact h4
    · rw [if_neg c1]
      by_cases c2 : k = i
      · rw [c2] at h3
        exact absurd hp' h3
      · rw [if_neg c2]
        exact h.1 k h0 h1 c2 c1
  · intro c h0 h1 h2 h3
    rw [swh_len] at h1
    rw [sw _ (by omega), sw _ (by omega), if_neg (by omega), if_neg (by omega), if_neg (by omega)]
    have h4 := h.1 q h3 (by omega) (by omega) (by omega)
    by_cases c1 : c = i
    · rw [if_pos c1]
      exact h4
    · rw [if_neg c1]
      have h5 := h.1 c h0 h1 c1 (by omega)
      rw [h2] at h5
      exact ord_trans h4 h5

theorem down_stop {hp ky : List Int} {i : Int} (h : Hole hp ky i) (hu : UpOk hp ky i) (hi0 : 0 ≤ i)
    (ha : 2 * i + 1 < hp.length → ord ky (rd hp i) (rd hp (2 * i + 1))) (hb : 2 * i + 2 < hp.length → ord ky (rd hp i) (rd hp (2 * i + 2))) : Heap hp ky := by
  intro k h0 h1
  by_cases c1 : k = i
  · rw [c1]
    exact hu (by omega)
  · by_cases c2 : (k - 1) / 2 = i
    · rw [c2]
      have : k = 2 * i + 1 ∨ k = 2 * i + 2 := by omega
      rcases this with e | e
      · rw [e]
        exact ha (by omega)
      · rw [e]
        exact hb (by omega)
    · exact h.1 k h0 h1 c1 c2

theorem down_step {hp ky : List Int} {i c : Int} (h : Hole hp ky i) (hu : UpOk hp ky i) (hi0 : 0 ≤ i) (hc : c < hp.length) (hcc : c = 2 * i + 1 ∨ c = 2 * i + 2) (hl : ltk ky (rd hp c) (rd hp i) = true)
    (hleast : ∀ d : Int, 0 < d → d < hp.length → (d - 1) / 2 = i → ord ky (rd hp c) (rd hp d)) : Hole (swh hp i c) ky c ∧ UpOk (swh hp i c) ky c := by
  have hpc : (c - 1) / 2 = i := by omega
  have ho := ord_of_lt hl
  have sw : ∀ j, 0 ≤ j → rd (swh hp i c) j = if j = c then rd hp i else if j = i then rd hp c else rd hp j := fun j hj => swh_rd hi0 (by omega) (by omega) hc hj
  refine ⟨⟨?_, ?_⟩, ?_⟩
  · intro k h0 h1 h2 h3
    rw [swh_len] at h1
    rw [sw _ (by omega), sw _ (by omega), if_neg h3, if_neg h2]
    by_cases c1 : k = i
    · rw [if_neg (by omega), if_pos c1, c1]
      have h4 := h.2 c (by omega) hc hpc (by omega)
      exact h4
    · rw [if_neg c1]
      by_cases c2 : (k - 1) / 2 = i
      · rw [if_pos c2]
        exact hleast k h0 h1 c2
      · rw [if_neg c2]
        exact h.1 k h0 h1 c1 c2
  · intro d h0 h1 h2 h3
    rw [swh_len] at h1
    rw [hpc, sw _ (by omega), sw _ (by omega), if_neg (by omega), if_pos rfl, if_neg (by omega), if_neg (by omega)]
    have h4 := h.1 d h0 h1 (by omega) (by omega)
    rw [h2] at h4
    exact h4
  · intro h0
    rw [hpc, sw _ (by omega), sw _ (by omega), if_neg (by omega), if_pos rfl, if_pos rfl]
    exact ho
/-- The first of a heap comes before all others. -/
theorem heap_first {hp ky : List Int} (h : Heap hp ky) : ∀ (m : Nat) (j : Int), 0 ≤ j → j < hp.length → j.toNat ≤ m → ord ky (rd hp 0) (rd hp j) := by
  intro m
  induction m with
  | zero =>
    intro j h0 h1 h2
    have : j = 0 := by omega
    rw [this]
    exact ord_refl _ _
  | succ m ih =>
    intro j h0 h1 h2
    by_cases c : j = 0
    · rw [c]
      exact ord_refl _ _
    · exact ord_trans (ih ((j - 1) / 2) (by omega) (by omega) (by omega)) (h j (by omega) h1)
end Go.Proofs.Ytofhgmdehglhgaa.PAll
namespace Go.Proofs.Ytofhgmdehglhgaa.PAll
open Go.RowKit Go.Proofs.YtofhgmdehglhgaaW.PrintWords Go.Proofs.YtofhgmdehglhgaaW.PrintLast Go.Proofs.YtofhgmdehglhgaaW.PrintMore
set_option linter.unusedVariables false
set_option linter.unusedSimpArgs false
attribute [local irreducible] Calls

set_option maxHeartbeats 8000000 in
set_option maxRecDepth 100000 in
theorem pq_less.calls {w : World} {base : Nat} {ok : Nat → Prop} {p gh gp gk ch cp ck nh n : Nat} {hp pl ky : List Int} (h : QC w base ok p gh gp gk ch cp ck nh n hp pl ky) (i k : Int) (hi0 : 0 ≤ i) (hi1 : i < nh) (hk0 : 0 ≤ k) (hk1 : k < nh)
    (ha0 : 0 ≤ rd hp i) (ha1 : rd hp i < n) (hb0 : 0 ≤ rd hp k) (hb1 : rd hp k < n) :
    Calls Try.prog 40 #[.pointer (some ⟨p, 0, none⟩), .int .i64 i, .int .i64 k] w fun e w' => e = .returned (.bool (ltk ky (rd hp i) (rd hp k))) ∧ Drawn0 w w' := by
  have e0 := h.c0
  have e2 := h.c2
  have r1 := (h.rh hi0 hi1).1
  have r2 := (h.rh hk0 hk1).1
  have r3 := (h.rk ha0 ha1).1
  have r4 := (h.rk hb0 hb1).1
  clear h
  generalize rd hp i = a at *
  generalize rd hp k = b at *
  unfold ltk
  by_cases c1 : rd ky a < rd ky b
  · have d1 : decide (rd ky a < rd ky b) = true := decide_eq_true c1
    go_enter Try.func40, Try.ntmps40
    go_wp2
    repeat (go_quiet (fail); try go_wp2)
    go_ret
    exact ⟨by simp [*], by repeat (first | exact Drawn0.refl _ | apply Drawn0.step)⟩
  · have d1 : decide (rd ky a < rd ky b) = false := decide_eq_false c1
    by_cases c2 : rd ky a = rd ky b
    · have d2 : (rd ky a == rd ky b) = true := beq_iff_eq.2 c2
      clear c1 c2
      generalize rd ky a = x at *
      generalize rd ky b = y at *
      go_enter Try.func40, Try.ntmps40
      go_wp2
      repeat (go_quiet (fail); try go_wp2)
      go_ret
      exact ⟨by simp [*], by repeat (first | exact Drawn0.refl _ | apply Drawn0.step)⟩
    · have d2 : (rd ky a == rd ky b) = false := beq_eq_false_iff_ne.2 c2
      clear c1 c2
      generalize rd ky a = x at *
      generalize rd ky b = y at *
      go_enter Try.func40, Try.ntmps40
      go_wp2
      repeat (go_quiet (fail); try go_wp2)
      go_ret
      exact ⟨by simp [*], by repeat (first | exact Drawn0.refl _ | apply Drawn0.step)⟩

set_option maxHeartbeats 16000000 in
set_option maxRecDepth 1000000 in
theorem pq_swap.calls {w : World} {base : Nat} {ok : Nat → Prop} {p gh gp gk ch cp ck nh n : Nat} {hp pl ky : List Int} (h : QC w base ok p gh gp gk ch cp ck nh n hp pl ky) (i k : Int) (hi0 : 0 ≤ i) (hi1 : i < nh) (hk0 : 0 ≤ k) (hk1 : k < nh)
    (ha0 : 0 ≤ rd hp i) (ha1 : rd hp i < n) (hb0 : 0 ≤ rd hp k) (hb1 : rd hp k < n) :
    Calls Try.prog 41 #[.pointer (some ⟨p, 0, none⟩), .int .i64 i, .int .i64 k] w fun e w' => e = .returned (.tuple #[]) ∧ QC w' base ok p gh gp gk ch cp ck nh n (swh hp i k) (swp hp pl i k) ky ∧ Tr base ok w w' := by
  have e0 := h.c0
  have e1 := h.c1
  have r1 := h.rh hi0 hi1
  have r2 := h.rh hk0 hk1
  have HQ := Aside0.mk h
  have hnh := h.hl.1
  have HT := Aside0.mk (Tr.refl base ok w)
  clear h
  obtain ⟨r1, f1⟩ := r1
  obtain ⟨r2, f2⟩ := r2
  obtain ⟨r3, f3⟩ := (HQ.out.setH i (rd hp k)).rh hk0 hk1
  have HQ2 := Aside0.mk ((HQ.out.setH i (rd hp k)).setH k (rd hp i))
  have HT2 := Aside0.mk ((HT.out.set HQ.out.bh.1 HQ.out.bh.2 i.toNat (.int .i64 (rd hp k))).set HQ.out.bh.1 HQ.out.bh.2 k.toNat (.int .i64 (rd hp i)))
  have hl1 : i.toNat < hp.length := by omega
  have hl2 : k.toNat < hp.length := by omega
  have v1 : rd (swh hp i k) i = if i.toNat = k.toNat then rd hp i else rd hp k := by
    unfold swh
    rw [rd_set _ _ _ _ (by simpa using hl2), rd_set _ _ _ _ hl1, if_pos rfl]
  have v2 : rd (swh hp i k) k = rd hp i := by
    unfold swh
    rw [rd_set _ _ _ _ (by simpa using hl2), if_pos rfl]
  have u0 : 0 ≤ rd (swh hp i k) i := by rw [v1]; split <;> assumption
  have u1 : rd (swh hp i k) i < n := by rw [v1]; split <;> assumption
  have w0' : 0 ≤ rd (swh hp i k) k := by rw [v2]; assumption
  have w1' : rd (swh hp i k) k < n := by rw [v2]; assumption
  have hfin : (pl.set (rd (swh hp i k) i).toNat i).set (rd (swh hp i k) k).toNat k = swp hp pl i k := rfl
  have hfin2 : (hp.set i.toNat (rd hp k)).set k.toNat (rd hp i) = swh hp i k := rfl
  rw [hfin2] at HQ2
  generalize swp hp pl i k = PL at hfin ⊢
  have HF := Aside0.mk hfin
  clear hnh v1 v2 hl1 hl2 hfin hfin2
  generalize swh hp i k = HH at *
  go_enter Try.func41, Try.ntmps41
  go_wp2
  go_region
  generalize hW1 : ((w.setCell ⟨gh, i.toNat, none⟩ (.int .i64 (rd hp k))).setCell ⟨gh, k.toNat, none⟩ (.int .i64 (rd hp i))).drew = W1
  have HQ3 : Aside0 (QC W1 base ok p gh gp gk ch cp ck nh n HH pl ky) := Aside0.mk (by rw [← hW1]; exact HQ2.out.drew)
  have HT3 : Aside0 (Tr base ok w W1) := Aside0.mk (by rw [← hW1]; exact HT2.out.drew)
  clear hW1 HQ2 HT2 e0 e1 r1 r2 f1 f2 r3 f3
  have e0 := HQ3.out.c0
  have e1 := HQ3.out.c1
  obtain ⟨r1, f1⟩ := HQ3.out.rh hi0 hi1
  obtain ⟨r2, f2⟩ := HQ3.out.rh hk0 hk1
  obtain ⟨r3, f3⟩ := HQ3.out.rp u0 u1
  obtain ⟨r4, f4⟩ := HQ3.out.rp w0' w1'
  obtain ⟨r5, f5⟩ := (HQ3.out.setP (rd HH i) i).rp w0' w1'
  go_wp2
  go_region
  go_end0
  exact ⟨rfl, by rw [← HF.out]; exact ((HQ3.out.setP (rd HH i) i).setP (rd HH k) k).drew, ((HT3.out.set HQ3.out.bpl.1 HQ3.out.bpl.2 _ _).set HQ3.out.bpl.1 HQ3.out.bpl.2 _ _).drew⟩
end Go.Proofs.Ytofhgmdehglhgaa.PAll
namespace Go.Proofs.Ytofhgmdehglhgaa.PAll
open Go.RowKit Go.Proofs.YtofhgmdehglhgaaW.PrintWords Go.Proofs.YtofhgmdehglhgaaW.PrintLast Go.Proofs.YtofhgmdehglhgaaW.PrintMore
set_option linter.unusedVariables false
set_option linter.unusedSimpArgs false
attribute [local irreducible] Calls

theorem pq_less_b {w : World} {base : Nat} {ok : Nat → Prop} {p gh gp gy ch cp ck nh n : Nat} {hp pl ky : List Int} (h : QC w base ok p gh gp gy ch cp ck nh n hp pl ky) (hI : QI n hp pl ky) (i k : Int) (b : Bool) (hi0 : 0 ≤ i) (hi1 : i < nh) (hk0 : 0 ≤ k) (hk1 : k < nh) (hb : ltk ky (rd hp i) (rd hp k) = b) :
    Calls Try.prog 40 #[.pointer (some ⟨p, 0, none⟩), .int .i64 i, .int .i64 k] w fun e w' => e = .returned (.bool b) ∧ ∃ m, w' = w.drewN m := by
  have hn := h.hl.1
  have a1 := hI.hb i hi0 (by omega)
  have a2 := hI.hb k hk0 (by omega)
  subst hb
  exact (pq_less.calls h i k hi0 hi1 hk0 hk1 a1.1 a1.2.1 a2.1 a2.2.1).mono fun e w' ⟨h1, h2⟩ => ⟨h1, h2.out⟩

/-- The queue as settle finds and leaves it. -/
def SQ (w0 w : World) (base : Nat) (ok : Nat → Prop) (p gh gp gy ch cp ck nh n : Nat) (pl0 ky hp pl : List Int) : Prop :=
  QC w base ok p gh gp gy ch cp ck nh n hp pl ky ∧ QI n hp pl ky ∧ Same n pl0 pl ∧ Tr base ok w0 w
section
variable {w0 w : World} {base : Nat} {ok : Nat → Prop} {p gh gp gy ch cp ck nh n : Nat} {pl0 ky hp pl : List Int}
theorem SQ.drewN (h : SQ w0 w base ok p gh gp gy ch cp ck nh n pl0 ky hp pl) (m : Nat) : SQ w0 (w.drewN m) base ok p gh gp gy ch cp ck nh n pl0 ky hp pl := ⟨h.1.drewN m, h.2.1, h.2.2.1, h.2.2.2.drewN m⟩
def SwapPost (w0 : World) (base : Nat) (ok : Nat → Prop) (p gh gp gy ch cp ck nh n : Nat) (pl0 ky hp pl : List Int) (i k : Int) (e : Ending) (w' : World) : Prop :=
  e = .returned (.tuple #[]) ∧ SQ w0 w' base ok p gh gp gy ch cp ck nh n pl0 ky (swh hp i k) (swp hp pl i k)
theorem pq_swap_s (h : SQ w0 w base ok p gh gp gy ch cp ck nh n pl0 ky hp pl) (i k : Int) (hi0 : 0 ≤ i) (hi1 : i < nh) (hk0 : 0 ≤ k) (hk1 : k < nh) :
    Calls Try.prog 41 #[.pointer (some ⟨p, 0, none⟩), .int .i64 i, .int .i64 k] w (SwapPost w0 base ok p gh gp gy ch cp ck nh n pl0 ky hp pl i k) := by
  obtain ⟨hq, hI, hs, ht⟩ := h
  have hn := hq.hl.1
  have a1 := hI.hb i hi0 (by omega)
  have a2 := hI.hb k hk0 (by omega)
  obtain ⟨s1, s2⟩ := swap_QI hI hi0 (by omega : i < hp.length) hk0 (by omega : k < hp.length)
  exact (pq_swap.calls hq i k hi0 hi1 hk0 hk1 a1.1 a1.2.1 a2.1 a2.2.1).mono fun e w' ⟨h1, h2, h3⟩ => ⟨h1, h2, s1, hs.trans s2, ht.trans h3⟩
end
def SettlePost (w0 : World) (base : Nat) (ok : Nat → Prop) (p gh gp gy ch cp ck nh n : Nat) (pl0 ky : List Int) (e : Ending) (w' : World) : Prop :=
  e = .returned (.tuple #[]) ∧ ∃ hp pl, SQ w0 w' base ok p gh gp gy ch cp ck nh n pl0 ky hp pl ∧ Heap hp ky
theorem mkfun (P : Program) : ∀ (fn : Fn) (first cap : Array Value) (w : World), (Instr.makeFunc fn first cap).run P w = .ok (.func fn first cap) w := fun _ _ _ _ => rfl

theorem ix0 (a b : Int) (w : World) : (Instr.index 79 (.agg #[.int .i64 a, .int .i64 b]) (.int .i64 0)).run Try.prog w = .ok (.int .i64 a) w := by kernel_rfl
theorem ix1 (a b : Int) (w : World) : (Instr.index 79 (.agg #[.int .i64 a, .int .i64 b]) (.int .i64 1)).run Try.prog w = .ok (.int .i64 b) w := by kernel_rfl
/-- The relation of the first loop. -/
def UpRel (w0 : World) (base : Nat) (ok : Nat → Prop) (p gh gp gy ch cp ck nh n : Nat) (pl0 ky : List Int) (g : Nat) (i : Int) (w : World) : Prop :=
  0 ≤ i ∧ i < nh ∧ i.toNat < g ∧ ∃ hp pl, SQ w0 w base ok p gh gp gy ch cp ck nh n pl0 ky hp pl ∧ Hole hp ky i
def DownRel (w0 : World) (base : Nat) (ok : Nat → Prop) (p gh gp gy ch cp ck nh n : Nat) (pl0 ky : List Int) (g : Nat) (i : Int) (w : World) : Prop :=
  0 ≤ i ∧ i < nh ∧ nh ≤ i.toNat + g ∧ ∃ hp pl, SQ w0 w base ok p gh gp gy ch cp ck nh n pl0 ky hp pl ∧ Hole hp ky i ∧ UpOk hp ky i

/-- The least of the first j children and of i itself. -/
def InRel (ky hp : List Int) (nh : Nat) (i : Int) (g : Nat) (j l : Int) : Prop :=
  0 ≤ j ∧ j ≤ 2 ∧ j + g = 2 ∧ 0 ≤ l ∧ l < nh ∧
  (l = i ∨ (l = 2 * i + 1 ∧ 1 ≤ j ∧ ltk ky (rd hp l) (rd hp i) = true) ∨ (l = 2 * i + 2 ∧ 2 ≤ j ∧ ltk ky (rd hp l) (rd hp i) = true)) ∧ ord ky (rd hp l) (rd hp i) ∧
  (1 ≤ j → 2 * i + 1 < nh → ord ky (rd hp l) (rd hp (2 * i + 1))) ∧ (2 ≤ j → 2 * i + 2 < nh → ord ky (rd hp l) (rd hp (2 * i + 2)))

set_option maxHeartbeats 16000000 in
set_option maxRecDepth 1000000 in
theorem pq_settle.calls {w : World} {base : Nat} {ok : Nat → Prop} {p gh gp gy ch cp ck nh n : Nat} {hp pl ky : List Int} (h : QC w base ok p gh gp gy ch cp ck nh n hp pl ky) (hI : QI n hp pl ky) (i : Int) (hi0 : 0 ≤ i) (hi1 : i < nh) (hh : Hole hp ky i) (hnh : (nh : Int) ≤ 1048576) :
    Calls Try.prog 38 #[.pointer (some ⟨p, 0, none⟩), .int .i64 i] w (SettlePost w base ok p gh gp gy ch cp ck nh n pl ky) := by
  have HS : SQ w w base ok p gh gp gy ch cp ck nh n pl ky hp pl := ⟨h, hI, Same.refl _ _, Tr.refl _ _ _⟩
  have hmf := mkfun Try.prog
  have hx0 := ix0
  have hx1 := ix1
  have HU : UpRel w base ok p gh gp gy ch cp ck nh n pl ky (i.toNat + 1) i w := ⟨hi0, hi1, by omega, hp, pl, HS, hh⟩
  clear h hI hh HS
  go_enter Try.func38, Try.ntmps38
  go_upto_block 0 with (fail)
  go_cut [1] (fun vi wr => ∃ i' : Int, vi = .int .i64 i' ∧ DownRel w base ok p gh gp gy ch cp ck nh n pl ky nh i' wr)
  case first =>
    go_wp2
    go_loopg [1] (i.toNat + 1) (fun g vi wr => ∃ i' : Int, vi = .int .i64 i' ∧ UpRel w base ok p gh gp gy ch cp ck nh n pl ky g i' wr)
    case atStart => exact ⟨i, rfl, HU⟩
    case round =>
      clear HU hi0 hi1
      obtain ⟨i', rfl, h0, h1, hg, hp', pl', HS, HO⟩ := hrel
      have HS := Aside0.mk HS
      have HO := Aside0.mk HO
      have hlen := Aside0.mk HS.out.1.hl.1
      by_cases c1 : 0 < i'
      · have q0 : 0 ≤ (i' - 1) / 2 := by omega
        have q1 : (i' - 1) / 2 < nh := by omega
        cases hb : ltk ky (rd hp' i') (rd hp' ((i' - 1) / 2)) with
        | true =>
          have HB := Aside0.mk hb
          clear hb
          go_wp2_with (first | (go_at_call 40; refine (pq_less_b HS.out.1 HS.out.2.1 _ _ true h0 h1 q0 q1 HB.out).mono ?_; rintro e w2 ⟨rfl, m, rfl⟩) | (go_at_call 41; refine (pq_swap_s (HS.out.drewN _) _ _ h0 h1 q0 q1).mono ?_; rintro e w3 ⟨rfl, hs3⟩; have HS3 := Aside0.mk hs3; clear hs3))
          go_roundg i'.toNat
          case measure => omega
          case rel => exact ⟨_, rfl, q0, q1, by omega, _, _, HS3.out, up_step HO.out c1 (by have := hlen.out; omega) HB.out⟩
        | false =>
          have HB := Aside0.mk hb
          clear hb
          go_wp2_with (first | (go_at_call 40; refine (pq_less_b HS.out.1 HS.out.2.1 _ _ false h0 h1 q0 q1 HB.out).mono ?_; rintro e w2 ⟨rfl, m, rfl⟩))
          go_meet
          case rel => exact ⟨_, rfl, h0, h1, by omega, _, _, HS.out.drewN _, HO.out, fun _ => ord_of_not HB.out⟩
      · have c1b : decide (0 < i') = false := decide_eq_false c1
        go_wp2
        go_meet
        case rel => exact ⟨_, rfl, h0, h1, by omega, _, _, HS.out, HO.out, fun h => absurd h (by omega)⟩
  case rest =>
    clear HU hi0 hi1
    obtain ⟨i1, rfl, hcut⟩ := hcut
    go_wp2
    go_loopg [1] nh (fun g vi wr => ∃ i' : Int, vi = .int .i64 i' ∧ DownRel w base ok p gh gp gy ch cp ck nh n pl ky g i' wr)
    case atStart => exact ⟨i1, rfl, hcut⟩
    case round =>
      clear hcut
      obtain ⟨gk0, hgk0⟩ : ∃ x, x = gk := ⟨_, rfl⟩
      obtain ⟨i', rfl, h0, h1, hg, hp', pl', HS, HO, HUp⟩ := hrel
      have HS := Aside0.mk HS
      have HO := Aside0.mk HO
      have HUp := Aside0.mk HUp
      have hlen := Aside0.mk HS.out.1.hl.1
      go_wp2
      go_loopg [37, 5] 2 (fun g vc vl wr2 => ∃ j l : Int, vc = .int .i64 j ∧ vl = .int .i64 l ∧ InRel ky hp' nh i' g j l ∧ SQ w wr2 base ok p gh gp gy ch cp ck nh n pl ky hp' pl')
      case atStart => exact ⟨0, i', rfl, rfl, ⟨by omega, by omega, by omega, h0, h1, .inl rfl, ord_refl _ _, fun h => absurd h (by decide), fun h => absurd h (by decide)⟩, HS.out⟩
      case round =>
        clear HS
        obtain ⟨j, l, rfl, rfl, ⟨hj0, hj1, hj2, l0, l1, hl, hli, hla, hlb⟩, HS2⟩ := hrel
        have HS := Aside0.mk HS2
        clear HS2
        have HL := Aside0.mk hl
        have HLI := Aside0.mk hli
        have HLA := Aside0.mk hla
        have HLB := Aside0.mk hlb
        clear hl hli hla hlb
        have hj : j = 0 ∨ j = 1 ∨ j = 2 := by omega
        rcases hj with rfl | rfl | rfl
        · have k0 : (0 : Int) ≤ 2 * i' + 1 := by omega
          have hh0 := HS.out.1.c0
          by_cases c2 : 2 * i' + 1 < (nh : Int)
          · cases hb : ltk ky (rd hp' (2 * i' + 1)) (rd hp' l) with
            | true =>
              have HB := Aside0.mk hb
              clear hb
              go_wp2_with (first | (go_at_call 40; refine (pq_less_b HS.out.1 HS.out.2.1 _ _ true k0 c2 l0 l1 HB.out).mono ?_; rintro e w2 ⟨rfl, m, rfl⟩))
              go_roundg 1
              case measure => omega
              case rel => exact ⟨1, 2 * i' + 1, rfl, rfl, ⟨by omega, by omega, by omega, k0, c2, .inr (.inl ⟨rfl, by omega, ltk_ord HB.out HLI.out⟩), ord_of_lt (ltk_ord HB.out HLI.out), fun _ _ => ord_refl _ _, fun h => absurd h (by decide)⟩, HS.out.drewN _⟩
            | false =>
              have HB := Aside0.mk hb
              clear hb
              go_wp2_with (first | (go_at_call 40; refine (pq_less_b HS.out.1 HS.out.2.1 _ _ false k0 c2 l0 l1 HB.out).mono ?_; rintro e w2 ⟨rfl, m, rfl⟩))
              go_roundg 1
              case measure => omega
              case rel => exact ⟨1, l, rfl, rfl, ⟨by omega, by omega, by omega, l0, l1, HL.out.imp_right (Or.imp (fun h => ⟨h.1, by omega, h.2.2⟩) (fun h => ⟨h.1, by omega, h.2.2⟩)), HLI.out, fun _ _ => ord_of_not HB.out, fun h => absurd h (by decide)⟩, HS.out.drewN _⟩
          · have c2b : decide (2 * i' + 1 < (nh : Int)) = false := decide_eq_false c2
            go_wp2
            go_roundg 1
            case measure => omega
            case rel => exact ⟨1, l, rfl, rfl, ⟨by omega, by omega, by omega, l0, l1, HL.out.imp_right (Or.imp (fun h => ⟨h.1, by omega, h.2.2⟩) (fun h => ⟨h.1, by omega, h.2.2⟩)), HLI.out, fun _ h => absurd h (by omega), fun h => absurd h (by decide)⟩, HS.out⟩
        · have k0 : (0 : Int) ≤ 2 * i' + 2 := by omega
          have hh0 := HS.out.1.c0
          by_cases c2 : 2 * i' + 2 < (nh : Int)
          · cases hb : ltk ky (rd hp' (2 * i' + 2)) (rd hp' l) with
            | true =>
              have HB := Aside0.mk hb
              clear hb
              go_wp2_with (first | (go_at_call 40; refine (pq_less_b HS.out.1 HS.out.2.1 _ _ true k0 c2 l0 l1 HB.out).mono ?_; rintro e w2 ⟨rfl, m, rfl⟩))
              go_roundg 0
              case measure => omega
              case rel => exact ⟨2, 2 * i' + 2, rfl, rfl, ⟨by omega, by omega, by omega, k0, c2, .inr (.inr ⟨rfl, by omega, ltk_ord HB.out HLI.out⟩), ord_of_lt (ltk_ord HB.out HLI.out), fun _ h => ord_trans (ord_of_lt HB.out) (HLA.out (by omega) h), fun _ _ => ord_refl _ _⟩, HS.out.drewN _⟩
            | false =>
              have HB := Aside0.mk hb
              clear hb
              go_wp2_with (first | (go_at_call 40; refine (pq_less_b HS.out.1 HS.out.2.1 _ _ false k0 c2 l0 l1 HB.out).mono ?_; rintro e w2 ⟨rfl, m, rfl⟩))
              go_roundg 0
              case measure => omega
              case rel => exact ⟨2, l, rfl, rfl, ⟨by omega, by omega, by omega, l0, l1, HL.out.imp_right (Or.imp (fun h => ⟨h.1, by omega, h.2.2⟩) (fun h => ⟨h.1, by omega, h.2.2⟩)), HLI.out, fun _ h => HLA.out (by omega) h, fun _ _ => ord_of_not HB.out⟩, HS.out.drewN _⟩
          · have c2b : decide (2 * i' + 2 < (nh : Int)) = false := decide_eq_false c2
            go_wp2
            go_roundg 0
            case measure => omega
            case rel => exact ⟨2, l, rfl, rfl, ⟨by omega, by omega, by omega, l0, l1, HL.out.imp_right (Or.imp (fun h => ⟨h.1, by omega, h.2.2⟩) (fun h => ⟨h.1, by omega, h.2.2⟩)), HLI.out, fun _ h => HLA.out (by omega) h, fun _ h => absurd h (by omega)⟩, HS.out⟩
        · by_cases c3 : l = i'
          · subst c3
            go_wp2
            go_end0
            exact ⟨rfl, _, _, HS.out, down_stop HO.out HUp.out h0 (fun h => HLA.out (by omega) (by have := hlen.out; omega)) (fun h => HLB.out (by omega) (by have := hlen.out; omega))⟩
          · have c3b : (l == i') = false := beq_eq_false_iff_ne.2 c3
            have hd : (l = 2 * i' + 1 ∨ l = 2 * i' + 2) ∧ ltk ky (rd hp' l) (rd hp' i') = true := by
              rcases HL.out with e | e | e
              · exact absurd e c3
              · exact ⟨.inl e.1, e.2.2⟩
              · exact ⟨.inr e.1, e.2.2⟩
            have HD := Aside0.mk hd
            have hlt : nh - l.toNat < gk0 := by have := hd.1; omega
            clear c3 hd
            go_wp2_with (first | (go_at_call 41; refine (pq_swap_s HS.out _ _ h0 h1 l0 l1).mono ?_; rintro e w3 ⟨rfl, hs3⟩; have HS3 := Aside0.mk hs3; clear hs3))
            go_roundg (nh - l.toNat)
            case measure => omega
            case rel =>
              have hlen' := hlen.out
              obtain ⟨d1, d2⟩ := down_step HO.out HUp.out h0 (by omega : l < hp'.length) HD.out.1 HD.out.2 (fun d e0 e1 e2 => by
                have : d = 2 * i' + 1 ∨ d = 2 * i' + 2 := by omega
                rcases this with e | e
                · rw [e]
                  exact HLA.out (by omega) (by omega)
                · rw [e]
                  exact HLB.out (by omega) (by omega))
              exact ⟨l, rfl, l0, l1, by omega, _, _, HS3.out, d1, d2⟩
end Go.Proofs.Ytofhgmdehglhgaa.PAll
namespace Go.Proofs.Ytofhgmdehglhgaa.PAll
open Go.RowKit Go.Proofs.YtofhgmdehglhgaaW.PrintWords
set_option linter.unusedVariables false
set_option linter.unusedSimpArgs false

def gm (m : List (Option Int)) (x : Int) : Option Int := m.getD x.toNat none
def cnt : List (Option Int) → Nat
  | [] => 0
  | none :: r => cnt r
  | some _ :: r => cnt r + 1
theorem cnt_le : ∀ m : List (Option Int), cnt m ≤ m.length
  | [] => Nat.le_refl _
  | none :: r => by have := cnt_le r; simp only [cnt, List.length_cons]; omega
  | some _ :: r => by have := cnt_le r; simp only [cnt, List.length_cons]; omega
theorem cnt_new : ∀ (m : List (Option Int)) (i : Nat) (v : Int), i < m.length → m.getD i none = none → cnt (m.set i (some v)) = cnt m + 1
  | [], i, v, h, _ => by simp at h
  | x :: r, 0, v, h, h2 => by
    have : x = none := by simpa using h2
    subst this
    rfl
  | x :: r, i + 1, v, h, h2 => by
    have := cnt_new r i v (by simpa using h) (by simpa using h2)
    cases x <;> simp only [List.set_cons_succ, cnt, this]
theorem cnt_old : ∀ (m : List (Option Int)) (i : Nat) (u v : Int), m.getD i none = some u → cnt (m.set i (some v)) = cnt m
  | [], i, u, v, h => by simp at h
  | x :: r, 0, u, v, h2 => by
    have : x = some u := by simpa using h2
    subst this
    rfl
  | x :: r, i + 1, u, v, h2 => by
    have := cnt_old r i u v (by simpa using h2)
    cases x <;> simp only [List.set_cons_succ, cnt, this]
theorem cnt_drop : ∀ (m : List (Option Int)) (i : Nat) (u : Int), m.getD i none = some u → cnt (m.set i none) + 1 = cnt m
  | [], i, u, h => by simp at h
  | x :: r, 0, u, h2 => by
    have : x = some u := by simpa using h2
    subst this
    rfl
  | x :: r, i + 1, u, h2 => by
    have := cnt_drop r i u (by simpa using h2)
    cases x <;> simp only [List.set_cons_succ, cnt] <;> omega
theorem gm_set {m : List (Option Int)} {x y : Int} {v : Option Int} (h0 : 0 ≤ x) (h1 : x < m.length) (hy : 0 ≤ y) : gm (m.set x.toNat v) y = if y = x then v else gm m y := by
  unfold gm
  rw [List.getD_eq_getElem?_getD, List.getD_eq_getElem?_getD, List.getElem?_set]
  by_cases e : y = x
  · subst e
    rw [if_pos rfl, if_pos rfl, if_pos (by omega)]
    rfl
  · rw [if_neg (by omega), if_neg e]

structure QAbs (m : List (Option Int)) (hp pl ky : List Int) : Prop where
  I : QI m.length hp pl ky
  heap : Heap hp ky
  ab : ∀ x : Int, 0 ≤ x → x < m.length → gm m x = if rd pl x < 0 then none else some (rd ky x)
  len : hp.length = cnt m

/-- What settle is handed, and what it gives back. -/
structure QPre (m : List (Option Int)) (hp pl ky : List Int) : Prop where
  I : QI m.length hp pl ky
  ab : ∀ x : Int, 0 ≤ x → x < m.length → gm m x = if rd pl x < 0 then none else some (rd ky x)
  len : hp.length = cnt m
theorem QPre.fin {m : List (Option Int)} {hp pl ky hp2 pl2 : List Int} (h : QPre m hp pl ky) (hl : hp2.length = hp.length) (hI : QI m.length hp2 pl2 ky) (hs : Same m.length pl pl2) (hh : Heap hp2 ky) : QAbs m hp2 pl2 ky :=
  ⟨hI, hh, fun x h0 h1 => by
    rw [h.ab x h0 h1]
    have := hs x h0 h1
    by_cases c : rd pl x < 0
    · rw [if_pos c, if_pos (this.2 c)]
    · rw [if_neg c, if_neg (fun c2 => c (this.1 c2))], hl.trans h.len⟩

section
variable {m : List (Option Int)} {hp pl ky : List Int}
theorem inj_hp {n : Nat} (h : QI n hp pl ky) {a b : Int} (a0 : 0 ≤ a) (a1 : a < hp.length) (b0 : 0 ≤ b) (b1 : b < hp.length) (e : rd hp a = rd hp b) : a = b := by
  have h1 := (h.hb a a0 a1).2.2
  have h2 := (h.hb b b0 b1).2.2
  rw [e] at h1
  exact h1.symm.trans h2
theorem ord_key {ky : List Int} {x v a b : Int} (h0 : 0 ≤ x) (h1 : x < ky.length) (ha : 0 ≤ a) (hb : 0 ≤ b) (na : a ≠ x) (nb : b ≠ x) (h : ord ky a b) : ord (ky.set x.toNat v) a b := by
  unfold ord
  rw [rd_set' _ _ _ _ h0 h1 ha, rd_set' _ _ _ _ h0 h1 hb, if_neg na, if_neg nb]
  exact h

/-- An item of the queue gets another key. -/
theorem set_old (h : QAbs m hp pl ky) {x v : Int} (h0 : 0 ≤ x) (h1 : x < m.length) (hin : 0 ≤ rd pl x) :
    QPre (m.set x.toNat (some v)) hp pl (ky.set x.toNat v) ∧ Hole hp (ky.set x.toNat v) (rd pl x) ∧ 0 ≤ rd pl x ∧ rd pl x < hp.length := by
  have hlk := h.I.lk
  have hk1 : x < ky.length := by rw [hlk]; exact h1
  obtain ⟨i0, i1, ix⟩ : 0 ≤ rd pl x ∧ rd pl x < hp.length ∧ rd hp (rd pl x) = x := (h.I.pb x h0 h1).resolve_left (by omega)
  have hx := h.ab x h0 h1
  rw [if_neg (by omega)] at hx
  have ne : ∀ j : Int, 0 ≤ j → j < hp.length → j ≠ rd pl x → rd hp j ≠ x := fun j j0 j1 hj e => hj (inj_hp h.I j0 j1 i0 i1 (e.trans ix.symm))
  have nn : ∀ j : Int, 0 ≤ j → j < hp.length → 0 ≤ rd hp j := fun j j0 j1 => (h.I.hb j j0 j1).1
  have hole := hole_of_heap h.heap (rd pl x) i1
  refine ⟨⟨⟨by rw [List.length_set]; exact h.I.lp, by rw [List.length_set, List.length_set]; exact hlk, fun j j0 j1 => by rw [List.length_set]; exact h.I.hb j j0 j1, fun y y0 y1 => h.I.pb y y0 (by rw [List.length_set] at y1; exact y1)⟩, fun y y0 y1 => ?_, ?_⟩, ⟨fun k k0 k1 k2 k3 => ?_, fun c c0 c1 c2 c3 => ?_⟩, i0, i1⟩
  · rw [List.length_set] at y1
    rw [gm_set h0 h1 y0, rd_set' _ _ _ _ h0 hk1 y0]
    by_cases c : y = x
    · subst c
      rw [if_pos rfl, if_pos rfl, if_neg (by omega)]
    · rw [if_neg c, if_neg c]
      exact h.ab y y0 y1
  · rw [cnt_old _ _ _ _ (show m.getD x.toNat none = _ from hx)]
    exact h.len
  · exact ord_key h0 hk1 (nn _ (by omega) (by omega)) (nn _ (by omega) k1) (ne _ (by omega) (by omega) k3) (ne _ (by omega) k1 k2) (hole.1 k k0 k1 k2 k3)
  · exact ord_key h0 hk1 (nn _ (by omega) (by omega)) (nn _ (by omega) c1) (ne _ (by omega) (by omega) (by omega)) (ne _ (by omega) c1 (by omega)) (hole.2 c c0 c1 c2 c3)

theorem rd_app (xs : List Int) (x j : Int) (hj : 0 ≤ j) : rd (xs ++ [x]) j = if j < xs.length then rd xs j else if j = xs.length then x else 0 := by
  unfold rd
  rw [List.getD_eq_getElem?_getD, List.getD_eq_getElem?_getD]
  by_cases c : j < xs.length
  · rw [if_pos c, List.getElem?_append_left (by omega)]
  · rw [if_neg c, List.getElem?_append_right (by omega)]
    by_cases e : j = xs.length
    · rw [if_pos e, show j.toNat - xs.length = 0 by omega]
      rfl
    · rw [if_neg e, List.getElem?_eq_none (by simp; omega)]
      rfl
/-- An item that is not in the queue is put behind it. -/
theorem set_new (h : QAbs m hp pl ky) {x v : Int} (h0 : 0 ≤ x) (h1 : x < m.length) (hin : rd pl x < 0) :
    QPre (m.set x.toNat (some v)) (hp ++ [x]) (pl.set x.toNat hp.length) (ky.set x.toNat v) ∧ Hole (hp ++ [x]) (ky.set x.toNat v) hp.length ∧ rd (pl.set x.toNat hp.length) x = hp.length := by
  have hlk := h.I.lk
  have hlp := h.I.lp
  have hk1 : x < ky.length := by rw [hlk]; exact h1
  have hp1 : x < pl.length := by rw [hlp]; exact h1
  have hx := h.ab x h0 h1
  rw [if_pos hin] at hx
  have ne : ∀ j : Int, 0 ≤ j → j < hp.length → rd hp j ≠ x := fun j j0 j1 e => by
    have := (h.I.hb j j0 j1).2.2
    rw [e] at this
    omega
  have nn : ∀ j : Int, 0 ≤ j → j < hp.length → 0 ≤ rd hp j := fun j j0 j1 => (h.I.hb j j0 j1).1
  have la : ((hp ++ [x]).length : Int) = hp.length + 1 := by simp
  refine ⟨⟨⟨by rw [List.length_set, List.length_set]; exact hlp, by rw [List.length_set, List.length_set]; exact hlk, fun j j0 j1 => ?_, fun y y0 y1 => ?_⟩, fun y y0 y1 => ?_, ?_⟩, ⟨fun k k0 k1 k2 k3 => ?_, fun c c0 c1 c2 c3 => ?_⟩, ?_⟩
  · rw [la] at j1
    rw [rd_app _ _ _ j0, List.length_set]
    by_cases c : j < hp.length
    · rw [if_pos c, rd_set' _ _ _ _ h0 hp1 (nn j j0 c), if_neg (ne j j0 c)]
      exact h.I.hb j j0 c
    · rw [if_neg c, if_pos (by omega), rd_set' _ _ _ _ h0 hp1 h0, if_pos rfl]
      exact ⟨h0, h1, by omega⟩
  · rw [List.length_set] at y1
    rw [la, rd_set' _ _ _ _ h0 hp1 y0]
    by_cases c : y = x
    · rw [if_pos c, rd_app _ _ _ (by omega), if_neg (by omega), if_pos rfl]
      exact .inr ⟨by omega, by omega, c.symm⟩
    · rw [if_neg c]
      rcases h.I.pb y y0 y1 with g | ⟨g0, g1, g2⟩
      · exact .inl g
      · exact .inr ⟨g0, by omega, by rw [rd_app _ _ _ g0, if_pos g1]; exact g2⟩
  · rw [List.length_set] at y1
    rw [gm_set h0 h1 y0, rd_set' _ _ _ _ h0 hk1 y0, rd_set' _ _ _ _ h0 hp1 y0]
    by_cases c : y = x
    · rw [if_pos c, if_pos c, if_pos c, if_neg (by omega)]
    · rw [if_neg c, if_neg c, if_neg c]
      exact h.ab y y0 y1
  · rw [cnt_new _ _ _ (by omega) (show m.getD x.toNat none = _ from hx), List.length_append, h.len]
    rfl
  · rw [la] at k1
    rw [rd_app _ _ _ (by omega), rd_app _ _ _ (by omega), if_pos (by omega), if_pos (by omega)]
    exact ord_key h0 hk1 (nn _ (by omega) (by omega)) (nn _ (by omega) (by omega)) (ne _ (by omega) (by omega)) (ne _ (by omega) (by omega)) (h.heap k k0 (by omega))
  · rw [la] at c1
    omega
  · rw [rd_set' _ _ _ _ h0 hp1 h0, if_pos rfl]

theorem rd_take (xs : List Int) (n : Nat) (j : Int) (h1 : j < n) (h0 : 0 ≤ j) : rd (xs.take n) j = rd xs j := by
  unfold rd
  rw [List.getD_eq_getElem?_getD, List.getD_eq_getElem?_getD, List.getElem?_take_of_lt (by omega)]
/-- An item is dropped. -/
theorem drop_item (h : QAbs m hp pl ky) {x : Int} (h0 : 0 ≤ x) (h1 : x < m.length) (hin : 0 ≤ rd pl x) :
    QPre (m.set x.toNat none) ((swh hp (rd pl x) (hp.length - 1)).take (hp.length - 1)) ((swp hp pl (rd pl x) (hp.length - 1)).set x.toNat (-1)) ky ∧
    (rd pl x = hp.length - 1 → Heap ((swh hp (rd pl x) (hp.length - 1)).take (hp.length - 1)) ky) ∧ (rd pl x < hp.length - 1 → Hole ((swh hp (rd pl x) (hp.length - 1)).take (hp.length - 1)) ky (rd pl x)) ∧ 0 ≤ rd pl x ∧ rd pl x < hp.length ∧ 0 < hp.length := by
  have hlk := h.I.lk
  have hlp := h.I.lp
  obtain ⟨i0, i1, ix⟩ : 0 ≤ rd pl x ∧ rd pl x < hp.length ∧ rd hp (rd pl x) = x := (h.I.pb x h0 h1).resolve_left (by omega)
  have hx := h.ab x h0 h1
  rw [if_neg (by omega)] at hx
  generalize hi : rd pl x = i at *
  have hl0 : 0 < hp.length := by omega
  obtain ⟨L, hL⟩ : ∃ L : Nat, hp.length = L + 1 := ⟨hp.length - 1, by omega⟩
  have eL : (hp.length : Int) - 1 = L := by omega
  have eL2 : hp.length - 1 = L := by omega
  rw [eL, eL2]
  obtain ⟨sI, sS⟩ := swap_QI h.I i0 i1 (show (0 : Int) ≤ L by omega) (show (L : Int) < hp.length by omega)
  have sw : ∀ j, 0 ≤ j → rd (swh hp i L) j = if j = L then rd hp i else if j = i then rd hp L else rd hp j := fun j hj => swh_rd i0 i1 (by omega) (by omega) hj
  have swl : (swh hp i L).length = hp.length := swh_len _ _ _
  have spl : (swp hp pl i L).length = pl.length := swp_len _ _ _ _
  have hpx : x < (swp hp pl i L).length := by rw [spl, hlp]; exact h1
  have tl : ((swh hp i L).take L).length = L := by rw [List.length_take, swl]; omega
  have rt : ∀ j : Int, 0 ≤ j → j < L → rd ((swh hp i L).take L) j = if j = i then rd hp L else rd hp j := fun j j0 j1 => by
    rw [rd_take _ _ _ (by omega) j0, sw j j0, if_neg (by omega)]
  have ne : ∀ j : Int, 0 ≤ j → j < L → rd (swh hp i L) j ≠ x := fun j j0 j1 e => by
    have e2 : rd (swh hp i L) L = x := by rw [sw _ (by omega), if_pos rfl]; exact ix
    have := inj_hp sI (a := j) (b := L) j0 (by rw [swl]; omega) (by omega) (by rw [swl]; omega) (e.trans e2.symm)
    omega
  refine ⟨⟨⟨by rw [List.length_set, List.length_set, spl]; exact hlp, by rw [List.length_set]; exact hlk, fun j j0 j1 => ?_, fun y y0 y1 => ?_⟩, fun y y0 y1 => ?_, ?_⟩, fun e k k0 k1 => ?_, fun e => ⟨fun k k0 k1 k2 k3 => ?_, fun c c0 c1 c2 c3 => ?_⟩, i0, i1, hl0⟩
  · rw [tl] at j1
    have hj := sI.hb j j0 (by rw [swl]; omega)
    rw [rd_take _ _ _ j1 j0, List.length_set, rd_set' _ _ _ _ h0 hpx hj.1, if_neg (ne j j0 j1)]
    exact hj
  · rw [List.length_set] at y1
    rw [tl, rd_set' _ _ _ _ h0 hpx y0]
    by_cases c : y = x
    · rw [if_pos c]
      exact .inl rfl
    · rw [if_neg c]
      rcases sI.pb y y0 y1 with g | ⟨g0, g1, g2⟩
      · exact .inl g
      · rw [swl] at g1
        have : rd (swp hp pl i L) y ≠ L := fun e => c (by
          rw [← g2, e, sw _ (by omega), if_pos rfl]
          exact ix)
        exact .inr ⟨g0, by omega, by rw [rd_take _ _ _ (by omega) g0]; exact g2⟩
  · rw [List.length_set] at y1
    rw [gm_set h0 h1 y0, rd_set' _ _ _ _ h0 hpx y0]
    by_cases c : y = x
    · rw [if_pos c, if_pos c, if_pos (by omega)]
    · rw [if_neg c, if_neg c, h.ab y y0 y1]
      have := sS y y0 y1
      by_cases c2 : rd pl y < 0
      · rw [if_pos c2, if_pos (this.2 c2)]
      · rw [if_neg c2, if_neg (fun c3 => c2 (this.1 c3))]
  · have := cnt_drop _ _ _ (show m.getD x.toNat none = _ from hx)
    rw [tl]
    have := h.len
    omega
  · rw [tl] at k1
    rw [rt _ (by omega) (by omega), rt _ (by omega) k1, if_neg (by omega), if_neg (by omega)]
    exact h.heap k k0 (by omega)
  · rw [tl] at k1
    rw [rt _ (by omega) (by omega), rt _ (by omega) k1, if_neg k3, if_neg k2]
    exact h.heap k k0 (by omega)
  · rw [tl] at c1
    rw [rt _ (by omega) (by omega), rt _ (by omega) c1, if_neg (by omega), if_neg (by omega)]
    exact (hole_of_heap h.heap i i1).2 c c0 (by omega) c2 c3
end

/-- The first item with the least key, from item i on: b is the best so far. -/
def bestFrom : List (Option Int) → Int → Int → Int → Int × Int
  | [], _, b, bk => (b, bk)
  | none :: r, i, b, bk => bestFrom r (i + 1) b bk
  | some k :: r, i, b, bk => if b < 0 ∨ k < bk then bestFrom r (i + 1) i k else bestFrom r (i + 1) b bk
theorem best_spec : ∀ (r : List (Option Int)) (i b bk b2 bk2 : Int), 0 ≤ i → b < i → bestFrom r i b bk = (b2, bk2) →
    (b2 < 0 → b < 0 ∧ ∀ j : Nat, r.getD j none = none) ∧
    (0 ≤ b2 → ((b2 = b ∧ bk2 = bk) ∨ (i ≤ b2 ∧ r.getD (b2 - i).toNat none = some bk2)) ∧ (0 ≤ b → bk2 < bk ∨ (bk2 = bk ∧ b2 = b)) ∧ ∀ (j : Nat) (k : Int), r.getD j none = some k → bk2 < k ∨ (bk2 = k ∧ b2 ≤ i + j))
  | [], i, b, bk, b2, bk2, h0, hb, h => by
    simp only [bestFrom, Prod.mk.injEq] at h
    obtain ⟨rfl, rfl⟩ := h
    exact ⟨fun c => ⟨c, fun j => by simp⟩, fun c => ⟨.inl ⟨rfl, rfl⟩, fun _ => .inr ⟨rfl, rfl⟩, fun j k hk => by simp at hk⟩⟩
  | none :: r, i, b, bk, b2, bk2, h0, hb, h => by
    rw [bestFrom] at h
    obtain ⟨g1, g2⟩ := best_spec r (i + 1) b bk b2 bk2 (by omega) (by omega) h
    refine ⟨fun c => ⟨(g1 c).1, fun j => ?_⟩, fun c => ?_⟩
    · cases j with
      | zero => rfl
      | succ j => simpa using (g1 c).2 j
    · obtain ⟨a1, a2, a3⟩ := g2 c
      refine ⟨a1.imp_right (fun ⟨e1, e2⟩ => ⟨by omega, by rw [show (b2 - i).toNat = (b2 - (i + 1)).toNat + 1 by omega]; simpa using e2⟩), a2, fun j k hk => ?_⟩
      · cases j with
        | zero => simp at hk
        | succ j =>
          have := a3 j k (by simpa using hk)
          push_cast
          omega
  | some k0 :: r, i, b, bk, b2, bk2, h0, hb, h => by
    rw [bestFrom] at h
    by_cases c : b < 0 ∨ k0 < bk
    · rw [if_pos c] at h
      obtain ⟨g1, g2⟩ := best_spec r (i + 1) i k0 b2 bk2 (by omega) (by omega) h
      refine ⟨fun c2 => absurd (g1 c2).1 (by omega), fun c2 => ?_⟩
      obtain ⟨a1, a2, a3⟩ := g2 c2
      have a2 := a2 h0
      refine ⟨.inr ?_, fun hb0 => ?_, fun j k hk => ?_⟩
      · rcases a1 with ⟨e1, e2⟩ | ⟨e1, e2⟩
        · rw [e1, e2, show (i - i).toNat = 0 by omega]
          exact ⟨Int.le_refl _, rfl⟩
        · refine ⟨by omega, ?_⟩
          rw [show (b2 - i).toNat = (b2 - (i + 1)).toNat + 1 by omega]
          simpa using e2
      · have : k0 < bk := c.resolve_left (by omega)
        omega
      · cases j with
        | zero =>
          have : k0 = k := by simpa using hk
          push_cast
          omega
        | succ j =>
          have := a3 j k (by simpa using hk)
          push_cast
          omega
    · rw [if_neg c] at h
      obtain ⟨g1, g2⟩ := best_spec r (i + 1) b bk b2 bk2 (by omega) (by omega) h
      refine ⟨fun c2 => absurd (g1 c2).1 (by omega), fun c2 => ?_⟩
      obtain ⟨a1, a2, a3⟩ := g2 c2
      have a2 := a2 (by omega)
      refine ⟨a1.imp_right (fun ⟨e1, e2⟩ => ⟨by omega, by rw [show (b2 - i).toNat = (b2 - (i + 1)).toNat + 1 by omega]; simpa using e2⟩), fun _ => a2, fun j k hk => ?_⟩
      · cases j with
        | zero =>
          have : k0 = k := by simpa using hk
          push_cast
          omega
        | succ j =>
          have := a3 j k (by simpa using hk)
          push_cast
          omega

/-- The first of the heap is the first item with the least key. -/
theorem best_heap {m : List (Option Int)} {hp pl ky : List Int} (h : QAbs m hp pl ky) (hl : 0 < hp.length) : bestFrom m 0 (-1) 0 = (rd hp 0, rd ky (rd hp 0)) ∧ 0 ≤ rd hp 0 ∧ rd hp 0 < m.length ∧ 0 ≤ rd pl (rd hp 0) := by
  obtain ⟨x0, x1, x2⟩ := h.I.hb 0 (by omega) (by omega)
  have hx := h.ab _ x0 x1
  rw [if_neg (by omega)] at hx
  cases hb : bestFrom m 0 (-1) 0 with
  | mk b bk =>
    obtain ⟨g1, g2⟩ := best_spec m 0 (-1) 0 b bk (by omega) (by omega) hb
    have hb0 : 0 ≤ b := by
      by_cases c : b < 0
      · have := (g1 c).2 (rd hp 0).toNat
        rw [show m.getD (rd hp 0).toNat none = _ from hx] at this
        cases this
      · omega
    obtain ⟨a1, _, a3⟩ := g2 hb0
    have a1 : m.getD b.toNat none = some bk := by
      rcases a1 with ⟨e, _⟩ | ⟨_, e⟩
      · omega
      · rw [show (b - 0).toNat = b.toNat by omega] at e
        exact e
    have hbl : b < m.length := by
      by_cases c : b < m.length
      · exact c
      · rw [List.getD_eq_getElem?_getD, List.getElem?_eq_none (by omega)] at a1
        cases a1
    have hab := h.ab b hb0 hbl
    rw [show gm m b = some bk from a1] at hab
    have hpb : ¬ rd pl b < 0 := fun c => by rw [if_pos c] at hab; cases hab
    rw [if_neg hpb] at hab
    have ek : bk = rd ky b := Option.some.inj hab
    obtain ⟨p0, p1, p2⟩ := (h.I.pb b hb0 hbl).resolve_left (by omega)
    have ho := heap_first h.heap _ (rd pl b) p0 p1 (Nat.le_refl _)
    rw [p2] at ho
    have := a3 (rd hp 0).toNat (rd ky (rd hp 0)) hx
    unfold ord at ho
    have hbe : b = rd hp 0 := by omega
    exact ⟨by rw [ek, hbe], x0, x1, by omega⟩
theorem best_none {m : List (Option Int)} (h : cnt m = 0) : bestFrom m 0 (-1) 0 = (-1, 0) := by
  have : ∀ (r : List (Option Int)) (i : Int), cnt r = 0 → bestFrom r i (-1) 0 = (-1, 0) := by
    intro r
    induction r with
    | nil => intro i _; rfl
    | cons x r ih =>
      intro i hc
      cases x with
      | none => rw [bestFrom]; exact ih _ hc
      | some k => simp [cnt] at hc
  exact this m 0 h
end Go.Proofs.Ytofhgmdehglhgaa.PAll
namespace Go.Proofs.Ytofhgmdehglhgaa.PAll
open Go.RowKit Go.Proofs.YtofhgmdehglhgaaW.PrintWords Go.Proofs.YtofhgmdehglhgaaW.PrintLast Go.Proofs.YtofhgmdehglhgaaW.PrintMore
set_option linter.unusedVariables false
set_option linter.unusedSimpArgs false
attribute [local irreducible] Calls

def pq_New.f (a0 : Int) : Option (List (Option Int)) := if 0 ≤ a0 ∧ a0 ≤ 1048576 then some (List.replicate a0.toNat none) else none
def pq_Queue_Len.f (l0 : List (Option Int)) : Option Int := some (cnt l0 : Int)
def pq_Queue_Set.f (l0 : List (Option Int)) (a1 a2 : Int) : Option (Bool × List (Option Int)) := some (if 0 ≤ a1 ∧ a1 < (l0.length : Int) then (true, l0.set a1.toNat (some a2)) else (false, l0))
def pq_Queue_Drop.f (l0 : List (Option Int)) (a1 : Int) : Option (Bool × List (Option Int)) := some (if 0 ≤ a1 ∧ a1 < (l0.length : Int) then (match gm l0 a1 with | some _ => (true, l0.set a1.toNat none) | none => (false, l0)) else (false, l0))
def pq_Queue_Pop.f (l0 : List (Option Int)) : Option (Int × Int × Bool × List (Option Int)) := some (if (bestFrom l0 0 (-1) 0).1 < 0 then (0, 0, false, l0) else ((bestFrom l0 0 (-1) 0).1, (bestFrom l0 0 (-1) 0).2, true, l0.set (bestFrom l0 0 (-1) 0).1.toNat none))

/-- v points to a queue; its blocks are from base on, and in ok. -/
def QR (w : World) (base : Nat) (ok : Nat → Prop) (v : Value) (m : List (Option Int)) : Prop :=
  m.length ≤ 1048576 ∧ ∃ (p : Nat) (sh sp sk : Value) (hp pl ky : List Int), v = .pointer (some ⟨p, 0, none⟩) ∧ base ≤ p ∧ ok p ∧ w.heap[p]? = some (.cells #[sh, sp, sk] 76 (0, 0)) ∧
    Kd.R (Kd.int .i64) 3 w base ok sh hp ∧ Kd.R (Kd.int .i64) 3 w base ok sp pl ∧ Kd.R (Kd.int .i64) 3 w base ok sk ky ∧
    (∀ k, sh.ownBlock = some k → sp.ownBlock ≠ some k ∧ sk.ownBlock ≠ some k) ∧ (∀ k, sp.ownBlock = some k → sk.ownBlock ≠ some k) ∧ QAbs m hp pl ky
section
variable {w w1 W : World} {base base' : Nat} {ok ok' : Nat → Prop} {v : Value} {m : List (Option Int)}
theorem QR_ptr (h : QR w base ok v m) : ∃ p, v = .pointer (some ⟨p, 0, none⟩) := by
  obtain ⟨_, p, _, _, _, _, _, _, he, _⟩ := h
  exact ⟨p, he⟩
theorem QR_mono (h : QR w base ok v m) (hok : ∀ k, ok k → ok' k) : QR w base ok' v m := by
  obtain ⟨h0, p, sh, sp, sk, hp, pl, ky, he, h1, h2, h3, h4, h5, h6, h7⟩ := h
  exact ⟨h0, p, sh, sp, sk, hp, pl, ky, he, h1, hok _ h2, h3, Kd.R_mono h4 hok, Kd.R_mono h5 hok, Kd.R_mono h6 hok, h7⟩
theorem QR_lower (h : QR w base ok v m) (hb : base' ≤ base) : QR w base' ok v m := by
  obtain ⟨h0, p, sh, sp, sk, hp, pl, ky, he, h1, h2, h3, h4, h5, h6, h7⟩ := h
  exact ⟨h0, p, sh, sp, sk, hp, pl, ky, he, Nat.le_trans hb h1, h2, h3, Kd.R_lower h4 hb, Kd.R_lower h5 hb, Kd.R_lower h6 hb, h7⟩
theorem QR_bound (h : QR w base ok v m) : QR w base (fun k => ok k ∧ base ≤ k ∧ k < w.heap.size) v m := by
  obtain ⟨h0, p, sh, sp, sk, hp, pl, ky, he, h1, h2, h3, h4, h5, h6, h7⟩ := h
  exact ⟨h0, p, sh, sp, sk, hp, pl, ky, he, h1, ⟨h2, h1, blk_lt h3⟩, h3, Kd.R_mono (Kd.R_bound h4) (fun k hk => ⟨hk.1, hk.2.1, hk.2.2.1⟩), Kd.R_mono (Kd.R_bound h5) (fun k hk => ⟨hk.1, hk.2.1, hk.2.2.1⟩), Kd.R_mono (Kd.R_bound h6) (fun k hk => ⟨hk.1, hk.2.1, hk.2.2.1⟩), h7⟩
theorem QR_step (h : QR w base ok v m) (hm : ∀ k, ok k → k < w.heap.size → w1.heap[k]? = w.heap[k]?) : QR w1 base ok v m := by
  obtain ⟨h0, p, sh, sp, sk, hp, pl, ky, he, h1, h2, h3, h4, h5, h6, h7⟩ := h
  exact ⟨h0, p, sh, sp, sk, hp, pl, ky, he, h1, h2, (hm p h2 (blk_lt h3)).trans h3, Kd.R_step h4 hm, Kd.R_step h5 hm, Kd.R_step h6 hm, h7⟩
theorem QR_below (h : QR w base ok v m) (hb : Below w.heap.size w w1) : QR w1 base ok v m := QR_step h (fun k _ hk => hb.block k hk)
theorem QR_alloc (h : QR w base ok v m) (o : Obj) : QR (w.alloc o) base ok v m := QR_below h (below_alloc (Below.refl _ _) o)
theorem QR_drew (h : QR w base ok v m) : QR w.drew base ok v m := QR_below h (below_drew (Below.refl _ _))
theorem QR_drewN (h : QR w base ok v m) (n : Nat) : QR (w.drewN n) base ok v m := QR_below h (pw_below_drewN (Below.refl _ _) n)
theorem QR_keptB {S : Nat → Prop} (h : QR w base ok v m) (hk : Kept w w1 S) (hne : ∀ k, ok k → ¬ S k) : QR w1 base (fun k => ok k ∧ (¬ S k ∧ k < w.heap.size)) v m :=
  QR_step (QR_mono (QR_bound h) (fun k hk => ⟨hk.1, hne k hk.1, hk.2.2⟩)) (fun k hk' hl => hk.2 k hl hk'.2.1)
theorem QR_grown {W2 : World} {row : Option Nat} (h : QR W base ok v m) (hg : W.grownBy W2 row) (hne : ∀ k, ok k → some k ≠ row) : QR W2 base ok v m := QR_step h (fun k hk hl => hg.block k hl (hne k hk))
/-- A queue for one item or more, its rows in sight. -/
theorem QR_open (h : QR w base ok v m) (hn : 0 < m.length) : ∃ p sh gp gk cp ck hp pl ky, v = .pointer (some ⟨p, 0, none⟩) ∧ QD w base ok p sh gp gk cp ck m.length hp pl ky ∧ QAbs m hp pl ky ∧ m.length ≤ 1048576 := by
  obtain ⟨h0, p, sh, sp, sk, hp, pl, ky, he, h1, h2, h3, h4, h5, h6, h7, h8, h9⟩ := h
  have lp := h9.I.lp
  have lk := h9.I.lk
  obtain ⟨gp, cp, rfl, _⟩ := Kd.R_form h5 (by omega)
  obtain ⟨gk, ck, rfl, _⟩ := Kd.R_form h6 (by omega)
  rw [lp] at h3 h5
  rw [lk] at h3 h6
  exact ⟨p, sh, gp, gk, cp, ck, hp, pl, ky, he, ⟨h1, h2, h3, h4, h5, h6, fun k e => ⟨fun e2 => (h7 k e).1 (by rw [e2]; rfl), fun e2 => (h7 k e).2 (by rw [e2]; rfl)⟩, fun e => h8 gp rfl (by rw [e]; rfl)⟩, h9, h0⟩
theorem QR_close {p gp gk cp ck : Nat} {sh : Value} {hp pl ky : List Int} (h : QD w base ok p sh gp gk cp ck m.length hp pl ky) (ha : QAbs m hp pl ky) (hn : m.length ≤ 1048576) : QR w base ok (.pointer (some ⟨p, 0, none⟩)) m :=
  ⟨hn, p, sh, _, _, hp, pl, ky, rfl, h.bp, h.op, h.cells, h.H, h.P, h.K, fun k e => ⟨fun e2 => (h.ah k e).1 (by cases e2; rfl), fun e2 => (h.ah k e).2 (by cases e2; rfl)⟩, fun k e e2 => h.npk (by cases e; cases e2; rfl), ha⟩
theorem QR_c1 (h : QR w base ok v m) : ∃ p A c, v = .pointer (some ⟨p, 0, none⟩) ∧ w.cell? ⟨p, 1, none⟩ = some (.slice A m.length c) := by
  obtain ⟨h0, p, sh, sp, sk, hp, pl, ky, he, h1, h2, h3, h4, h5, h6, h7, h8, h9⟩ := h
  obtain ⟨A, c, rfl⟩ := Kd.R_slice h5
  exact ⟨p, A, c, he, by rw [← h9.I.lp]; exact (blk_cell h3 1).trans rfl⟩
theorem QR_c0 (h : QR w base ok v m) : ∃ p A c, v = .pointer (some ⟨p, 0, none⟩) ∧ w.cell? ⟨p, 0, none⟩ = some (.slice A (cnt m) c) := by
  obtain ⟨h0, p, sh, sp, sk, hp, pl, ky, he, h1, h2, h3, h4, h5, h6, h7, h8, h9⟩ := h
  obtain ⟨A, c, rfl⟩ := Kd.R_slice h4
  exact ⟨p, A, c, he, by rw [← h9.len]; exact (blk_cell h3 0).trans rfl⟩
end

set_option maxHeartbeats 8000000 in
set_option maxRecDepth 100000 in
theorem pq_has.calls {w : World} {p n c : Nat} {A : Option Addr} (hc : w.cell? ⟨p, 1, none⟩ = some (.slice A n c)) (x : Int) (b : Bool) (hb : decide (0 ≤ x ∧ x < (n : Int)) = b) :
    Calls Try.prog 37 #[.pointer (some ⟨p, 0, none⟩), .int .i64 x] w fun e w' => e = .returned (.bool b) ∧ w = w' := by
  subst hb
  by_cases c1 : 0 ≤ x
  · by_cases c2 : x < (n : Int)
    · rw [decide_eq_true (⟨c1, c2⟩ : 0 ≤ x ∧ x < (n : Int))]
      go_enter Try.func37, Try.ntmps37
      go_wp2
      go_ret
      exact ⟨by first | rfl | (simp; done) | (simp [*]; done), rfl⟩
    · rw [decide_eq_false (fun h : 0 ≤ x ∧ x < (n : Int) => c2 h.2)]
      have c2b : decide (x < (n : Int)) = false := decide_eq_false c2
      go_enter Try.func37, Try.ntmps37
      go_wp2
      go_ret
      exact ⟨by first | rfl | (simp; done) | (simp [*]; done), rfl⟩
  · rw [decide_eq_false (fun h : 0 ≤ x ∧ x < (n : Int) => c1 h.1)]
    have c1b : decide (0 ≤ x) = false := decide_eq_false c1
    go_enter Try.func37, Try.ntmps37
    go_wp2
    go_ret
    exact ⟨by first | rfl | (simp; done) | (simp [*]; done), rfl⟩

set_option maxHeartbeats 8000000 in
set_option maxRecDepth 100000 in
theorem pq_Queue_Len.calls {ok : Nat → Prop} {base : Nat} {u : Value} (l0 : List (Option Int)) (r : Int) (w : World) (ho : QR w base ok u l0) (h : pq_Queue_Len.f l0 = some r) :
    Calls Try.prog 33 #[u] w fun e w' => e = .returned (.int .i64 r) ∧ Drawn0 w w' := by
  obtain rfl := Option.some.inj h
  obtain ⟨p, A, c, rfl, hc0⟩ := QR_c0 ho
  clear ho h
  go_enter Try.func33, Try.ntmps33
  go_wp2
  go_ret
  exact ⟨by first | rfl | (simp; done) | (simp [*]; done), by repeat (first | exact Drawn0.refl _ | apply Drawn0.step)⟩

set_option maxHeartbeats 8000000 in
set_option maxRecDepth 100000 in
/-- What Set leaves: by Tr, Below and Kept in one. -/
def SetPost (base : Nat) (ok : Nat → Prop) (w : World) (v : Value) (r : Bool) (m : List (Option Int)) (e : Ending) (w' : World) : Prop := e = .returned (.bool r) ∧ QR w' base ok v m ∧ Tr base ok w w'
theorem SetPost.of {base : Nat} {ok : Nat → Prop} {w : World} {v : Value} {r : Bool} {m : List (Option Int)} {w' : World} (a : QR w' base ok v m) (b : Tr base ok w w') : SetPost base ok w v r m (.returned (.bool r)) w' := ⟨rfl, a, b⟩

/-- Behind settle: the queue is whole. -/
theorem settled {w w' : World} {base : Nat} {ok : Nat → Prop} {p gh gp gy ch cp ck nh n : Nat} {pl ky hp : List Int} {m : List (Option Int)} (hpre : QPre m hp pl ky) (hnh : nh = hp.length) (hn : n = m.length) (hm : m.length ≤ 1048576) {e : Ending} (h : SettlePost w base ok p gh gp gy ch cp ck nh n pl ky e w') :
    e = .returned (.tuple #[]) ∧ QR w' base ok (.pointer (some ⟨p, 0, none⟩)) m ∧ Tr base ok w w' := by
  obtain ⟨he, hp2, pl2, ⟨hq, hI, hs, ht⟩, hh⟩ := h
  subst hn
  exact ⟨he, QR_close hq.toQD (hpre.fin (by have := hq.hl.1; omega) hI hs hh) hm, ht⟩

set_option maxHeartbeats 16000000 in
set_option maxRecDepth 1000000 in
theorem pq_set_old {w : World} {base : Nat} {ok : Nat → Prop} {p gp gk cp ck : Nat} {sh : Value} {hp pl ky : List Int} {m : List (Option Int)} (x v : Int) (hD : QD w base ok p sh gp gk cp ck m.length hp pl ky) (hA : QAbs m hp pl ky) (hm : m.length ≤ 1048576) (h0 : 0 ≤ x) (h1 : x < (m.length : Int)) (hin : ¬ rd pl x < 0) :
    Calls Try.prog 32 #[.pointer (some ⟨p, 0, none⟩), .int .i64 x, .int .i64 v] w (SetPost base ok w (.pointer (some ⟨p, 0, none⟩)) true (m.set x.toNat (some v))) := by
  obtain ⟨hpre, hole, i0, i1⟩ := set_old (v := v) hA h0 h1 (by omega)
  have hlen : hp.length ≤ m.length := by have := hA.len; have := cnt_le m; omega
  obtain ⟨gh, ch, rfl, hC⟩ := hD.toQC (by omega)
  have e1 := hD.c1
  have e2 := hD.c2
  obtain ⟨r3, f3⟩ := hD.rp h0 h1
  obtain ⟨r4, f4⟩ := hD.rk h0 h1
  have HP := Aside0.mk hpre
  have HO := Aside0.mk hole
  have HC := Aside0.mk (hC.setK x v)
  have HT := Aside0.mk ((Tr.refl base ok w).set hD.bk.1 hD.bk.2 x.toNat (.int .i64 v))
  have HL := Aside0.mk (show (hp.length : Int) ≤ 1048576 by omega)
  have HH := Aside0.mk (decide_eq_true (⟨h0, h1⟩ : 0 ≤ x ∧ x < (m.length : Int)))
  have HM := Aside0.mk hm
  have cb : decide (rd pl x < 0) = false := decide_eq_false hin
  clear hD hA hpre hole hin hC hm hlen
  go_enter Try.func32, Try.ntmps32
  go_wp2_with (first | (go_at_call 37; refine (pq_has.calls e1 x true HH.out).mono ?_; rintro e w2 ⟨rfl, rfl⟩) | ((with_reducible refine gate_store (t := 3) (p := 17) rfl ?_); refine store_event (t := 3) (p := 17) (v := ?vo) (w1 := (w.setCell ⟨gk, x.toNat, none⟩ (.int .i64 v))) ?hg ?ho ?hn ?hr ?_; (case ho => rfl); (case hg => rfl); (case hn => rfl); (case hr => first | (go_simp; done) | (go_simp; rfl)); intro w3 hw; have HC2 := Aside0.mk (show QC w3 base ok p gh gp gk ch cp ck hp.length m.length hp pl (ky.set x.toNat v) from by (rw [hw]; exact HC.out)); have HT2 := Aside0.mk (show Tr base ok w w3 from by (rw [hw]; exact HT.out)); clear HC HT hw e1 e2 r3 r4 f3 f4; have e1 := HC2.out.c1; obtain ⟨r3, f3⟩ := HC2.out.rp h0 h1) | (go_at_call 38; refine (pq_settle.calls HC2.out (by have := HP.out.I; rw [List.length_set] at this; exact this) _ i0 i1 HO.out HL.out).mono ?_; intro e w4 hs; obtain ⟨rfl, hq, ht⟩ := settled HP.out rfl (by simp) (by have := HM.out; rw [List.length_set]; exact this) hs; have HQ := Aside0.mk hq; have HT4 := Aside0.mk (HT2.out.trans ht); clear hs hq ht))

  go_ret
  exact SetPost.of HQ.out HT4.out

theorem info3q : (Try.prog.info? 3).map (fun i => (i.zero, i.size, i.bytes)) = some (some (.int .i64 0), 1, 8) := by kernel_rfl
set_option maxHeartbeats 16000000 in
set_option maxRecDepth 1000000 in
theorem pq_set_new {w : World} {base : Nat} {ok : Nat → Prop} {p gp gk cp ck : Nat} {sh : Value} {hp pl ky : List Int} {m : List (Option Int)} (x v : Int) (hD : QD w base ok p sh gp gk cp ck m.length hp pl ky) (hA : QAbs m hp pl ky) (hm : m.length ≤ 1048576) (hz : base ≤ w.heap.size) (hfresh : ∀ k, w.heap.size ≤ k → ok k) (h0 : 0 ≤ x) (h1 : x < (m.length : Int)) (hin : rd pl x < 0) :
    Calls Try.prog 32 #[.pointer (some ⟨p, 0, none⟩), .int .i64 x, .int .i64 v] w (SetPost base ok w (.pointer (some ⟨p, 0, none⟩)) true (m.set x.toNat (some v))) := by
  obtain ⟨hpre, hole, hrd⟩ := set_new (v := v) hA h0 h1 hin
  have hlen : hp.length ≤ m.length := by have := hA.len; have := cnt_le m; omega
  have hlt : hp.length + 1 ≤ m.length := by
    have e := hpre.len
    have := cnt_le (m.set x.toNat (some v))
    rw [← e, List.length_set, List.length_append] at this
    exact this
  obtain ⟨A, c, rfl⟩ := Kd.R_slice hD.H
  have e0 := hD.c0
  have e1 := hD.c1
  have e2 := hD.c2
  obtain ⟨r3, f3⟩ := hD.rp h0 h1
  obtain ⟨r4, f4⟩ := hD.rk h0 h1
  have HP := Aside0.mk hpre
  have HO := Aside0.mk hole
  have HD := Aside0.mk (hD.setK x v)
  have HT := Aside0.mk ((Tr.refl base ok w).set hD.bk.1 hD.bk.2 x.toNat (.int .i64 v))
  have HL := Aside0.mk (show (hp.length : Int) + 1 ≤ 1048576 by omega)
  have HH := Aside0.mk (decide_eq_true (⟨h0, h1⟩ : 0 ≤ x ∧ x < (m.length : Int)))
  have HM := Aside0.mk hm
  have HZ := Aside0.mk hz
  have HF := Aside0.mk hfresh
  have HR := Aside0.mk hrd
  have hsz0 : (w.setCell ⟨gk, x.toNat, none⟩ (.int .i64 v)).heap.size = w.heap.size := by simp [World.setCell]
  have HS0 := Aside0.mk hsz0
  clear hD hA hpre hole hm hlen hlt hz hfresh hrd hsz0
  go_enter Try.func32, Try.ntmps32
  go_wp2_with (first | (go_at_call 37; refine (pq_has.calls e1 x true HH.out).mono ?_; rintro e w2 ⟨rfl, rfl⟩) | ((with_reducible refine gate_store (t := 3) (p := 17) rfl ?_); refine store_event (t := 3) (p := 17) (v := ?vo) (w1 := (w.setCell ⟨gk, x.toNat, none⟩ (.int .i64 v))) ?hg ?ho ?hn ?hr ?_; (case ho => rfl); (case hg => rfl); (case hn => rfl); (case hr => first | (go_simp; done) | (go_simp; rfl)); intro w3 hw; have HD2 := Aside0.mk (show QD w3 base ok p (.slice A hp.length c) gp gk cp ck m.length hp pl (ky.set x.toNat v) from by (rw [hw]; exact HD.out)); have HT2 := Aside0.mk (show Tr base ok w w3 from by (rw [hw]; exact HT.out)); have HS2 := Aside0.mk (show w3.heap.size = w.heap.size from by (rw [hw]; exact HS0.out)); clear HD HT HS0 hw e0 e1 e2 r3 r4 f3 f4; have e0 := HD2.out.c0; have e1 := HD2.out.c1; obtain ⟨r3, f3⟩ := HD2.out.rp h0 h1))
  go_region
  generalize hW : (w3.setCell ⟨gp, x.toNat, none⟩ (.int .i64 (hp.length : Int))).drew = w4
  have HD4 := Aside0.mk (show QD w4 base ok p (.slice A hp.length c) gp gk cp ck m.length hp (pl.set x.toNat hp.length) (ky.set x.toNat v) from by (rw [← hW]; exact (HD2.out.setP x hp.length).drew))
  have HT4 := Aside0.mk (show Tr base ok w w4 from by (rw [← hW]; exact (HT2.out.set HD2.out.bpl.1 HD2.out.bpl.2 _ _).drew))
  have HS4 := Aside0.mk (show w4.heap.size = w.heap.size from by (rw [← hW]; exact Eq.trans (by simp [World.setCell]) HS2.out))
  clear hW HD2 HT2 HS2 e0 e1 r3 f3
  have e0 := HD4.out.c0
  go_wp2_with (first
    | ((with_reducible refine gate_builtin (b := .append) (xs := #[.tmp 41, .tmp 43]) rfl ?_); at_builtin; refine Kd.R_append (Kd.int .i64) (w0 := w4) base rfl (.tmp 41) (.tmp 43) 25 3 (.int .i64 0) 8 rfl Try.underlying25 info3q rfl (by decide) (by omega) (.slice A hp.length c) hp x [.int .i64 x] ok (fun _ => False) rfl rfl rfl (fun _ hk => hk.elim) ?aF HD4.out.H (Below.refl _ _) (by rw [HS4.out]; exact HZ.out) (by have := HL.out; omega) ?_; (case aF => intro k hk; exact HF.out k (by rw [← HS4.out]; exact hk)); intro v1 w5 ho5 hb5 hg5 hat5; obtain ⟨A2, c2, ev1⟩ := Kd.R_slice ho5; subst ev1; have n1_ := Aside0.mk (HD4.out.after hg5 ho5 hat5); have n2_ := Aside0.mk (HT4.out.grown hg5 (fun k e_ => HD4.out.bh k e_) (by rw [HS4.out]; exact HZ.out)); clear hg5 hat5 hb5 e0 HT4; have e0 := (blk_cell n1_.out.1 0).trans rfl; have f0 := blk_frozen n1_.out.1 0)
    | ((with_reducible refine gate_store (t := 25) (p := 46) rfl ?_); refine store_event (t := 25) (p := 46) (v := ?vo2) (w1 := (w5.setCell ⟨p, 0, none⟩ (.slice A2 (hp ++ [x]).length c2))) ?hg2 ?ho2 ?hn2 ?hr2 ?_; (case ho2 => rfl); (case hg2 => rfl); (case hn2 => rfl); (case hr2 => first | (go_simp; done) | (go_simp; rfl)); intro w6 hw; have HD6 := Aside0.mk (show QD w6 base ok p (.slice A2 (hp ++ [x]).length c2) gp gk cp ck m.length (hp ++ [x]) (pl.set x.toNat hp.length) (ky.set x.toNat v) from by (rw [hw]; exact n1_.out.2)); have HT6 := Aside0.mk (show Tr base ok w w6 from by (rw [hw]; exact n2_.out.set HD4.out.bp HD4.out.op _ _)); clear n1_ n2_ hw e0 f0 HS4 ho5; have e1 := HD6.out.c1; obtain ⟨r3, f3⟩ := HD6.out.rp h0 h1; rw [HR.out] at r3)
    | (go_at_call 38; obtain ⟨gh, ch, ee, hC⟩ := HD6.out.toQC (by simp); refine (pq_settle.calls hC (by have := HP.out.I; rw [List.length_set] at this; exact this) _ (Int.natCast_nonneg _) (by simp <;> omega) HO.out (by have := HL.out; simp; omega)).mono ?_; intro e w7 hs; obtain ⟨rfl, hq, ht⟩ := settled HP.out rfl (by simp) (by have := HM.out; rw [List.length_set]; exact this) hs; have HQ := Aside0.mk hq; have HT7 := Aside0.mk (HT6.out.trans ht); clear hs hq ht hC ee))
  go_ret
  exact SetPost.of HQ.out HT7.out

set_option maxHeartbeats 16000000 in
set_option maxRecDepth 1000000 in
theorem pq_Queue_Set.calls (P0_ : Nat → Prop) (u9000_ : Value) (l0 : List (Option Int)) (a1 a2 : Int) (r1 : Bool) (r2 : List (Option Int)) (w0 w : World) (hB : Below w0.heap.size w0 w) (ho0 : QR w w0.heap.size P0_ u9000_ l0) (h : pq_Queue_Set.f l0 a1 a2 = some (r1, r2)) :
    Calls Try.prog 32 #[u9000_, .int .i64 a1, .int .i64 a2] w fun e w' => e = .returned (.bool r1) ∧ QR w' w0.heap.size (fun k_ => (P0_ k_ ∨ w.heap.size ≤ k_)) u9000_ r2 ∧ Below w0.heap.size w0 w' ∧ Kept w w' (fun k_ => P0_ k_) := by
  have hall := QR_mono (ok' := fun k_ => (P0_ k_ ∨ w.heap.size ≤ k_)) ho0 (fun _ hk => .inl hk)
  have h := Option.some.inj h
  by_cases hin : 0 ≤ a1 ∧ a1 < (l0.length : Int)
  · rw [if_pos hin] at h
    simp only [Prod.mk.injEq] at h
    obtain ⟨rfl, rfl⟩ := h
    obtain ⟨p, sh, gp, gk, cp, ck, hp, pl, ky, rfl, hD, hA, hm⟩ := QR_open hall (by omega)
    have fin : ∀ e w', SetPost w0.heap.size (fun k_ => (P0_ k_ ∨ w.heap.size ≤ k_)) w (.pointer (some ⟨p, 0, none⟩)) true (l0.set a1.toNat (some a2)) e w' → e = .returned (.bool true) ∧ QR w' w0.heap.size (fun k_ => (P0_ k_ ∨ w.heap.size ≤ k_)) (.pointer (some ⟨p, 0, none⟩)) (l0.set a1.toNat (some a2)) ∧ Below w0.heap.size w0 w' ∧ Kept w w' (fun k_ => P0_ k_) := by
      rintro e w' ⟨g1, g2, g3⟩
      obtain ⟨g4, g5⟩ := g3 w0 w (fun k_ => P0_ k_) rfl (fun k hk => hk)
      exact ⟨g1, g2, g4 hB, g5 (Kept.refl _ _)⟩
    by_cases c : rd pl a1 < 0
    · exact (pq_set_new a1 a2 hD hA hm hB.size (fun k hk => .inr hk) hin.1 hin.2 c).mono fin
    · exact (pq_set_old a1 a2 hD hA hm hin.1 hin.2 c).mono fin
  · rw [if_neg hin] at h
    simp only [Prod.mk.injEq] at h
    obtain ⟨rfl, rfl⟩ := h
    obtain ⟨p, A, c, rfl, e1⟩ := QR_c1 ho0
    have HD := Aside0.mk (decide_eq_false hin)
    have HA := Aside0.mk hall
    have HB := Aside0.mk hB
    clear hin ho0 hall hB
    go_enter Try.func32, Try.ntmps32
    go_wp2_with (first | (go_at_call 37; refine (pq_has.calls e1 a1 false HD.out).mono ?_; rintro e w2 ⟨rfl, rfl⟩))
    go_ret
    exact ⟨by first | rfl | (simp; done), HA.out, HB.out, Kept.refl _ _⟩

set_option maxHeartbeats 16000000 in
set_option maxRecDepth 1000000 in
theorem pq_drop_in {w : World} {base : Nat} {ok : Nat → Prop} {p gp gk cp ck : Nat} {sh : Value} {hp pl ky : List Int} {m : List (Option Int)} (x : Int) (hD : QD w base ok p sh gp gk cp ck m.length hp pl ky) (hA : QAbs m hp pl ky) (hm : m.length ≤ 1048576) (h0 : 0 ≤ x) (h1 : x < (m.length : Int)) (hin : ¬ rd pl x < 0) :
    Calls Try.prog 39 #[.pointer (some ⟨p, 0, none⟩), .int .i64 x] w (SetPost base ok w (.pointer (some ⟨p, 0, none⟩)) true (m.set x.toNat none)) := by
  obtain ⟨hpre, hheap, hhole, i0, i1, hl0⟩ := drop_item hA h0 h1 (by omega)
  have hlen : hp.length ≤ m.length := by have := hA.len; have := cnt_le m; omega
  obtain ⟨gh, ch, rfl, hC⟩ := hD.toQC hl0
  have hI := hA.I
  obtain ⟨L, hL⟩ : ∃ L : Nat, hp.length = L + 1 := ⟨hp.length - 1, by omega⟩
  have eL : (hp.length : Int) - 1 = L := by omega
  have eL2 : hp.length - 1 = L := by omega
  rw [eL] at hpre hheap hhole
  rw [eL2] at hpre hheap hhole
  rw [hL] at hC
  have hcap : L ≤ ch := by have := (Kd.R_reads' hC.H).2.1; omega
  have e0 := hC.c0
  have e1 := hC.c1
  obtain ⟨r3, f3⟩ := hC.rp h0 h1
  have HS : SQ w w base ok p gh gp gk ch cp ck (L + 1) m.length pl ky hp pl := ⟨hC, hI, Same.refl _ _, Tr.refl _ _ _⟩
  have cb : decide (rd pl x < 0) = false := decide_eq_false hin
  generalize hi : rd pl x = i at *
  have hiL : i < ((L + 1 : Nat) : Int) := by omega
  have HS := Aside0.mk HS
  have HP := Aside0.mk hpre
  have HHe := Aside0.mk hheap
  have HHo := Aside0.mk hhole
  have HH := Aside0.mk (decide_eq_true (⟨h0, h1⟩ : 0 ≤ x ∧ x < (m.length : Int)))
  have HM := Aside0.mk hm
  have HL := Aside0.mk (show (L : Int) + 1 ≤ 1048576 by omega)
  have HCap := Aside0.mk hcap
  have HI := Aside0.mk hi
  have hLn : (L : Int) < ((L + 1 : Nat) : Int) := by omega
  have HTL := Aside0.mk (show ((swh hp i L).take L).length = L by rw [List.length_take, swh_len]; omega)
  clear hD hA hpre hheap hhole hlen hm hC hI hL eL eL2 hi hin hl0 i1
  have cap2 : (L : Int) ≤ (ch : Int) := by omega
  go_enter Try.func39, Try.ntmps39
  go_wp2_with (first | (go_at_call 37; refine (pq_has.calls e1 x true HH.out).mono ?_; rintro e w2 ⟨rfl, rfl⟩))
  go_quiet (fail)
  rw [show wrap64 (L : Int) = (L : Int) from by (have := HL.out; unfold wrap64; omega)]
  go_wp2_with (first
    | (go_at_call 41; refine (pq_swap_s (HS.out.drewN _) _ _ i0 hiL (Int.natCast_nonneg _) hLn).mono ?_; rintro e w3 ⟨rfl, hs3⟩; obtain ⟨q1, q2, q3, q4⟩ := hs3; have HQ3 := Aside0.mk q1; have HI3 := Aside0.mk q2; have HT3 := Aside0.mk q4; clear q1 q2 q3 q4 e0 e1 r3 f3; have e0 := HQ3.out.c0; have f0 := HQ3.out.toQD.f0 0)
    | ((with_reducible refine gate_store (t := 25) (p := 46) rfl ?_); refine store_event (t := 25) (p := 46) (v := ?vo2) (w1 := (w3.setCell ⟨p, 0, none⟩ (.slice (some ⟨gh, 0, none⟩) L ch))) ?hg2 ?ho2 ?hn2 ?hr2 ?_; (case ho2 => rfl); (case hg2 => rfl); (case hn2 => rfl); (case hr2 => first | (go_simp; done) | (go_simp; rfl)); intro w4 hw; have HD4 := Aside0.mk (show QD w4 base ok p (.slice (some ⟨gh, 0, none⟩) L ch) gp gk cp ck m.length ((swh hp i L).take L) (swp hp pl i L) ky from by (rw [hw]; exact HQ3.out.toQD.putH (Kd.R_take HQ3.out.H (by have := HQ3.out.hl.1; omega)) HQ3.out.toQD.ah)); have HT4 := Aside0.mk (show Tr base ok w w4 from by (rw [hw]; exact HT3.out.set HQ3.out.bp HQ3.out.op _ _)); clear hw e0 f0 HQ3 HT3; have e1 := HD4.out.c1; obtain ⟨r3, f3⟩ := HD4.out.rp h0 h1)
    | ((with_reducible refine gate_store (t := 3) (p := 52) rfl ?_); refine store_event (t := 3) (p := 52) (v := ?vo3) (w1 := (w4.setCell ⟨gp, x.toNat, none⟩ (.int .i64 (-1)))) ?hg3 ?ho3 ?hn3 ?hr3 ?_; (case ho3 => rfl); (case hg3 => rfl); (case hn3 => rfl); (case hr3 => first | (go_simp; done) | (go_simp; rfl)); intro w5 hw; have HD5 := Aside0.mk (show QD w5 base ok p (.slice (some ⟨gh, 0, none⟩) L ch) gp gk cp ck m.length ((swh hp i L).take L) ((swp hp pl i L).set x.toNat (-1)) ky from by (rw [hw]; exact HD4.out.setP x (-1))); have HT5 := Aside0.mk (show Tr base ok w w5 from by (rw [hw]; exact HT4.out.set HD4.out.bpl.1 HD4.out.bpl.2 _ _)); clear hw e1 r3 f3 HD4 HT4)
    | (go_at_call 38; refine (pq_settle.calls (hp := (swh hp i L).take L) (pl := (swp hp pl i L).set x.toNat (-1)) (gh := gh) (gp := gp) (gy := gk) (ch := ch) (cp := cp) (ck := ck) (nh := L) (n := m.length) (ky := ky) (base := base) (ok := ok) ⟨HD5.out.bp, HD5.out.op, HD5.out.cells, HD5.out.H, HD5.out.P, HD5.out.K, (HD5.out.ah gh rfl).1, (HD5.out.ah gh rfl).2, HD5.out.npk⟩ (by have := HP.out.I; rw [List.length_set] at this; exact this) _ i0 (by assumption) (HHo.out (by assumption)) (by have := HL.out; omega)).mono ?_; intro e w6 hs; obtain ⟨rfl, hq, ht⟩ := settled HP.out HTL.out.symm (by simp) (by have := HM.out; rw [List.length_set]; exact this) hs; have HQ6 := Aside0.mk hq; have HT6 := Aside0.mk (HT5.out.trans ht); clear hs hq ht))
  · go_ret
    exact SetPost.of HQ6.out HT6.out
  · go_ret
    have hlt : (L : Int) ≤ i := by assumption
    exact SetPost.of (QR_close (m := m.set x.toNat none) (by rw [List.length_set]; exact HD5.out) (HP.out.fin rfl HP.out.I (Same.refl _ _) (HHe.out (by have := hiL; omega))) (by have := HM.out; rw [List.length_set]; exact this)) HT5.out

set_option maxHeartbeats 16000000 in
set_option maxRecDepth 1000000 in
theorem pq_Queue_Drop.calls (P0_ : Nat → Prop) (u9000_ : Value) (l0 : List (Option Int)) (a1 : Int) (r1 : Bool) (r2 : List (Option Int)) (w0 w : World) (hB : Below w0.heap.size w0 w) (ho0 : QR w w0.heap.size P0_ u9000_ l0) (h : pq_Queue_Drop.f l0 a1 = some (r1, r2)) :
    Calls Try.prog 39 #[u9000_, .int .i64 a1] w fun e w' => e = .returned (.bool r1) ∧ QR w' w0.heap.size (fun k_ => (P0_ k_ ∨ w.heap.size ≤ k_)) u9000_ r2 ∧ Below w0.heap.size w0 w' ∧ Kept w w' (fun k_ => P0_ k_) := by
  have hall := QR_mono (ok' := fun k_ => (P0_ k_ ∨ w.heap.size ≤ k_)) ho0 (fun _ hk => .inl hk)
  have h := Option.some.inj h
  by_cases hin : 0 ≤ a1 ∧ a1 < (l0.length : Int)
  · rw [if_pos hin] at h
    obtain ⟨p, sh, gp, gk, cp, ck, hp, pl, ky, rfl, hD, hA, hm⟩ := QR_open hall (by omega)
    have hab := hA.ab a1 hin.1 hin.2
    by_cases c : rd pl a1 < 0
    · rw [if_pos c] at hab
      rw [hab] at h
      simp only [Prod.mk.injEq] at h
      obtain ⟨rfl, rfl⟩ := h
      have e1 := hD.c1
      have r3 := (hD.rp hin.1 hin.2).1
      have HD := Aside0.mk (decide_eq_true hin)
      have HA := Aside0.mk hall
      have HB := Aside0.mk hB
      obtain ⟨q0, q1⟩ := hin
      clear hD hA ho0 hall hab hB
      go_enter Try.func39, Try.ntmps39
      go_wp2_with (first | (go_at_call 37; refine (pq_has.calls e1 a1 true HD.out).mono ?_; rintro e w2 ⟨rfl, rfl⟩))
      go_ret
      exact ⟨by first | rfl | (simp; done), HA.out, HB.out, Kept.refl _ _⟩
    · rw [if_neg c] at hab
      rw [hab] at h
      simp only [Prod.mk.injEq] at h
      obtain ⟨rfl, rfl⟩ := h
      refine (pq_drop_in a1 hD hA hm hin.1 hin.2 c).mono ?_
      rintro e w' ⟨g1, g2, g3⟩
      obtain ⟨g4, g5⟩ := g3 w0 w (fun k_ => P0_ k_) rfl (fun k hk => hk)
      exact ⟨g1, g2, g4 hB, g5 (Kept.refl _ _)⟩
  · rw [if_neg hin] at h
    simp only [Prod.mk.injEq] at h
    obtain ⟨rfl, rfl⟩ := h
    obtain ⟨p, A, c, rfl, e1⟩ := QR_c1 ho0
    have HD := Aside0.mk (decide_eq_false hin)
    have HA := Aside0.mk hall
    have HB := Aside0.mk hB
    clear hin ho0 hall hB
    go_enter Try.func39, Try.ntmps39
    go_wp2_with (first | (go_at_call 37; refine (pq_has.calls e1 a1 false HD.out).mono ?_; rintro e w2 ⟨rfl, rfl⟩))
    go_ret
    exact ⟨by first | rfl | (simp; done), HA.out, HB.out, Kept.refl _ _⟩

def PopPost (w0 w : World) (P0_ : Nat → Prop) (v : Value) (r1 r2 : Int) (r3 : Bool) (m : List (Option Int)) (e : Ending) (w' : World) : Prop :=
  e = .returned (.tuple #[.int .i64 r1, .int .i64 r2, .bool r3]) ∧ QR w' w0.heap.size (fun k_ => (P0_ k_ ∨ w.heap.size ≤ k_)) v m ∧ Below w0.heap.size w0 w' ∧ Kept w w' (fun k_ => P0_ k_)

set_option maxHeartbeats 16000000 in
set_option maxRecDepth 1000000 in
theorem pq_Queue_Pop.calls (P0_ : Nat → Prop) (u9000_ : Value) (l0 : List (Option Int)) (r1 r2 : Int) (r3 : Bool) (r4 : List (Option Int)) (w0 w : World) (hB : Below w0.heap.size w0 w) (ho0 : QR w w0.heap.size P0_ u9000_ l0) (h : pq_Queue_Pop.f l0 = some (r1, r2, r3, r4)) :
    Calls Try.prog 34 #[u9000_] w fun e w' => e = .returned (.tuple #[.int .i64 r1, .int .i64 r2, .bool r3]) ∧ QR w' w0.heap.size (fun k_ => (P0_ k_ ∨ w.heap.size ≤ k_)) u9000_ r4 ∧ Below w0.heap.size w0 w' ∧ Kept w w' (fun k_ => P0_ k_) := by
  have hall := QR_mono (ok' := fun k_ => (P0_ k_ ∨ w.heap.size ≤ k_)) ho0 (fun _ hk => .inl hk)
  have h := Option.some.inj h
  have HLen := Aside0.mk (pq_Queue_Len.calls l0 (cnt l0) w ho0 rfl)
  by_cases hc : cnt l0 = 0
  · rw [best_none hc, if_pos (by decide)] at h
    simp only [Prod.mk.injEq] at h
    obtain ⟨rfl, rfl, rfl, rfl⟩ := h
    obtain ⟨p, hp⟩ := QR_ptr ho0
    subst hp
    have HA := Aside0.mk hall
    have HB := Aside0.mk hB
    have hcb : ((cnt l0 : Int) == 0) = true := by rw [hc]; rfl
    clear ho0 hall hB hc
    show Calls Try.prog 34 #[.pointer (some ⟨p, 0, none⟩)] w (PopPost w0 w P0_ (.pointer (some ⟨p, 0, none⟩)) 0 0 false l0)
    go_enter Try.func34, Try.ntmps34
    go_wp2_with (first | (go_at_call 33; refine (HLen.out).mono ?_; rintro e w2 ⟨rfl, ⟨⟨nq, rfl⟩⟩⟩))
    refine bodyPost_ret (v := .tuple #[.int .i64 0, .int .i64 0, .bool false]) (by simp [results, Try.results11, go_sem]) rfl ?_
    exact ⟨rfl, QR_drewN HA.out _, pw_below_drewN HB.out _, (Kept.refl _ _).drewN _⟩
  · obtain ⟨hm, p, sh, sp, sk, hp, pl, ky, hrest⟩ := id ho0
    have hq := hrest.2.2.2.2.2.2.2.2.2
    have hlen := hq.len
    have hle := hq.I.lp
    have hn : 0 < l0.length := by have := cnt_le l0; omega
    clear hrest hq hlen hle
    obtain ⟨p, sh, gp, gk, cp, ck, hp, pl, ky, rfl, hD, hA, hm⟩ := QR_open ho0 hn
    have hlen := hA.len
    obtain ⟨hb1, x0, x1, x2⟩ := best_heap hA (by omega)
    rw [hb1, if_neg (by show ¬ rd hp 0 < 0; omega)] at h
    simp only [Prod.mk.injEq] at h
    obtain ⟨rfl, rfl, rfl, rfl⟩ := h
    obtain ⟨gh, ch, rfl, hC⟩ := hD.toQC (by omega)
    have e0 := hC.c0
    have e2 := hC.c2
    have hpos : (0 : Int) < (hp.length : Int) := by omega
    have r1 := (hC.rh (i := 0) (by omega) hpos).1
    have r2 := (hC.rk x0 x1).1
    have hcb : ((cnt l0 : Int) == 0) = false := beq_eq_false_iff_ne.2 (by omega)
    have hab := hA.ab _ x0 x1
    rw [if_neg (by omega)] at hab
    have HDrop : ∀ n, Calls Try.prog 39 #[.pointer (some ⟨p, 0, none⟩), .int .i64 (rd hp 0)] (w.drewN n) fun e w' => e = .returned (.bool true) ∧ QR w' w0.heap.size (fun k_ => (P0_ k_ ∨ (w.drewN n).heap.size ≤ k_)) (.pointer (some ⟨p, 0, none⟩)) (l0.set (rd hp 0).toNat none) ∧ Below w0.heap.size w0 w' ∧ Kept (w.drewN n) w' (fun k_ => P0_ k_) := fun n =>
      pq_Queue_Drop.calls P0_ _ l0 (rd hp 0) true _ w0 (w.drewN n) (pw_below_drewN hB n) (QR_drewN ho0 n) (by unfold pq_Queue_Drop.f; rw [if_pos ⟨x0, x1⟩, hab])
    have HDr := Aside0.mk HDrop
    clear ho0 hall hB hc hn hm hlen hb1 hab hA hC hD HDrop x2
    generalize rd hp 0 = x at *
    generalize rd ky x = kx at *
    show Calls Try.prog 34 #[.pointer (some ⟨p, 0, none⟩)] w (PopPost w0 w P0_ (.pointer (some ⟨p, 0, none⟩)) x kx true (l0.set x.toNat none))
    have r1 : w.cell? ⟨gh, 0, none⟩ = some (.int .i64 x) := r1
    go_enter Try.func34, Try.ntmps34
    go_wp2_with (first | (go_at_call 33; refine (HLen.out).mono ?_; rintro e w2 ⟨rfl, ⟨⟨nq, rfl⟩⟩⟩) | (go_at_call 39; refine (HDr.out _).mono ?_; rintro e w3 ⟨rfl, g1, g2, g3⟩; have G1 := Aside0.mk g1; have G2 := Aside0.mk g2; have G3 := Aside0.mk g3; clear g1 g2 g3))
    refine bodyPost_ret (v := .tuple #[.int .i64 x, .int .i64 kx, .bool true]) (by simp [results, Try.results11, go_sem]) rfl ?_
    exact ⟨rfl, G1.out, G2.out, G3.out⟩
end Go.Proofs.Ytofhgmdehglhgaa.PAll
namespace Go.Proofs.Ytofhgmdehglhgaa.PAll
open Go.RowKit Go.Proofs.YtofhgmdehglhgaaW.PrintWords Go.Proofs.YtofhgmdehglhgaaW.PrintLast Go.Proofs.YtofhgmdehglhgaaW.PrintMore
set_option linter.unusedVariables false
set_option linter.unusedSimpArgs false
attribute [local irreducible] Calls

theorem abs_new (n : Nat) (pl ky : List Int) (hl : pl.length = n) (hk : ky.length = n) (h : ∀ x : Int, 0 ≤ x → x < n → rd pl x = -1) : QAbs (List.replicate n none) [] pl ky := by
  have hc : ∀ n, cnt (List.replicate n none) = 0 := fun n => by
    induction n with
    | zero => rfl
    | succ n ih => rw [List.replicate_succ, cnt]; exact ih
  refine ⟨⟨by simpa using hl, by simpa using hk, fun j j0 j1 => by simp at j1; omega, fun x x0 x1 => .inl (h x x0 (by simpa using x1))⟩, fun k k0 k1 => by simp at k1; omega, fun x x0 x1 => ?_, (hc n).symm⟩
  have hx1 : x < n := by simpa using x1
  rw [if_pos (by rw [h x x0 hx1]; decide)]
  unfold gm
  rw [List.getD_eq_getElem?_getD, List.getElem?_replicate, if_pos (by omega)]
  rfl

def NewPost (w : World) (n : Nat) (e : Ending) (w' : World) : Prop := ∃ v0_ : Value, e = .returned v0_ ∧ QR w' w.heap.size (fun _ => True) v0_ (List.replicate n none) ∧ Below w.heap.size w w'
theorem tr_below {w w' : World} (h : Tr w.heap.size (fun _ => True) w w') : Below w.heap.size w w' := (h w w (fun _ => True) rfl (fun _ _ => .inl trivial)).1 (Below.refl _ _)

set_option maxHeartbeats 16000000 in
set_option maxRecDepth 1000000 in
theorem pq_New.calls (a0 : Int) (r : List (Option Int)) (w : World) (h : pq_New.f a0 = some r) :
    Calls Try.prog 30 #[.int .i64 a0] w fun e w' => ∃ v0_ : Value, e = .returned v0_ ∧ QR w' w.heap.size (fun _ => True) v0_ r ∧ Below w.heap.size w w' := by
  unfold pq_New.f at h
  by_cases hin : 0 ≤ a0 ∧ a0 ≤ 1048576
  case neg => rw [if_neg hin] at h; cases h
  rw [if_pos hin] at h
  obtain rfl := Option.some.inj h
  obtain ⟨h0, h1⟩ := hin
  clear h
  have HB := Aside0.mk (Below.refl w.heap.size w)
  show Calls Try.prog 30 #[.int .i64 a0] w (NewPost w a0.toNat)
  go_enter Try.func30, Try.ntmps30
  go_wp2
  have n1_ := Aside0.mk (below_drew1 HB.out)
  clear HB
  have HB := n1_
  clear n1_
  refine start_ (n := 7) (S := fun w' => True) (ds := []) #[false, false, false, false, false, false, false] (by kernel_rfl) rfl rfl trivial (fun hHeld => ?_)
  generalize w.drew = w6 at HB hHeld ⊢
  refine pure_ (i := 0) (N := some 11) (v := ?_) (a' := ?_) #[true, false, false, false, false, false, false] rfl rfl (by kernel_rfl) (fun _ _ _ h => h) (Or.inl ⟨by rfl, ?_⟩) ?_ ?_
  rotate_left
  · intro w'
    go_simp
    with_reducible rfl
  rotate_left
  · simp only [Act.put, List.setIfInBounds_toArray, List.set_cons_zero, List.set_cons_succ, i64_w, i32_w]
    rfl
  refine pure_ (i := 2) (N := some 13) (v := ?_) (a' := ?_) #[true, false, true, false, false, false, false] rfl rfl (by kernel_rfl) (fun _ _ _ h => h) (Or.inl ⟨by rfl, ?_⟩) ?_ ?_
  rotate_left
  · intro w'
    go_simp
    with_reducible rfl
  rotate_left
  · simp only [Act.put, List.setIfInBounds_toArray, List.set_cons_zero, List.set_cons_succ, i64_w, i32_w]
    rfl
  refine join_ (σ := Value × Value) 3 #[true, true, true, true, false, false, false] (fun s_ => [(12, s_.1), (14, s_.2)]) (fun s_ w' => Kd.R (Kd.int .i64) 3 w' w.heap.size (fun _ => True) s_.1 (List.replicate a0.toNat 0) ∧ Kd.R (Kd.int .i64) 3 w' w.heap.size (fun _ => True) s_.2 (List.replicate a0.toNat 0) ∧ (∀ k, s_.1.ownBlock = some k → s_.2.ownBlock ≠ some k) ∧ Below w.heap.size w w') ?_ ?_
  rotate_left
  · intro hCont
    refine two_ (i := 1) (j := 3) (Ni := some 12) (Nj := some 14) #[true, true, true, false, false, false, false] #[true, false, true, true, false, false, false] rfl rfl rfl rfl (by kernel_rfl) (by decide) (by decide) (fun K hK => ?_) (fun K hK => ?_)
    · skip
      refine Kd.R_make_step (Kd.int .i64) _ 3 (by rfl) (N := 12) rfl 25 _ _ rfl a0 rfl rfl Try.underlying25 (.int .i64 0) 8 info3q rfl (by decide) (by omega) 0 (ok := fun _ => True) (okp := fun _ => True) rfl (fun _ hk => hk) trivial h0 (by omega) (Below.refl _ _) (Nat.le_refl _) ?_
      intro v1 w7 ho8 hb hg_ hnew_
      have HB1 := Aside0.mk (below_step HB.out hb)
      have HR1 := Aside0.mk (Kd.R_lower ho8 HB.out.size)
      clear hg_ hb ho8 hnew_
      refine hK.out _ _ trivial (fun hHeld => ?_)
      clear hK K
      refine norm_ (a' := ?_) ?_ ?_
      rotate_left
      · show Act.put _ (some 12) _ = _
        simp only [Act.put, List.setIfInBounds_toArray, List.set_cons_zero, List.set_cons_succ, i64_w, i32_w]
        rfl
      refine one_ (i := 3) (N := some 14) #[true, true, true, true, false, false, false] rfl rfl (by kernel_rfl) (by decide) (fun K hK => ?_)
      refine Kd.R_make_step (Kd.int .i64) _ 3 (by rfl) (N := 14) rfl 25 _ _ rfl a0 rfl rfl Try.underlying25 (.int .i64 0) 8 info3q rfl (by decide) (by omega) 0 (ok := fun _ => True) (okp := fun _ => True) rfl (fun _ hk => hk) trivial h0 (by omega) (Below.refl _ _) (Nat.le_refl _) ?_
      intro v2 w9 ho10 hb hg_ hnew_
      have HB2 := Aside0.mk (below_step HB1.out hb)
      have HR2 := Aside0.mk (Kd.R_lower ho10 HB1.out.size)
      have hne : ∀ k, v1.ownBlock = some k → v2.ownBlock ≠ some k := fun k e1 e2 => by
        have := Kd.R_lt HR1.out k e1
        obtain ⟨b, hb1, hb2⟩ := hnew_
        rw [hb1] at e2
        cases e2
        omega
      have HN := Aside0.mk hne
      have HR3 := Aside0.mk (Kd.R_below HR1.out hb)
      clear hg_ hb ho10 hnew_ hne
      obtain ⟨A1, c1, e1⟩ := Kd.R_slice HR3.out
      subst e1
      obtain ⟨A2, c2, e2⟩ := Kd.R_slice HR2.out
      subst e2
      refine hK.out _ _ trivial (fun hHeld => ?_)
      clear hK K
      refine norm_ (a' := ?_) ?_ ?_
      rotate_left
      · show Act.put _ (some 14) _ = _
        simp only [Act.put, List.setIfInBounds_toArray, List.set_cons_zero, List.set_cons_succ, i64_w, i32_w]
        rfl
      exact norm_ (by simp only [putAll, Act.put, List.setIfInBounds_toArray, List.set_cons_zero, List.set_cons_succ]) (hCont (.slice A1 _ c1, .slice A2 _ c2) _ ⟨HR3.out, HR2.out, HN.out, HB2.out⟩)
    · skip
      refine Kd.R_make_step (Kd.int .i64) _ 3 (by rfl) (N := 14) rfl 25 _ _ rfl a0 rfl rfl Try.underlying25 (.int .i64 0) 8 info3q rfl (by decide) (by omega) 0 (ok := fun _ => True) (okp := fun _ => True) rfl (fun _ hk => hk) trivial h0 (by omega) (Below.refl _ _) (Nat.le_refl _) ?_
      intro v1 w7 ho8 hb hg_ hnew_
      have HB1 := Aside0.mk (below_step HB.out hb)
      have HR1 := Aside0.mk (Kd.R_lower ho8 HB.out.size)
      clear hg_ hb ho8 hnew_
      refine hK.out _ _ trivial (fun hHeld => ?_)
      clear hK K
      refine norm_ (a' := ?_) ?_ ?_
      rotate_left
      · show Act.put _ (some 14) _ = _
        simp only [Act.put, List.setIfInBounds_toArray, List.set_cons_zero, List.set_cons_succ, i64_w, i32_w]
        rfl
      refine one_ (i := 1) (N := some 12) #[true, true, true, true, false, false, false] rfl rfl (by kernel_rfl) (by decide) (fun K hK => ?_)
      refine Kd.R_make_step (Kd.int .i64) _ 3 (by rfl) (N := 12) rfl 25 _ _ rfl a0 rfl rfl Try.underlying25 (.int .i64 0) 8 info3q rfl (by decide) (by omega) 0 (ok := fun _ => True) (okp := fun _ => True) rfl (fun _ hk => hk) trivial h0 (by omega) (Below.refl _ _) (Nat.le_refl _) ?_
      intro v2 w9 ho10 hb hg_ hnew_
      have HB2 := Aside0.mk (below_step HB1.out hb)
      have HR2 := Aside0.mk (Kd.R_lower ho10 HB1.out.size)
      have hne : ∀ k, v1.ownBlock = some k → v2.ownBlock ≠ some k := fun k e1 e2 => by
        have := Kd.R_lt HR1.out k e1
        obtain ⟨b, hb1, hb2⟩ := hnew_
        rw [hb1] at e2
        cases e2
        omega
      have HN := Aside0.mk hne
      have HR3 := Aside0.mk (Kd.R_below HR1.out hb)
      clear hg_ hb ho10 hnew_ hne
      obtain ⟨A1, c1, e1⟩ := Kd.R_slice HR3.out
      subst e1
      obtain ⟨A2, c2, e2⟩ := Kd.R_slice HR2.out
      subst e2
      refine hK.out _ _ trivial (fun hHeld => ?_)
      clear hK K
      refine norm_ (a' := ?_) ?_ ?_
      rotate_left
      · show Act.put _ (some 12) _ = _
        simp only [Act.put, List.setIfInBounds_toArray, List.set_cons_zero, List.set_cons_succ, i64_w, i32_w]
        rfl
      exact norm_ (by simp only [putAll, Act.put, List.setIfInBounds_toArray, List.set_cons_zero, List.set_cons_succ]) (hCont (.slice A2 _ c2, .slice A1 _ c1) _ ⟨HR2.out, HR3.out, fun k e1 e2 => HN.out k e2 e1, HB2.out⟩)
  rintro ⟨v1, v2⟩ w13 ⟨h0_, h1_, h2_, h3_⟩
  clear HB
  obtain ⟨A1, c1, e1⟩ := Kd.R_slice h0_
  dsimp only at e1 h0_ h1_ h2_
  subst e1
  obtain ⟨A2, c2, e2⟩ := Kd.R_slice h1_
  subst e2
  simp only [List.length_replicate] at h0_ h1_ h2_
  have HR1 := Aside0.mk h0_
  have HR2 := Aside0.mk h1_
  have HN := Aside0.mk h2_
  have HB := Aside0.mk h3_
  clear h0_ h1_ h2_ h3_
  have hHeld := trivial
  refine norm_ (a' := ?_) ?_ ?_
  rotate_left
  · simp only [putAll, Act.put, List.setIfInBounds_toArray, List.set_cons_zero, List.set_cons_succ]
    rfl
  refine pure_ (i := 4) (N := some 15) (v := ?_) (a' := ?_) #[true, true, true, true, true, false, false] rfl rfl (by kernel_rfl) (fun _ _ _ h => h) (Or.inl ⟨by rfl, ?_⟩) ?_ ?_
  rotate_left
  · intro w'
    go_simp
    with_reducible rfl
  rotate_left
  · simp only [Act.put, List.setIfInBounds_toArray, List.set_cons_zero, List.set_cons_succ, i64_w, i32_w]
    rfl
  refine one_ (i := 5) (N := some 16) #[true, true, true, true, true, true, false] rfl rfl (by kernel_rfl) (by decide) (fun K hK => ?_)
  refine value_ (v := .pointer (some ⟨w13.heap.size, 0, none⟩)) (w1 := w13.alloc (.cells #[.slice none 0 0, .slice A1 a0.toNat c1, .slice A2 a0.toNat c2] 76 (0, 0))) (by rfl) rfl ?_ ?_
  · go_simp
  refine hK.out _ _ trivial (fun hHeld => ?_)
  clear hK K
  refine norm_ (a' := ?_) ?_ ?_
  rotate_left
  · show Act.put _ (some 16) _ = _
    simp only [Act.put, List.setIfInBounds_toArray, List.set_cons_zero, List.set_cons_succ, i64_w, i32_w]
    rfl
  refine pure_ (i := 6) (N := some 3) (v := ?_) (a' := ?_) #[true, true, true, true, true, true, true] rfl rfl (by kernel_rfl) (fun _ _ _ h => h) (Or.inl ⟨by rfl, ?_⟩) ?_ ?_
  rotate_left
  · intro w'
    go_simp
    with_reducible rfl
  rotate_left
  · simp only [Act.put, List.setIfInBounds_toArray, List.set_cons_zero, List.set_cons_succ, i64_w, i32_w]
    rfl
  refine done_ (by kernel_rfl) ?_
  obtain ⟨n, rfl⟩ : ∃ n : Nat, a0 = n := ⟨a0.toNat, by omega⟩
  simp only [Int.toNat_natCast, List.length_replicate] at HR1 HR2 HN ⊢
  have hblk := blk_new w13 (Obj.cells #[Value.slice none 0 0, .slice A1 n c1, .slice A2 n c2] 76 (0, 0))
  have HB14 := Aside0.mk (below_alloc HB.out (Obj.cells #[Value.slice none 0 0, .slice A1 n c1, .slice A2 n c2] 76 (0, 0)))
  have HR14 := Aside0.mk (Kd.R_alloc HR1.out (Obj.cells #[Value.slice none 0 0, .slice A1 n c1, .slice A2 n c2] 76 (0, 0)))
  have HR24 := Aside0.mk (Kd.R_alloc HR2.out (Obj.cells #[Value.slice none 0 0, .slice A1 n c1, .slice A2 n c2] 76 (0, 0)))
  have hbp := HB.out.size
  generalize (w13.alloc (Obj.cells #[Value.slice none 0 0, .slice A1 n c1, .slice A2 n c2] 76 (0, 0))) = w14 at *
  generalize w13.heap.size = p at *
  have HBK := Aside0.mk hblk
  clear hblk HB HR1 HR2
  have e1 : w14.cell? ⟨p, 1, none⟩ = some (.slice A1 n c1) := (blk_cell HBK.out 1).trans rfl
  have HN := HN
  go_wp2
  go_loopg [22] n (fun g vi wr => ∃ (k : Nat) (pl : List Int), vi = .int .i64 (k : Int) ∧ k + g = n ∧ wr.heap[p]? = some (.cells #[.slice none 0 0, .slice A1 n c1, .slice A2 n c2] 76 (0, 0)) ∧ Kd.R (Kd.int .i64) 3 wr w.heap.size (fun _ => True) (.slice A1 n c1) pl ∧ (∀ x : Int, 0 ≤ x → x < k → rd pl x = -1) ∧ Kd.R (Kd.int .i64) 3 wr w.heap.size (fun _ => True) (.slice A2 n c2) (List.replicate n 0) ∧ Below w.heap.size w wr)
  case atStart => exact ⟨0, _, rfl, by omega, HBK.out, HR14.out, fun x a b => by omega, HR24.out, HB14.out⟩
  case round =>
    clear e1 HBK HR14 HR24 HB14
    obtain ⟨k, pl, rfl, hkg, hbk, hr1, hlow, hr2, hbel⟩ := hrel
    have HBK := Aside0.mk hbk
    have HR1 := Aside0.mk hr1
    have HR2 := Aside0.mk hr2
    have HB := Aside0.mk hbel
    have HLow := Aside0.mk hlow
    clear hbk hr1 hr2 hbel hlow
    by_cases c : k < n
    · have hlen := (Kd.R_reads' HR1.out).1
      obtain ⟨g1, c1', e1, hg1, _⟩ := Kd.R_form HR1.out (by omega)
      injection e1 with e1 e2_ e3
      clear e2_
      subst e1
      subst e3
      have HLen := Aside0.mk hlen
      clear hlen
      obtain ⟨r3, f3⟩ := Kd.R_celln (0 : Int) HR1.out (k : Int) (Int.natCast_nonneg _) (by omega)
      have HS := Aside0.mk (Kd.R_putn HR1.out (k : Int) (-1))
      have HS2 := Aside0.mk (QD.farv HR2.out (q := g1) (fun k2 e2 e4 => HN.out g1 rfl (by rw [e2, e4])) (k : Int).toNat (.int .i64 (-1)))
      have HSB := Aside0.mk (below_set HB.out hg1 (j := (k : Int).toNat) (v := .int .i64 (-1)))
      have HSK := Aside0.mk (QC.blkfar HBK.out (QC.ne_of HR1.out HBK.out) (k : Int).toNat (.int .i64 (-1)))
      have e1 : wr.cell? ⟨p, 1, none⟩ = some (.slice (some ⟨g1, 0, none⟩) n c1) := (blk_cell HBK.out 1).trans rfl
      have hn20 : (n : Int) ≤ 1048576 := h1
      have hklt : (k : Int) < (n : Int) := by omega
      have hk0 : (0 : Int) ≤ (k : Int) := Int.natCast_nonneg _
      simp only [Int.toNat_natCast] at r3 f3 HS HS2 HSB HSK
      go_wp2_with (first
        | ((with_reducible refine gate_store (t := 3) (p := 30) rfl ?_); refine store_event (t := 3) (p := 30) (v := ?vo) (w1 := (wr.setCell ⟨g1, k, none⟩ (.int .i64 (-1)))) ?hg ?ho ?hn ?hr ?_; (case ho => rfl); (case hg => rfl); (case hn => rfl); (case hr => first | (go_simp; done) | (go_simp; rfl)); intro w15 hw; rw [← hw] at HS HS2 HSB HSK; clear hw e1 r3 f3 HBK HR1 HR2 HB))
      go_roundg (n - (k + 1))
      case measure => omega
      case rel => exact ⟨k + 1, _, by go_num, by omega, HSK.out, HS.out, fun x x0 x1 => by
        rw [rd_set _ _ _ _ (by have := HLen.out; omega)]
        by_cases e : x.toNat = k
        · rw [if_pos e]
        · rw [if_neg e]
          exact HLow.out x x0 (by omega), HS2.out, HSB.out⟩
    · have c' : decide ((k : Int) < (n : Int)) = false := decide_eq_false (by omega)
      have hkn : k = n := by omega
      subst hkn
      go_wp2
      go_ret
      refine ⟨_, rfl, ⟨by simp; omega, p, _, _, _, [], pl, _, rfl, hbp, trivial, HBK.out, Kd.R_nil _ _ _ _ _, HR1.out, HR2.out, fun k2 e2 => by simp [Value.ownBlock] at e2, fun k2 e2 => HN.out k2 e2, abs_new _ _ _ (Kd.R_reads' HR1.out).1.symm (by simp) (fun x x0 x1 => HLow.out x x0 x1)⟩, HB.out⟩
end Go.Proofs.Ytofhgmdehglhgaa.PAll
namespace Go.Proofs.Ytofhgmdehglhgaa.PAll
open Go.RowKit Go.Proofs.YtofhgmdehglhgaaW.PrintWords Go.Proofs.YtofhgmdehglhgaaW.PrintLast Go.Proofs.YtofhgmdehglhgaaW.PrintMore
set_option linter.unusedVariables false
set_option linter.unusedSimpArgs false
attribute [local irreducible] Calls

/-- Something that lies apart: it stays where its blocks stay. -/
structure Stay (R : World → (Nat → Prop) → Prop) : Prop where
  mono : ∀ {w : World} {ok ok' : Nat → Prop}, R w ok → (∀ k, ok k → ok' k) → R w ok'
  kept : ∀ {w w1 : World} {ok S : Nat → Prop}, R w ok → Kept w w1 S → (∀ k, ok k → ¬ S k) → R w1 (fun k => ok k ∧ (¬ S k ∧ k < w.heap.size))
/-- A queue, and R apart from it. -/
def LQ (R : World → (Nat → Prop) → Prop) (w0 w : World) (v : Value) (m : List (Option Int)) : Prop :=
  ∃ PT : Nat → Prop, QR w w0.heap.size PT v m ∧ R w (fun k => ¬ PT k) ∧ Below w0.heap.size w0 w
section
variable {R : World → (Nat → Prop) → Prop} {w0 w : World} {v : Value} {m : List (Option Int)}
theorem LQ.after (hR : Stay R) {PT : Nat → Prop} (hr : R w (fun k => ¬ PT k)) {w' : World} {m2 : List (Option Int)} (h1 : QR w' w0.heap.size (fun k_ => (PT k_ ∨ w.heap.size ≤ k_)) v m2) (h2 : Below w0.heap.size w0 w') (h3 : Kept w w' (fun k_ => PT k_)) : LQ R w0 w' v m2 :=
  ⟨_, h1, hR.mono (hR.kept hr h3 (fun k hk => hk)) (fun k hk h => h.elim hk.1 (fun h => by have := hk.2.2; omega)), h2⟩
theorem LQ.drewN (hR : Stay R) (h : LQ R w0 w v m) (n : Nat) : LQ R w0 (w.drewN n) v m := by
  obtain ⟨PT, h1, h2, h3⟩ := h
  exact ⟨PT, QR_drewN h1 n, hR.mono (hR.kept (S := fun _ => False) h2 ((Kept.refl w _).drewN n) (fun _ _ h => h)) (fun k hk => hk.1), pw_below_drewN h3 n⟩
theorem LQ.below (h : LQ R w0 w v m) : Below w0.heap.size w0 w := by
  obtain ⟨PT, h1, h2, h3⟩ := h
  exact h3
theorem LQ_Set (hR : Stay R) (h : LQ R w0 w v m) (a1 a2 : Int) (r1 : Bool) (r2 : List (Option Int)) (hf : pq_Queue_Set.f m a1 a2 = some (r1, r2)) :
    Calls Try.prog 32 #[v, .int .i64 a1, .int .i64 a2] w fun e w' => e = .returned (.bool r1) ∧ LQ R w0 w' v r2 := by
  obtain ⟨PT, h1, h2, h3⟩ := h
  exact (pq_Queue_Set.calls PT v m a1 a2 r1 r2 w0 w h3 h1 hf).mono fun e w' ⟨g1, g2, g3, g4⟩ => ⟨g1, LQ.after hR h2 g2 g3 g4⟩
theorem LQ_Drop (hR : Stay R) (h : LQ R w0 w v m) (a1 : Int) (r1 : Bool) (r2 : List (Option Int)) (hf : pq_Queue_Drop.f m a1 = some (r1, r2)) :
    Calls Try.prog 39 #[v, .int .i64 a1] w fun e w' => e = .returned (.bool r1) ∧ LQ R w0 w' v r2 := by
  obtain ⟨PT, h1, h2, h3⟩ := h
  exact (pq_Queue_Drop.calls PT v m a1 r1 r2 w0 w h3 h1 hf).mono fun e w' ⟨g1, g2, g3, g4⟩ => ⟨g1, LQ.after hR h2 g2 g3 g4⟩
theorem LQ_Pop (hR : Stay R) (h : LQ R w0 w v m) (r1 r2 : Int) (r3 : Bool) (r4 : List (Option Int)) (hf : pq_Queue_Pop.f m = some (r1, r2, r3, r4)) :
    Calls Try.prog 34 #[v] w fun e w' => e = .returned (.tuple #[.int .i64 r1, .int .i64 r2, .bool r3]) ∧ LQ R w0 w' v r4 := by
  obtain ⟨PT, h1, h2, h3⟩ := h
  exact (pq_Queue_Pop.calls PT v m r1 r2 r3 r4 w0 w h3 h1 hf).mono fun e w' ⟨g1, g2, g3, g4⟩ => ⟨g1, LQ.after hR h2 g2 g3 g4⟩
theorem LQ_Len (hR : Stay R) (h : LQ R w0 w v m) (r : Int) (hf : (cnt m : Int) = r) :
    Calls Try.prog 33 #[v] w fun e w' => e = .returned (.int .i64 r) ∧ ∃ n, w' = w.drewN n := by
  obtain ⟨PT, h1, h2, h3⟩ := h
  exact (pq_Queue_Len.calls m r w h1 (by unfold pq_Queue_Len.f; rw [hf])).mono fun e w' ⟨g1, g2⟩ => ⟨g1, g2.out⟩
theorem LQ_New (hB : Below w0.heap.size w0 w) (a0 : Int) (r : List (Option Int)) (hf : pq_New.f a0 = some r) :
    Calls Try.prog 30 #[.int .i64 a0] w fun e w' => ∃ p : Nat, e = .returned (.pointer (some ⟨p, 0, none⟩)) ∧ QR w' w0.heap.size (fun k => w.heap.size ≤ k) (.pointer (some ⟨p, 0, none⟩)) r ∧ Below w.heap.size w w' ∧ Below w0.heap.size w0 w' :=
  (pq_New.calls a0 r w hf).mono fun e w' ⟨v, g1, g2, g3⟩ => by
    obtain ⟨p, rfl⟩ := QR_ptr g2
    exact ⟨p, g1, QR_lower (QR_mono (QR_bound g2) (fun k hk => hk.2.1)) hB.size, g3, below_step hB g3⟩
/-- A queue alone. -/
def Non (_ : World) (_ : Nat → Prop) : Prop := True
theorem stay_non : Stay Non := ⟨fun _ _ => trivial, fun _ _ _ => trivial⟩
end

/-- What a law leaves. -/
def LawPost (w : World) (b : Bool) (e : Ending) (w' : World) : Prop := e = .returned (.bool b) ∧ Below w.heap.size w w'
end Go.Proofs.Ytofhgmdehglhgaa.PAll
namespace Go.Proofs.Ytofhgmdehglhgaa.PAll
open Go.RowKit Go.Proofs.YtofhgmdehglhgaaW.PrintWords Go.Proofs.YtofhgmdehglhgaaW.PrintLast Go.Proofs.YtofhgmdehglhgaaW.PrintMore
set_option linter.unusedVariables false
set_option linter.unusedSimpArgs false
attribute [local irreducible] Calls

abbrev Apart := World → (Nat → Prop) → Prop
theorem LQ.step_below {R : Apart} {w0 w : World} {v : Value} {m : List (Option Int)} (hR : Stay R) (h : LQ R w0 w v m) {w' : World} (hb : Below w.heap.size w w') : LQ R w0 w' v m := by
  obtain ⟨PT, h1, h2, h3⟩ := h
  exact ⟨PT, QR_below h1 hb, hR.mono (hR.kept (S := fun _ => False) h2 ⟨hb.size, fun k hk _ => hb.block k hk⟩ (fun _ _ h => h)) (fun k hk => hk.1), below_then h3 h3.size hb⟩
theorem Stay.below {R : Apart} (hR : Stay R) {w w1 : World} {ok : Nat → Prop} (h : R w ok) (hb : Below w.heap.size w w1) : R w1 (fun k => ok k ∧ k < w.heap.size) :=
  hR.mono (hR.kept (S := fun _ => False) h ⟨hb.size, fun k hk _ => hb.block k hk⟩ (fun _ _ h => h)) (fun k hk => ⟨hk.1, hk.2.2⟩)
/-- A row of one's own, apart from the rest. -/
def OwnK {α : Type} (d : Kd α) (e b : Nat) (v : Value) (xs : List α) (R : Apart) : Apart := fun w ok => ∃ Q : Nat → Prop, d.R e w b (fun k => ok k ∧ Q k) v xs ∧ R w (fun k => ok k ∧ ¬ Q k)
/-- A block of one cell, apart from the rest. -/
def AndT (R : Apart) (g : Nat) (u : Value) (e : Nat) : Apart := fun w ok => R w (fun k => ok k ∧ k ≠ g) ∧ (ok g ∧ w.heap[g]? = some (.cells #[u] e (0, 0)))
theorem stay_own {α : Type} (d : Kd α) (e b : Nat) (v : Value) (xs : List α) {R : Apart} (hR : Stay R) : Stay (OwnK d e b v xs R) :=
  ⟨fun ⟨Q, h1, h2⟩ hm => ⟨Q, Kd.R_mono h1 (fun k hk => ⟨hm k hk.1, hk.2⟩), hR.mono h2 (fun k hk => ⟨hm k hk.1, hk.2⟩)⟩,
   fun ⟨Q, h1, h2⟩ hk hs => ⟨Q, Kd.R_mono (Kd.R_keptB h1 hk (fun k h => hs k h.1)) (fun k h => ⟨⟨h.1.1, h.2⟩, h.1.2⟩), hR.mono (hR.kept h2 hk (fun k h => hs k h.1)) (fun k h => ⟨⟨h.1.1, h.2⟩, h.1.2⟩)⟩⟩
theorem stay_andT {R : Apart} (hR : Stay R) (g : Nat) (u : Value) (e : Nat) : Stay (AndT R g u e) :=
  ⟨fun h hm => ⟨hR.mono h.1 (fun k hk => ⟨hm k hk.1, hk.2⟩), hm g h.2.1, h.2.2⟩,
   fun h hk hs => ⟨hR.mono (hR.kept h.1 hk (fun k hk => hs k hk.1)) (fun k hk => ⟨⟨hk.1.1, hk.2⟩, hk.1.2⟩), ⟨h.2.1, hs g h.2.1, blk_lt h.2.2⟩, (hk.2 g (blk_lt h.2.2) (hs g h.2.1)).trans h.2.2⟩⟩
section
variable {R R' : Apart} {w0 w w1 : World} {v : Value} {m : List (Option Int)} {g : Nat} {u : Value} {e : Nat}
theorem LQ.weaken (h : LQ R w0 w v m) (hw : ∀ w ok, R w ok → R' w ok) : LQ R' w0 w v m := by
  obtain ⟨PT, h1, h2, h3⟩ := h
  exact ⟨PT, h1, hw _ _ h2, h3⟩
theorem LQ.allocT (hR : Stay R) (h : LQ R w0 w v m) (hb : Below w.heap.size w w1) (hg : g = w.heap.size) (hc : w1.heap[g]? = some (.cells #[u] e (0, 0))) : LQ (AndT R g u e) w0 w1 v m := by
  obtain ⟨PT, h1, h2, h3⟩ := h
  exact ⟨fun k => PT k ∧ k < w.heap.size, QR_below (QR_mono (QR_bound h1) (fun k hk => ⟨hk.1, hk.2.2⟩)) hb, ⟨hR.mono (hR.below h2 hb) (fun k hk => ⟨fun h => hk.1 h.1, by have := hk.2; omega⟩), fun h => by have := h.2; omega, hc⟩, below_then h3 h3.size hb⟩
theorem LQ.cellT (h : LQ (AndT R g u e) w0 w v m) : w.heap[g]? = some (.cells #[u] e (0, 0)) := by
  obtain ⟨PT, h1, h2, h3⟩ := h
  exact h2.2.2
theorem LQ.inT {α : Type} {k : Kd α} {e2 : Nat} {x : Value} {xs : List α} (hR : Stay R) (h : LQ (AndT (OwnK k e2 w0.heap.size x xs R) g u e) w0 w v m) : LQ (OwnK k e2 w0.heap.size x xs (AndT R g u e)) w0 w v m :=
  h.weaken fun w ok ⟨⟨Q, h1, h2⟩, h3, h4⟩ => ⟨fun k => Q k ∧ k ≠ g, Kd.R_mono h1 (fun k hk => ⟨hk.1.1, hk.2, hk.1.2⟩), hR.mono h2 (fun k hk => ⟨⟨hk.1.1, fun h => hk.2 h.1⟩, hk.1.2⟩), ⟨h3, fun h => h.2 rfl⟩, h4⟩
theorem LQ.cellT2 {α : Type} {k : Kd α} {e2 : Nat} {x : Value} {xs : List α} (h : LQ (OwnK k e2 w0.heap.size x xs (AndT R g u e)) w0 w v m) : w.heap[g]? = some (.cells #[u] e (0, 0)) := by
  obtain ⟨PT, h1, ⟨Q, h4, h5⟩, h3⟩ := h
  exact h5.2.2
theorem LQ.outT {α : Type} {k : Kd α} {e2 : Nat} {x : Value} {xs : List α} (hR : Stay R) (h : LQ (OwnK k e2 w0.heap.size x xs (AndT R g u e)) w0 w v m) : LQ (OwnK k e2 w0.heap.size x xs R) w0 w v m :=
  h.weaken fun w ok ⟨Q, h1, h2⟩ => ⟨Q, h1, hR.mono h2.1 (fun k hk => hk.1)⟩
theorem LQ.swapK {α β : Type} {k1 : Kd α} {k2 : Kd β} {e1 e2 : Nat} {x y : Value} {xs : List α} {ys : List β} (hR : Stay R) (h : LQ (OwnK k1 e1 w0.heap.size x xs (OwnK k2 e2 w0.heap.size y ys R)) w0 w v m) : LQ (OwnK k2 e2 w0.heap.size y ys (OwnK k1 e1 w0.heap.size x xs R)) w0 w v m :=
  h.weaken fun w ok ⟨Q1, h1, Q2, h2, h3⟩ => ⟨fun k => ¬ Q1 k ∧ Q2 k, Kd.R_mono h2 (fun k hk => ⟨hk.1.1, hk.1.2, hk.2⟩), Q1, Kd.R_mono h1 (fun k hk => ⟨⟨hk.1, fun h => h.1 hk.2⟩, hk.2⟩), hR.mono h3 (fun k hk => ⟨⟨hk.1.1, fun h => hk.2 h.2⟩, hk.1.2⟩)⟩
theorem LQ.rowK {α : Type} {k : Kd α} {e2 : Nat} {x : Value} {xs : List α} (h : LQ (OwnK k e2 w0.heap.size x xs R) w0 w v m) : ∃ ok, k.R e2 w w0.heap.size ok x xs := by
  obtain ⟨PT, h1, ⟨Q, h4, h5⟩, h3⟩ := h
  exact ⟨_, h4⟩
theorem LQ.rowK2 {α β : Type} {k1 : Kd α} {k2 : Kd β} {e1 e2 : Nat} {x y : Value} {xs : List α} {ys : List β} (h : LQ (OwnK k1 e1 w0.heap.size x xs (OwnK k2 e2 w0.heap.size y ys R)) w0 w v m) : ∃ ok, k2.R e2 w w0.heap.size ok y ys := by
  obtain ⟨PT, h1, ⟨Q, h4, Q2, h5, h6⟩, h3⟩ := h
  exact ⟨_, h5⟩
theorem read_one {α : Type} {enc : α → Value} {g : Nat} {x : α} (hg : w.heap[g]? = some (.cells #[enc x] e (0, 0))) : ReadsRow (fun (q : α) cs => cs = [enc q]) 1 w (some ⟨g, 0, none⟩) 1 [x] := by
  refine ⟨rfl, by decide, fun _ => ⟨⟨g, 0, none⟩, rfl, fun j p hj => ?_⟩⟩
  cases j with
  | zero =>
    cases hj
    refine ⟨[enc x], rfl, rfl, fun i u hu => ?_⟩
    cases i with
    | zero =>
      cases hu
      exact (blk_cell hg 0).trans rfl
    | succ i => simp at hu
  | succ j => simp at hj
section
variable {P : Program} {ops : Array Oper} {o : Oper} {a : Act} {Q : Exit → Act → World → Prop} {Kc : Act → World → Prop} {α : Type}
theorem LQ.append (hR : Stay R) (k : Kd α) {e2 : Nat} {x : Value} {xs : List α} (h : LQ (OwnK k e2 w0.heap.size x xs R) w0 w v m)
    (hw : Region.wanted o (yielded ops a.tmps) = true) (s x2 : Operand) (t : TypeId) (z : Value) (bytes : Nat)
    (ho : o.op = .call { callee := .builtin .append, args := #[s, x2], argTypes := #[t, t] })
    (ht : Try.prog.underlying t = some (.slice e2)) (hinfo : (Try.prog.info? e2).map (fun i => (i.zero, i.size, i.bytes)) = some (some z, k.sz, bytes)) (hz : z.cells.size = k.sz) (hs0 : 0 < k.sz) (hb0 : 0 < bytes)
    {Rr : α → List Value → Prop} (g : Nat) (y : α) (hs : a.eval s = x) (hx : a.eval x2 = .slice (some ⟨g, 0, none⟩) 1 1) (HR : ReadsRow Rr k.sz w (some ⟨g, 0, none⟩) 1 [y]) (hKM : ∀ q cs, Rr q cs → k.M w w0.heap.size (fun _ => False) q cs)
    (hl : (xs.length + 1) * bytes ≤ 140737488355328)
    (hc : ∀ x' w1, LQ (OwnK k e2 w0.heap.size x' (xs ++ [y]) R) w0 w1 v m → Below w0.heap.size w0 w1 → Kc (a.put o.dst x') w1) :
    if Region.wanted o (yielded ops a.tmps) = true then Oper.wp Try.prog o a w Kc Q else Kc (a.put o.dst undef) w := by
  obtain ⟨PT, h1, ⟨Q1, h2, h3⟩, h4⟩ := h
  refine Kd.R_append_rows_step k (w0 := w0) w0.heap.size hw s x2 t e2 z bytes ho ht hinfo hz hs0 hb0 x xs [y] _ 1 1 (fun j => (¬ PT j ∧ Q1 j) ∨ w.heap.size ≤ j) (fun _ => False) hs hx (Kd.R_mono h2 (fun j hj => .inl hj)) HR hKM (fun _ hk => hk.elim) (fun j hj => .inr hj) h4 h4.size hl ?_
  intro v1 w1 g1 g2 g3 g4
  have own : ∀ j, some j = x.ownBlock → ¬ PT j ∧ Q1 j := fun j hj => h2.1 j hj.symm
  have hk : Kept w w1 (fun j => some j = x.ownBlock) := ⟨g3.size, fun j hl hn => g3.block j hl hn⟩
  refine hc v1 w1 ⟨fun j => PT j ∧ j < w.heap.size, QR_mono (QR_keptB (QR_bound h1) hk (fun j hj he => (own j he).1 hj.1)) (fun j hj => ⟨hj.1.1, hj.2.2⟩), ⟨fun j => (¬ PT j ∧ Q1 j) ∨ w.heap.size ≤ j, Kd.R_mono g1 (fun j hj => ⟨?_, hj⟩), hR.mono (hR.kept h3 hk (fun j hj he => hj.2 (own j he).2)) (fun j hj => ⟨fun h => hj.1.1 h.1, ?_⟩)⟩, g2⟩ g2
  · rcases hj with hj | hj
    · exact fun h => hj.1 h.1
    · exact fun h => by have := h.2; omega
  · rintro (h | h)
    · exact hj.1.2 h.2
    · have := hj.2.2; omega
end
end
end Go.Proofs.Ytofhgmdehglhgaa.PAll
namespace Go.Proofs.Ytofhgmdehglhgaa.PAll
open Go.RowKit Go.Proofs.YtofhgmdehglhgaaW.PrintWords Go.Proofs.YtofhgmdehglhgaaW.PrintLast Go.Proofs.YtofhgmdehglhgaaW.PrintMore
set_option linter.unusedVariables false
set_option linter.unusedSimpArgs false
attribute [local irreducible] Calls

/-- The distances and the arcs in boxes that the closure holds, the queue's box, and X apart from them. -/
def RX (b : Nat) (gd cd gv cv n : Nat) (dl vl : List Int) (g1 g2 g3 : Nat) (q : Value) (X : Apart) : Apart :=
  OwnK (Kd.int .i64) 3 b (.slice (some ⟨gd, 0, none⟩) n cd) dl (OwnK (Kd.int .i64) 3 b (.slice (some ⟨gv, 0, none⟩) n cv) vl (AndT (AndT (AndT X g1 (.slice (some ⟨gd, 0, none⟩) n cd) 25) g2 (.slice (some ⟨gv, 0, none⟩) n cv) 25) g3 q 66))
theorem stay_rx {b gd cd gv cv n g1 g2 g3 : Nat} {dl vl : List Int} {q : Value} {X : Apart} (hX : Stay X) : Stay (RX b gd cd gv cv n dl vl g1 g2 g3 q X) :=
  stay_own _ _ _ _ _ (stay_own _ _ _ _ _ (stay_andT (stay_andT (stay_andT hX _ _ _) _ _ _) _ _ _))
/-- What a walk reads of it. -/
structure RXf (w w0 : World) (gd cd gv cv n : Nat) (dl vl : List Int) (g1 g2 g3 : Nat) (q : Value) : Prop where
  b1 : w.cell? ⟨g1, 0, none⟩ = some (.slice (some ⟨gd, 0, none⟩) n cd)
  b2 : w.cell? ⟨g2, 0, none⟩ = some (.slice (some ⟨gv, 0, none⟩) n cv)
  b3 : w.cell? ⟨g3, 0, none⟩ = some q
  ne : gd ≠ gv ∧ g1 ≠ gd ∧ g1 ≠ gv ∧ g2 ≠ gd ∧ g2 ≠ gv ∧ g3 ≠ gd ∧ g3 ≠ gv
  ld : n = dl.length
  lv : n = vl.length
  rd_ : ∀ i : Int, 0 ≤ i → i < n → w.cell? ⟨gd, i.toNat, none⟩ = some (.int .i64 (rd dl i)) ∧ w.frozen? ⟨gd, i.toNat, none⟩ = false
  rv_ : ∀ i : Int, 0 ≤ i → i < n → w.cell? ⟨gv, i.toNat, none⟩ = some (.int .i64 (rd vl i)) ∧ w.frozen? ⟨gv, i.toNat, none⟩ = false
section
variable {w0 w : World} {v : Value} {m : List (Option Int)} {b gd cd gv cv n g1 g2 g3 : Nat} {dl vl : List Int} {q : Value} {X : Apart}
theorem LQ.rxf (h : LQ (RX w0.heap.size gd cd gv cv n dl vl g1 g2 g3 q X) w0 w v m) : RXf w w0 gd cd gv cv n dl vl g1 g2 g3 q := by
  obtain ⟨PT, h1, ⟨Q1, h2, Q2, h3, ⟨⟨⟨_, p1, c1⟩, p2, c2⟩, p3, c3⟩⟩, h5⟩ := h
  have o1 := h2.1 gd rfl
  have o2 := h3.1 gv rfl
  refine ⟨(blk_cell c1 0).trans rfl, (blk_cell c2 0).trans rfl, (blk_cell c3 0).trans rfl, ⟨?_, ?_, ?_, ?_, ?_, ?_, ?_⟩, (Kd.R_reads' h2).1, (Kd.R_reads' h3).1, fun i h0 h1 => Kd.R_celln 0 h2 i h0 h1, fun i h0 h1 => Kd.R_celln 0 h3 i h0 h1⟩
  · intro e; exact o2.1.2 (e ▸ o1.2)
  · intro e; exact p1.1.1.1.2 (e ▸ o1.2)
  · intro e; exact p1.1.1.2 (e ▸ o2.2)
  · intro e; exact p2.1.1.2 (e ▸ o1.2)
  · intro e; exact p2.1.2 (e ▸ o2.2)
  · intro e; exact p3.1.2 (e ▸ o1.2)
  · intro e; exact p3.2 (e ▸ o2.2)
/-- A cell of the first row is written. -/
theorem LQ.setd {R : Apart} (hR : Stay R) (h : LQ (OwnK (Kd.int .i64) 3 w0.heap.size (.slice (some ⟨gd, 0, none⟩) n cd) dl R) w0 w v m) (i : Int) (x : Int) :
    LQ (OwnK (Kd.int .i64) 3 w0.heap.size (.slice (some ⟨gd, 0, none⟩) n cd) (dl.set i.toNat x) R) w0 (w.setCell ⟨gd, i.toNat, none⟩ (.int .i64 x)) v m := by
  obtain ⟨PT, h1, ⟨Q1, h2, h3⟩, h4⟩ := h
  have o1 := h2.1 gd rfl
  obtain ⟨u1, u2⟩ := Kd.R_putg h2 i x
  have hk : Kept w (w.setCell ⟨gd, i.toNat, none⟩ (.int .i64 x)) (fun j => j = gd) := ⟨u2.size, fun j hl hn => u2.block j hl (fun e => hn (by cases e; rfl))⟩
  refine ⟨PT, QR_mono (QR_keptB h1 hk (fun j hj e => o1.1 (by rw [← e]; exact hj))) (fun j hj => hj.1), ⟨Q1, u1, hR.mono (hR.kept h3 hk (fun j hj e => hj.2 (by rw [e]; exact o1.2))) (fun j hj => hj.1)⟩, h4.grown u2 h4.size (fun j e => by cases e; exact (Kd.R_bound h2).1 gd rfl |>.2.1)⟩
end
structure DS where
  d : List Int
  v : List Int
  m : List (Option Int)
def relaxP (s : DS) (v c a : Int) : DS := if c < rd s.d v then ⟨s.d.set v.toNat c, s.v.set v.toNat a, s.m.set v.toNat (some c)⟩ else s
set_option maxHeartbeats 16000000 in
set_option maxRecDepth 1000000 in
theorem relax_calls {w0 w : World} {m : List (Option Int)} {gd cd gv cv n g1 g2 g3 p : Nat} {dl vl : List Int} {X : Apart} (hX : Stay X) (h : LQ (RX w0.heap.size gd cd gv cv n dl vl g1 g2 g3 (.pointer (some ⟨p, 0, none⟩)) X) w0 w (.pointer (some ⟨p, 0, none⟩)) m) (v c a : Int) (hv0 : 0 ≤ v) (hv1 : v < n) (hm : m.length = n) :
    Calls Try.prog 31 #[.int .i64 v, .int .i64 c, .int .i64 a, .pointer (some ⟨g1, 0, none⟩), .pointer (some ⟨g2, 0, none⟩), .pointer (some ⟨g3, 0, none⟩)] w fun e w' => e = .returned (.tuple #[]) ∧ LQ (RX w0.heap.size gd cd gv cv n (relaxP ⟨dl, vl, m⟩ v c a).d (relaxP ⟨dl, vl, m⟩ v c a).v g1 g2 g3 (.pointer (some ⟨p, 0, none⟩)) X) w0 w' (.pointer (some ⟨p, 0, none⟩)) (relaxP ⟨dl, vl, m⟩ v c a).m := by
  have HQ := Aside0.mk h
  have f := h.rxf
  have b1 := f.b1
  have b2 := f.b2
  have b3 := f.b3
  obtain ⟨n1, n2, n3, n4, n5, n6, n7⟩ := f.ne
  obtain ⟨r0, fz0⟩ := f.rd_ v hv0 hv1
  obtain ⟨r1, fz1⟩ := f.rv_ v hv0 hv1
  clear h f
  unfold relaxP
  by_cases hc : c < rd dl v
  · rw [if_pos hc]
    have hcb : decide (c < rd dl v) = true := decide_eq_true hc
    have H2 := Aside0.mk (LQ.setd (stay_own _ _ _ _ _ (stay_andT (stay_andT (stay_andT hX _ _ _) _ _ _) _ _ _)) HQ.out v c)
    have H3 := Aside0.mk (LQ.swapK (stay_andT (stay_andT (stay_andT hX _ _ _) _ _ _) _ _ _) H2.out)
    have H4 := Aside0.mk (LQ.setd (stay_own _ _ _ _ _ (stay_andT (stay_andT (stay_andT hX _ _ _) _ _ _) _ _ _)) H3.out v a)
    have H5 := Aside0.mk (LQ.swapK (stay_andT (stay_andT (stay_andT hX _ _ _) _ _ _) _ _ _) H4.out)
    have f2 := (show LQ (RX w0.heap.size gd cd gv cv n (dl.set v.toNat c) vl g1 g2 g3 (.pointer (some ⟨p, 0, none⟩)) X) w0 _ _ _ from H2.out).rxf
    obtain ⟨t1, fz2⟩ := f2.rv_ v hv0 hv1
    clear f2 hc HQ H2 H3 H4
    go_enter Try.func31, Try.ntmps31
    go_wp2
    go_region
    generalize hW1 : ((w.setCell ⟨gd, v.toNat, none⟩ (.int .i64 c)).setCell ⟨gv, v.toNat, none⟩ (.int .i64 a)).drew = W1
    have H6 : Aside0 (LQ (RX w0.heap.size gd cd gv cv n (dl.set v.toNat c) (vl.set v.toNat a) g1 g2 g3 (.pointer (some ⟨p, 0, none⟩)) X) w0 W1 (.pointer (some ⟨p, 0, none⟩)) m) := Aside0.mk (by rw [← hW1]; exact LQ.step_below (stay_rx hX) H5.out (below_drew1 (Below.refl _ _)))
    clear hW1 H5 b1 b2 b3 r0 fz0 r1 fz1 t1 fz2
    have b3 := H6.out.rxf.b3
    have HSet := Aside0.mk (show pq_Queue_Set.f m v c = some (true, m.set v.toNat (some c)) from by unfold pq_Queue_Set.f; rw [if_pos ⟨hv0, by omega⟩])
    go_wp2_with (first
      | (go_at_call 32; refine (LQ_Set (stay_rx hX) H6.out v c true _ HSet.out).mono ?_; rintro e w3 ⟨rfl, hq⟩; have H7 := Aside0.mk hq; clear hq))
    go_end0
    exact ⟨rfl, H7.out⟩
  · rw [if_neg hc]
    have hcb : decide (c < rd dl v) = false := decide_eq_false hc
    clear hc
    go_enter Try.func31, Try.ntmps31
    go_wp2
    go_end0
    exact ⟨rfl, HQ.out⟩
end Go.Proofs.Ytofhgmdehglhgaa.PAll
