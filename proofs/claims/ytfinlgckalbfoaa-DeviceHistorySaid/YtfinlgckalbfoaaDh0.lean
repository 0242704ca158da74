/- Rows of one's own, and rows just made, beside a device. -/
import Derived.Test.YtfinlgckalbfoaaDp
namespace Go.Proofs.Ytfinlgckalbfoaa.PAll
open Go.RowKit Go.Proofs.YtfinlgckalbfoaaW.PrintWords Go.Proofs.YtfinlgckalbfoaaW.PrintLast Go.Proofs.YtfinlgckalbfoaaW.PrintMore
set_option linter.unusedVariables false
set_option linter.unusedSimpArgs false
attribute [local irreducible] Calls

/-- A row of one's own, apart from the rest. -/
def OwnK {α : Type} (d : Kd α) (e b : Nat) (v : Value) (xs : List α) (R : Apart) : Apart := fun w ok => ∃ Q : Nat → Prop, d.R e w b (fun k => ok k ∧ Q k) v xs ∧ R w (fun k => ok k ∧ ¬ Q k)
/-- A block of one cell, apart from the rest. -/
def AndT (R : Apart) (g : Nat) (u : Value) (e : Nat) : Apart := fun w ok => R w (fun k => ok k ∧ k ≠ g) ∧ (ok g ∧ w.heap[g]? = some (.cells #[u] e (0, 0)))
theorem stay_own {α : Type} (d : Kd α) (e b : Nat) (v : Value) (xs : List α) {R : Apart} (hR : Stay R) : Stay (OwnK d e b v xs R) :=
  ⟨fun ⟨Q, h1, h2⟩ hm => ⟨Q, Kd.R_mono h1 (fun k hk => ⟨hm k hk.1, hk.2⟩), hR.mono h2 (fun k hk => ⟨hm k hk.1, hk.2⟩)⟩,
   fun ⟨Q, h1, h2⟩ hk hs => ⟨Q, Kd.R_mono (Kd.R_keptB h1 hk (fun k h => hs k h.1)) (fun k h => ⟨⟨h.1.1, h.2⟩, h.1.2⟩), hR.mono (hR.kept h2 hk (fun k h => hs k h.1)) (fun k h => ⟨⟨h.1.1, h.2⟩, h.1.2⟩)⟩⟩
theorem stay_andT {R : Apart} (hR : Stay R) (g : Nat) (u : Value) (e : Nat) : Stay (AndT R g u e) :=
  ⟨fun h hm => ⟨hR.mono h.1 (fun k hk => ⟨hm k hk.1, hk.2⟩), hm g h.2.1, h.2.2⟩,
   fun h hk hs => ⟨hR.mono (hR.kept h.1 hk (fun k hk => hs k hk.1)) (fun k hk => ⟨⟨hk.1.1, hk.2⟩, hk.1.2⟩), ⟨h.2.1, hs g h.2.1, blk_lt h.2.2⟩, (hk.2 g (blk_lt h.2.2) (hs g h.2.1)).trans h.2.2⟩⟩
section
variable {R R' : Apart} {w0 w w1 : World} {v : Value} {d : Dv} {g : Nat} {u : Value} {e : Nat}
theorem LD.weaken (h : LD R w0 w v d) (hw : ∀ w ok, R w ok → R' w ok) : LD R' w0 w v d := by
  obtain ⟨PT, h1, h2, h3⟩ := h
  exact ⟨PT, h1, hw _ _ h2, h3⟩
theorem LD.allocT (hR : Stay R) (h : LD R w0 w v d) (hb : Below w.heap.size w w1) (hg : g = w.heap.size) (hc : w1.heap[g]? = some (.cells #[u] e (0, 0))) : LD (AndT R g u e) w0 w1 v d := by
  obtain ⟨PT, h1, h2, h3⟩ := h
  exact ⟨fun k => PT k ∧ k < w.heap.size, DR_below (DR_mono (DR_bound h1) (fun k hk => ⟨hk.1, hk.2.2⟩)) hb, ⟨hR.mono (hR.below h2 hb) (fun k hk => ⟨fun h => hk.1 h.1, by have := hk.2; omega⟩), fun h => by have := h.2; omega, hc⟩, below_then h3 h3.size hb⟩
theorem LD.cellT (h : LD (AndT R g u e) w0 w v d) : w.heap[g]? = some (.cells #[u] e (0, 0)) := by
  obtain ⟨PT, h1, h2, h3⟩ := h
  exact h2.2.2
theorem LD.inT {α : Type} {k : Kd α} {e2 : Nat} {x : Value} {xs : List α} (hR : Stay R) (h : LD (AndT (OwnK k e2 w0.heap.size x xs R) g u e) w0 w v d) : LD (OwnK k e2 w0.heap.size x xs (AndT R g u e)) w0 w v d :=
  h.weaken fun w ok ⟨⟨Q, h1, h2⟩, h3, h4⟩ => ⟨fun k => Q k ∧ k ≠ g, Kd.R_mono h1 (fun k hk => ⟨hk.1.1, hk.2, hk.1.2⟩), hR.mono h2 (fun k hk => ⟨⟨hk.1.1, fun h => hk.2 h.1⟩, hk.1.2⟩), ⟨h3, fun h => h.2 rfl⟩, h4⟩
theorem LD.cellT2 {α : Type} {k : Kd α} {e2 : Nat} {x : Value} {xs : List α} (h : LD (OwnK k e2 w0.heap.size x xs (AndT R g u e)) w0 w v d) : w.heap[g]? = some (.cells #[u] e (0, 0)) := by
  obtain ⟨PT, h1, ⟨Q, h4, h5⟩, h3⟩ := h
  exact h5.2.2
theorem LD.outT {α : Type} {k : Kd α} {e2 : Nat} {x : Value} {xs : List α} (hR : Stay R) (h : LD (OwnK k e2 w0.heap.size x xs (AndT R g u e)) w0 w v d) : LD (OwnK k e2 w0.heap.size x xs R) w0 w v d :=
  h.weaken fun w ok ⟨Q, h1, h2⟩ => ⟨Q, h1, hR.mono h2.1 (fun k hk => hk.1)⟩
theorem LD.swapK {α β : Type} {k1 : Kd α} {k2 : Kd β} {e1 e2 : Nat} {x y : Value} {xs : List α} {ys : List β} (hR : Stay R) (h : LD (OwnK k1 e1 w0.heap.size x xs (OwnK k2 e2 w0.heap.size y ys R)) w0 w v d) : LD (OwnK k2 e2 w0.heap.size y ys (OwnK k1 e1 w0.heap.size x xs R)) w0 w v d :=
  h.weaken fun w ok ⟨Q1, h1, Q2, h2, h3⟩ => ⟨fun k => ¬ Q1 k ∧ Q2 k, Kd.R_mono h2 (fun k hk => ⟨hk.1.1, hk.1.2, hk.2⟩), Q1, Kd.R_mono h1 (fun k hk => ⟨⟨hk.1, fun h => h.1 hk.2⟩, hk.2⟩), hR.mono h3 (fun k hk => ⟨⟨hk.1.1, fun h => hk.2 h.2⟩, hk.1.2⟩)⟩
theorem LD.rowK {α : Type} {k : Kd α} {e2 : Nat} {x : Value} {xs : List α} (h : LD (OwnK k e2 w0.heap.size x xs R) w0 w v d) : ∃ ok, k.R e2 w w0.heap.size ok x xs := by
  obtain ⟨PT, h1, ⟨Q, h4, h5⟩, h3⟩ := h
  exact ⟨_, h4⟩
theorem LD.rowK2 {α β : Type} {k1 : Kd α} {k2 : Kd β} {e1 e2 : Nat} {x y : Value} {xs : List α} {ys : List β} (h : LD (OwnK k1 e1 w0.heap.size x xs (OwnK k2 e2 w0.heap.size y ys R)) w0 w v d) : ∃ ok, k2.R e2 w w0.heap.size ok y ys := by
  obtain ⟨PT, h1, ⟨Q, h4, Q2, h5, h6⟩, h3⟩ := h
  exact ⟨_, h5⟩
theorem read_one {α : Type} {enc : α → Value} {g : Nat} {x : α} (hg : w.heap[g]? = some (.cells #[enc x] e (0, 0))) : ReadsRow (fun (q : α) cs => cs = [enc q]) 1 w (some ⟨g, 0, none⟩) 1 [x] := by
  refine ⟨rfl, by decide, fun _ => ⟨⟨g, 0, none⟩, rfl, fun j p hj => ?_⟩⟩
  cases j with
  | zero =>
    cases hj
    refine ⟨[enc x], rfl, rfl, fun i u hu => ?_⟩
    cases i with
    | zero =>
      cases hu
      exact (blk_cell hg 0).trans rfl
    | succ i => simp at hu
  | succ j => simp at hj
section
variable {P : Program} {ops : Array Oper} {o : Oper} {a : Act} {Q : Exit → Act → World → Prop} {Kc : Act → World → Prop} {α : Type}
theorem LD.append (hR : Stay R) (k : Kd α) {e2 : Nat} {x : Value} {xs : List α} (h : LD (OwnK k e2 w0.heap.size x xs R) w0 w v d)
    (hw : Region.wanted o (yielded ops a.tmps) = true) (s x2 : Operand) (t : TypeId) (z : Value) (bytes : Nat)
    (ho : o.op = .call { callee := .builtin .append, args := #[s, x2], argTypes := #[t, t] })
    (ht : Try.prog.underlying t = some (.slice e2)) (hinfo : (Try.prog.info? e2).map (fun i => (i.zero, i.size, i.bytes)) = some (some z, k.sz, bytes)) (hz : z.cells.size = k.sz) (hs0 : 0 < k.sz) (hb0 : 0 < bytes)
    {Rr : α → List Value → Prop} (g : Nat) (y : α) (hs : a.eval s = x) (hx : a.eval x2 = .slice (some ⟨g, 0, none⟩) 1 1) (HR : ReadsRow Rr k.sz w (some ⟨g, 0, none⟩) 1 [y]) (hKM : ∀ q cs, Rr q cs → k.M w w0.heap.size (fun _ => False) q cs)
    (hl : (xs.length + 1) * bytes ≤ 140737488355328)
    (hc : ∀ x' w1, LD (OwnK k e2 w0.heap.size x' (xs ++ [y]) R) w0 w1 v d → Below w0.heap.size w0 w1 → Kc (a.put o.dst x') w1) :
    if Region.wanted o (yielded ops a.tmps) = true then Oper.wp Try.prog o a w Kc Q else Kc (a.put o.dst undef) w := by
  obtain ⟨PT, h1, ⟨Q1, h2, h3⟩, h4⟩ := h
  refine Kd.R_append_rows_step k (w0 := w0) w0.heap.size hw s x2 t e2 z bytes ho ht hinfo hz hs0 hb0 x xs [y] _ 1 1 (fun j => (¬ PT j ∧ Q1 j) ∨ w.heap.size ≤ j) (fun _ => False) hs hx (Kd.R_mono h2 (fun j hj => .inl hj)) HR hKM (fun _ hk => hk.elim) (fun j hj => .inr hj) h4 h4.size hl ?_
  intro v1 w1 g1 g2 g3 g4
  have own : ∀ j, some j = x.ownBlock → ¬ PT j ∧ Q1 j := fun j hj => h2.1 j hj.symm
  have hk : Kept w w1 (fun j => some j = x.ownBlock) := ⟨g3.size, fun j hl hn => g3.block j hl hn⟩
  refine hc v1 w1 ⟨fun j => PT j ∧ j < w.heap.size, DR_mono (DR_keptB (DR_bound h1) hk (fun j hj he => (own j he).1 hj.1)) (fun j hj => ⟨hj.1.1, hj.2.2⟩), ⟨fun j => (¬ PT j ∧ Q1 j) ∨ w.heap.size ≤ j, Kd.R_mono g1 (fun j hj => ⟨?_, hj⟩), hR.mono (hR.kept h3 hk (fun j hj he => hj.2 (own j he).2)) (fun j hj => ⟨fun h => hj.1.1 h.1, ?_⟩)⟩, g2⟩ g2
  · rcases hj with hj | hj
    · exact fun h => hj.1 h.1
    · exact fun h => by have := h.2; omega
  · rintro (h | h)
    · exact hj.1.2 h.2
    · have := hj.2.2; omega
end
end
end Go.Proofs.Ytfinlgckalbfoaa.PAll
