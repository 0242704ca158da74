/- A device beside something else: what each method leaves of both; the example of the chapter. -/
import Derived.Test.YtfinlgckalbfoaaDa
namespace Go.Proofs.Ytfinlgckalbfoaa.PAll
open Go.RowKit Go.Proofs.YtfinlgckalbfoaaW.PrintWords Go.Proofs.YtfinlgckalbfoaaW.PrintLast Go.Proofs.YtfinlgckalbfoaaW.PrintMore
set_option linter.unusedVariables false
set_option linter.unusedSimpArgs false
attribute [local irreducible] Calls

/-- Something that lies apart: it stays where its blocks stay. -/
structure Stay (R : World → (Nat → Prop) → Prop) : Prop where
  mono : ∀ {w : World} {ok ok' : Nat → Prop}, R w ok → (∀ k, ok k → ok' k) → R w ok'
  kept : ∀ {w w1 : World} {ok S : Nat → Prop}, R w ok → Kept w w1 S → (∀ k, ok k → ¬ S k) → R w1 (fun k => ok k ∧ (¬ S k ∧ k < w.heap.size))
theorem Stay.below {R : World → (Nat → Prop) → Prop} (hR : Stay R) {w w1 : World} {ok : Nat → Prop} (h : R w ok) (hb : Below w.heap.size w w1) : R w1 (fun k => ok k ∧ k < w.heap.size) :=
  hR.mono (hR.kept (S := fun _ => False) h ⟨hb.size, fun k hk _ => hb.block k hk⟩ (fun _ _ h => h)) (fun k hk => ⟨hk.1, hk.2.2⟩)
/-- A device, and R apart from it. -/
def LD (R : World → (Nat → Prop) → Prop) (w0 w : World) (v : Value) (d : Dv) : Prop :=
  ∃ PT : Nat → Prop, DR w w0.heap.size PT v d ∧ R w (fun k => ¬ PT k) ∧ Below w0.heap.size w0 w
section
variable {R : World → (Nat → Prop) → Prop} {w0 w : World} {v : Value} {d : Dv}
theorem LD.after (hR : Stay R) {PT : Nat → Prop} (hr : R w (fun k => ¬ PT k)) {w' : World} {d2 : Dv} (h1 : DR w' w0.heap.size (fun k_ => (PT k_ ∨ w.heap.size ≤ k_)) v d2) (h2 : Below w0.heap.size w0 w') (h3 : Kept w w' (fun k_ => PT k_)) : LD R w0 w' v d2 :=
  ⟨_, h1, hR.mono (hR.kept hr h3 (fun k hk => hk)) (fun k hk h => h.elim hk.1 (fun h => by have := hk.2.2; omega)), h2⟩
theorem LD.step_below (hR : Stay R) (h : LD R w0 w v d) {w' : World} (hb : Below w.heap.size w w') : LD R w0 w' v d := by
  obtain ⟨PT, h1, h2, h3⟩ := h
  exact ⟨fun k => PT k ∧ k < w.heap.size, DR_below (DR_mono (DR_bound h1) (fun k hk => ⟨hk.1, hk.2.2⟩)) hb, hR.mono (hR.below h2 hb) (fun k hk h => hk.1 h.1), below_then h3 h3.size hb⟩
theorem LD.drewN (hR : Stay R) (h : LD R w0 w v d) (n : Nat) : LD R w0 (w.drewN n) v d := h.step_below hR (pw_below_drewN (Below.refl _ _) n)
theorem LD.below (h : LD R w0 w v d) : Below w0.heap.size w0 w := by
  obtain ⟨PT, h1, h2, h3⟩ := h
  exact h3
theorem LD.ptr (h : LD R w0 w v d) : ∃ p, v = .pointer (some ⟨p, 0, none⟩) := by
  obtain ⟨PT, h1, h2, h3⟩ := h
  exact DR_ptr h1
theorem LD.good (h : LD R w0 w v d) : DGood d := by
  obtain ⟨PT, h1, h2, h3⟩ := h
  exact h1.1
theorem LD_Write (hR : Stay R) (h : LD R w0 w v d) (hll : d.log.length < 1000000) (i : Int) (s : ByteArray) (r : Int) (d2 : Dv) (hf : dvWrite d i s = (r, d2)) :
    Calls Try.prog 10 #[v, .int .i64 i, .string s] w fun e w' => e = .returned (.int .i64 r) ∧ LD R w0 w' v d2 := by
  obtain ⟨PT, h1, h2, h3⟩ := h
  exact (dev_Write h3 h1 hll i s r d2 hf).mono fun e w' ⟨g1, g2, g3, g4⟩ => ⟨g1, LD.after hR h2 g2 g3 g4⟩
theorem LD_Limit (hR : Stay R) (h : LD R w0 w v d) (n : Int) :
    Calls Try.prog 9 #[v, .int .i64 n] w fun e w' => e = .returned (.tuple #[]) ∧ LD R w0 w' v (dvLimit d n) := by
  obtain ⟨PT, h1, h2, h3⟩ := h
  refine (dev_Limit h1 n).mono fun e w' ⟨g1, g2, g3⟩ => ⟨g1, ?_⟩
  obtain ⟨g4, g5⟩ := g3 w0 w (fun k => PT k) rfl (fun k hk => .inl hk)
  exact LD.after hR h2 (DR_mono g2 (fun k hk => .inl hk)) (g4 h3) (g5 (Kept.refl _ _))
theorem LD_Read (hR : Stay R) (h : LD R w0 w v d) (i : Int) (r1 : ByteArray) (r2 : Int) (hf : dvRead d i = (r1, r2)) :
    Calls Try.prog 16 #[v, .int .i64 i] w fun e w' => e = .returned (.tuple #[.string r1, .int .i64 r2]) ∧ ∃ n, w' = w.drewN n := by
  obtain ⟨PT, h1, h2, h3⟩ := h
  exact (dev_Read h1 i r1 r2 hf).mono fun e w' ⟨g1, g2⟩ => ⟨g1, g2.out⟩
theorem LD_Blocks (h : LD R w0 w v d) (r : Int) (hf : (d.now.length : Int) = r) :
    Calls Try.prog 20 #[v] w fun e w' => e = .returned (.int .i64 r) ∧ ∃ n, w' = w.drewN n := by
  obtain ⟨PT, h1, h2, h3⟩ := h
  subst hf
  exact (dev_Blocks h1).mono fun e w' ⟨g1, g2⟩ => ⟨g1, g2.out⟩
theorem LD_Writes (h : LD R w0 w v d) (r : Int) (hf : (d.log.length : Int) = r) :
    Calls Try.prog 12 #[v] w fun e w' => e = .returned (.int .i64 r) ∧ ∃ n, w' = w.drewN n := by
  obtain ⟨PT, h1, h2, h3⟩ := h
  subst hf
  exact (dev_Writes h1).mono fun e w' ⟨g1, g2⟩ => ⟨g1, g2.out⟩
/-- After: the new device in the old one's place. -/
theorem LD_After (hR : Stay R) (h : LD R w0 w v d) (n : Int) :
    Calls Try.prog 11 #[v, .int .i64 n] w fun e w' => ∃ p : Nat, e = .returned (.pointer (some ⟨p, 0, none⟩)) ∧ LD R w0 w' (.pointer (some ⟨p, 0, none⟩)) (dvAfter d n) := by
  obtain ⟨PT, h1, h2, h3⟩ := h
  refine (dev_After h1 n).mono fun e w' ⟨v2, g1, g2, g3⟩ => ?_
  obtain ⟨p, rfl⟩ := DR_ptr g2
  exact ⟨p, g1, fun k => w.heap.size ≤ k, DR_lower (DR_mono (DR_bound g2) (fun k hk => hk.2.1)) h3.size, hR.mono (hR.below h2 g3) (fun k hk h => by have := hk.2; omega), below_then h3 h3.size g3⟩
/-- Another device apart. -/
def Dev2 (base : Nat) (v : Value) (d : Dv) (R : World → (Nat → Prop) → Prop) (w : World) (ok : Nat → Prop) : Prop := ∃ Q : Nat → Prop, DR w base (fun k => ok k ∧ Q k) v d ∧ R w (fun k => ok k ∧ ¬ Q k)
theorem stay_dev2 (hR : Stay R) (base : Nat) (v : Value) (d : Dv) : Stay (Dev2 base v d R) :=
  ⟨fun ⟨Q, h1, h2⟩ hm => ⟨Q, DR_mono h1 (fun k hk => ⟨hm k hk.1, hk.2⟩), hR.mono h2 (fun k hk => ⟨hm k hk.1, hk.2⟩)⟩,
   fun ⟨Q, h1, h2⟩ hk hs => ⟨Q, DR_mono (DR_keptB h1 hk (fun k h => hs k h.1)) (fun k h => ⟨⟨h.1.1, h.2⟩, h.1.2⟩), hR.mono (hR.kept h2 hk (fun k h => hs k h.1)) (fun k h => ⟨⟨h.1.1, h.2⟩, h.1.2⟩)⟩⟩
/-- After: the new device beside the old one. -/
theorem LD_After2 (hR : Stay R) (h : LD R w0 w v d) (n : Int) :
    Calls Try.prog 11 #[v, .int .i64 n] w fun e w' => ∃ p : Nat, e = .returned (.pointer (some ⟨p, 0, none⟩)) ∧ LD (Dev2 w0.heap.size (.pointer (some ⟨p, 0, none⟩)) (dvAfter d n) R) w0 w' v d := by
  obtain ⟨PT, h1, h2, h3⟩ := h
  refine (dev_After h1 n).mono fun e w' ⟨v2, g1, g2, g3⟩ => ?_
  obtain ⟨p, rfl⟩ := DR_ptr g2
  exact ⟨p, g1, fun k => PT k ∧ k < w.heap.size, DR_below (DR_mono (DR_bound h1) (fun k hk => ⟨hk.1, hk.2.2⟩)) g3, ⟨fun k => w.heap.size ≤ k, DR_lower (DR_mono (DR_bound g2) (fun k hk => ⟨fun h => by have := h.2; have := hk.2.1; omega, hk.2.1⟩)) h3.size, hR.mono (hR.below h2 g3) (fun k hk => ⟨fun h => hk.1 h.1, by have := hk.2; omega⟩)⟩, below_then h3 h3.size g3⟩
/-- The two devices exchanged. -/
theorem LD.turn {v2 : Value} {d2 : Dv} (hR : Stay R) (h : LD (Dev2 w0.heap.size v2 d2 R) w0 w v d) : LD (Dev2 w0.heap.size v d R) w0 w v2 d2 := by
  obtain ⟨PT, h1, ⟨Q, h2, h4⟩, h3⟩ := h
  exact ⟨fun k => ¬ PT k ∧ Q k, h2, ⟨PT, DR_mono h1 (fun k hk => ⟨fun h => h.1 hk, hk⟩), hR.mono h4 (fun k hk => ⟨fun h => hk.2 h.2, hk.1⟩)⟩, h3⟩
theorem LD.drop {v2 : Value} {d2 : Dv} (hR : Stay R) (h : LD (Dev2 w0.heap.size v2 d2 R) w0 w v d) : LD R w0 w v d := by
  obtain ⟨PT, h1, ⟨Q, h2, h4⟩, h3⟩ := h
  exact ⟨PT, h1, hR.mono h4 (fun k hk => hk.1), h3⟩
theorem LD_New (hR : Stay R) (hr : R w (fun _ => True)) (hB : Below w0.heap.size w0 w) (n : Nat) (a0 : Int) (ha : a0 = n) (h1 : 1 ≤ n) (h2 : n ≤ 65536) :
    Calls Try.prog 8 #[.int .i64 a0] w fun e w' => ∃ p : Nat, e = .returned (.pointer (some ⟨p, 0, none⟩)) ∧ LD R w0 w' (.pointer (some ⟨p, 0, none⟩)) (dvNew n) := by
  subst ha
  exact (dev_New n h1 h2 w).mono fun e w' ⟨v, g1, g2, g3⟩ => by
    obtain ⟨p, rfl⟩ := DR_ptr g2
    exact ⟨p, g1, fun k => w.heap.size ≤ k, DR_lower (DR_mono (DR_bound g2) (fun k hk => hk.2.1)) hB.size, hR.mono (hR.below hr g3) (fun k hk h => by have := hk.2; omega), below_then hB hB.size g3⟩
/-- A device alone. -/
def Non (_ : World) (_ : Nat → Prop) : Prop := True
theorem stay_non : Stay Non := ⟨fun _ _ => trivial, fun _ _ _ => trivial⟩
end
/-- What a law leaves. -/
def LawPost (w : World) (b : Bool) (e : Ending) (w' : World) : Prop := e = .returned (.bool b) ∧ Below w.heap.size w w'
theorem lv1 : dvWrite (dvLimit (dvNew 2) 1) 1 ⟨#[97, 98]⟩ = (0, ⟨[zB, zB], [(1, padB ⟨#[97, 98]⟩)], [zB, padB ⟨#[97, 98]⟩], true, 0⟩) := by kernel_rfl
theorem lv2 : dvWrite ⟨[zB, zB], [(1, padB ⟨#[97, 98]⟩)], [zB, padB ⟨#[97, 98]⟩], true, 0⟩ 0 ⟨#[99]⟩ = (20, ⟨[zB, zB], [(1, padB ⟨#[97, 98]⟩)], [zB, padB ⟨#[97, 98]⟩], true, 0⟩) := rfl
set_option maxHeartbeats 16000000 in
set_option maxRecDepth 1000000 in
theorem lives.calls (w : World) : Calls Try.prog 7 #[] w (LawPost w true) := by
  have HN := Aside0.mk (LD_New stay_non (w0 := w) (w := w) trivial (Below.refl w.heap.size w) 2 2 rfl (by decide) (by decide))
  obtain ⟨blk, hblk⟩ : ∃ blk, blk = padB ⟨#[97, 98]⟩ := ⟨_, rfl⟩
  have hs : blk.size = 64 := by rw [hblk]; decide
  have he : blk.extract 0 3 = ⟨#[97, 98, 0]⟩ := by rw [hblk]; decide
  have HA := Aside0.mk (show (dvLimit (dvNew 2) 1).log.length < 1000000 from by decide)
  have HB := Aside0.mk (show (⟨[zB, zB], [(1, blk)], [zB, blk], true, 0⟩ : Dv).log.length < 1000000 from by simp)
  have HW1 := Aside0.mk lv1
  have HW2 := Aside0.mk lv2
  rw [← hblk] at HW1 HW2
  clear hblk
  go_enter Try.func7, Try.ntmps7
  go_wp2_with (first
    | (go_at_call 8; with_reducible refine (HN.out).mono ?_; rintro e w1 ⟨p, rfl, h1⟩; have HQ := Aside0.mk h1; clear h1)
    | (go_at_call 8; with_reducible refine (dev_New_nil 0 (by decide) _).mono ?_; rintro e w2 ⟨rfl, h⟩; obtain ⟨nq, rfl⟩ := h.out; have HQ2 := Aside0.mk (LD.drewN stay_non HQ.out nq); clear HQ; have HQ := HQ2; clear HQ2 h)
    | (go_at_call 9; with_reducible refine (LD_Limit stay_non HQ.out 1).mono ?_; rintro e w2 ⟨rfl, h⟩; have HQ2 := Aside0.mk h; clear h HQ)
    | (go_at_call 10; with_reducible refine (LD_Write stay_non HQ2.out HA.out 1 _ _ _ HW1.out).mono ?_; rintro e w2 ⟨rfl, h⟩; have HQ3 := Aside0.mk h; clear h HQ2)
    | (go_at_call 10; with_reducible refine (LD_Write stay_non HQ3.out HB.out 0 _ _ _ HW2.out).mono ?_; rintro e w2 ⟨rfl, h⟩; have HQ4 := Aside0.mk h; clear h HQ3)
    | (go_at_call 16; with_reducible refine (LD_Read stay_non HQ4.out 1 blk 0 rfl).mono ?_; rintro e w2 ⟨rfl, nq, rfl⟩; have HQ5 := Aside0.mk (LD.drewN stay_non HQ4.out nq); clear HQ4)
    | (go_at_call 12; with_reducible refine (LD_Writes HQ5.out 1 rfl).mono ?_; rintro e w2 ⟨rfl, nq, rfl⟩; have HQ6 := Aside0.mk (LD.drewN stay_non HQ5.out nq); clear HQ5))
  go_ret
  exact ⟨by first | rfl | (simp; done), by have h := HQ6.out.below; first | exact h | simpa using h⟩
end Go.Proofs.Ytfinlgckalbfoaa.PAll
