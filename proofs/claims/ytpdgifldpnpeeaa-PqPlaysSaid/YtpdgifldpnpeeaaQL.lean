/- A queue beside something else: what each method leaves of both; the example of the chapter. -/
import Derived.Test.YtpdgifldpnpeeaaQN
namespace Go.Proofs.Ytpdgifldpnpeeaa.PAll
open Go.RowKit Go.Proofs.YtpdgifldpnpeeaaW.PrintWords Go.Proofs.YtpdgifldpnpeeaaW.PrintLast Go.Proofs.YtpdgifldpnpeeaaW.PrintMore
set_option linter.unusedVariables false
set_option linter.unusedSimpArgs false
attribute [local irreducible] Calls

/-- Something that lies apart: it stays where its blocks stay. -/
structure Stay (R : World → (Nat → Prop) → Prop) : Prop where
  mono : ∀ {w : World} {ok ok' : Nat → Prop}, R w ok → (∀ k, ok k → ok' k) → R w ok'
  kept : ∀ {w w1 : World} {ok S : Nat → Prop}, R w ok → Kept w w1 S → (∀ k, ok k → ¬ S k) → R w1 (fun k => ok k ∧ (¬ S k ∧ k < w.heap.size))
/-- A queue, and R apart from it. -/
def LQ (R : World → (Nat → Prop) → Prop) (w0 w : World) (v : Value) (m : List (Option Int)) : Prop :=
  ∃ PT : Nat → Prop, QR w w0.heap.size PT v m ∧ R w (fun k => ¬ PT k) ∧ Below w0.heap.size w0 w
section
variable {R : World → (Nat → Prop) → Prop} {w0 w : World} {v : Value} {m : List (Option Int)}
theorem LQ.after (hR : Stay R) {PT : Nat → Prop} (hr : R w (fun k => ¬ PT k)) {w' : World} {m2 : List (Option Int)} (h1 : QR w' w0.heap.size (fun k_ => (PT k_ ∨ w.heap.size ≤ k_)) v m2) (h2 : Below w0.heap.size w0 w') (h3 : Kept w w' (fun k_ => PT k_)) : LQ R w0 w' v m2 :=
  ⟨_, h1, hR.mono (hR.kept hr h3 (fun k hk => hk)) (fun k hk h => h.elim hk.1 (fun h => by have := hk.2.2; omega)), h2⟩
theorem LQ.drewN (hR : Stay R) (h : LQ R w0 w v m) (n : Nat) : LQ R w0 (w.drewN n) v m := by
  obtain ⟨PT, h1, h2, h3⟩ := h
  exact ⟨PT, QR_drewN h1 n, hR.mono (hR.kept (S := fun _ => False) h2 ((Kept.refl w _).drewN n) (fun _ _ h => h)) (fun k hk => hk.1), pw_below_drewN h3 n⟩
theorem LQ.below (h : LQ R w0 w v m) : Below w0.heap.size w0 w := by
  obtain ⟨PT, h1, h2, h3⟩ := h
  exact h3
theorem LQ_Set (hR : Stay R) (h : LQ R w0 w v m) (a1 a2 : Int) (r1 : Bool) (r2 : List (Option Int)) (hf : pq_Queue_Set.f m a1 a2 = some (r1, r2)) :
    Calls Try.prog 10 #[v, .int .i64 a1, .int .i64 a2] w fun e w' => e = .returned (.bool r1) ∧ LQ R w0 w' v r2 := by
  obtain ⟨PT, h1, h2, h3⟩ := h
  exact (pq_Queue_Set.calls PT v m a1 a2 r1 r2 w0 w h3 h1 hf).mono fun e w' ⟨g1, g2, g3, g4⟩ => ⟨g1, LQ.after hR h2 g2 g3 g4⟩
theorem LQ_Drop (hR : Stay R) (h : LQ R w0 w v m) (a1 : Int) (r1 : Bool) (r2 : List (Option Int)) (hf : pq_Queue_Drop.f m a1 = some (r1, r2)) :
    Calls Try.prog 13 #[v, .int .i64 a1] w fun e w' => e = .returned (.bool r1) ∧ LQ R w0 w' v r2 := by
  obtain ⟨PT, h1, h2, h3⟩ := h
  exact (pq_Queue_Drop.calls PT v m a1 r1 r2 w0 w h3 h1 hf).mono fun e w' ⟨g1, g2, g3, g4⟩ => ⟨g1, LQ.after hR h2 g2 g3 g4⟩
theorem LQ_Pop (hR : Stay R) (h : LQ R w0 w v m) (r1 r2 : Int) (r3 : Bool) (r4 : List (Option Int)) (hf : pq_Queue_Pop.f m = some (r1, r2, r3, r4)) :
    Calls Try.prog 11 #[v] w fun e w' => e = .returned (.tuple #[.int .i64 r1, .int .i64 r2, .bool r3]) ∧ LQ R w0 w' v r4 := by
  obtain ⟨PT, h1, h2, h3⟩ := h
  exact (pq_Queue_Pop.calls PT v m r1 r2 r3 r4 w0 w h3 h1 hf).mono fun e w' ⟨g1, g2, g3, g4⟩ => ⟨g1, LQ.after hR h2 g2 g3 g4⟩
theorem LQ_Len (hR : Stay R) (h : LQ R w0 w v m) (r : Int) (hf : (cnt m : Int) = r) :
    Calls Try.prog 12 #[v] w fun e w' => e = .returned (.int .i64 r) ∧ ∃ n, w' = w.drewN n := by
  obtain ⟨PT, h1, h2, h3⟩ := h
  exact (pq_Queue_Len.calls m r w h1 (by unfold pq_Queue_Len.f; rw [hf])).mono fun e w' ⟨g1, g2⟩ => ⟨g1, g2.out⟩
theorem LQ_Key (hR : Stay R) (h : LQ R w0 w v m) (a1 r1 : Int) (r2 : Bool) (hf : pq_Queue_Key.f m a1 = some (r1, r2)) :
    Calls Try.prog 16 #[v, .int .i64 a1] w fun e w' => e = .returned (.tuple #[.int .i64 r1, .bool r2]) ∧ ∃ n, w' = w.drewN n := by
  obtain ⟨PT, h1, h2, h3⟩ := h
  exact (pq_Queue_Key.calls m a1 r1 r2 w h1 hf).mono fun e w' ⟨g1, g2⟩ => ⟨g1, g2.out⟩
theorem LQ_New (hB : Below w0.heap.size w0 w) (a0 : Int) (r : List (Option Int)) (hf : pq_New.f a0 = some r) :
    Calls Try.prog 9 #[.int .i64 a0] w fun e w' => ∃ p : Nat, e = .returned (.pointer (some ⟨p, 0, none⟩)) ∧ QR w' w0.heap.size (fun k => w.heap.size ≤ k) (.pointer (some ⟨p, 0, none⟩)) r ∧ Below w.heap.size w w' ∧ Below w0.heap.size w0 w' :=
  (pq_New.calls a0 r w hf).mono fun e w' ⟨v, g1, g2, g3⟩ => by
    obtain ⟨p, rfl⟩ := QR_ptr g2
    exact ⟨p, g1, QR_lower (QR_mono (QR_bound g2) (fun k hk => hk.2.1)) hB.size, g3, below_step hB g3⟩
/-- A queue alone. -/
def Non (_ : World) (_ : Nat → Prop) : Prop := True
theorem stay_non : Stay Non := ⟨fun _ _ => trivial, fun _ _ _ => trivial⟩
end

/-- What a law leaves. -/
def LawPost (w : World) (b : Bool) (e : Ending) (w' : World) : Prop := e = .returned (.bool b) ∧ Below w.heap.size w w'

set_option maxHeartbeats 16000000 in
set_option maxRecDepth 1000000 in
theorem lives.calls (w : World) : Calls Try.prog 8 #[] w (LawPost w true) := by
  have HN := Aside0.mk (LQ_New (Below.refl w.heap.size w) 3 [none, none, none] rfl)
  go_enter Try.func8, Try.ntmps8
  go_wp2_with (first
    | (go_at_call 9; refine (HN.out).mono ?_; rintro e w1 ⟨p, rfl, h1, _, h3⟩; have HQ := Aside0.mk (show LQ Non w w1 (.pointer (some ⟨p, 0, none⟩)) [none, none, none] from ⟨_, h1, trivial, h3⟩); clear h1 h3)
    | (go_at_call 10; (with_reducible refine (LQ_Set stay_non HQ.out 2 5 true [none, none, some 5] (by decide)).mono ?_); rintro e w2 ⟨rfl, h⟩; have HQ2 := Aside0.mk h; clear h HQ; have HQ := HQ2; clear HQ2)
    | (go_at_call 10; (with_reducible refine (LQ_Set stay_non HQ.out 0 5 true [some 5, none, some 5] (by decide)).mono ?_); rintro e w2 ⟨rfl, h⟩; have HQ2 := Aside0.mk h; clear h HQ; have HQ := HQ2; clear HQ2)
    | (go_at_call 10; (with_reducible refine (LQ_Set stay_non HQ.out 1 9 true [some 5, some 9, some 5] (by decide)).mono ?_); rintro e w2 ⟨rfl, h⟩; have HQ2 := Aside0.mk h; clear h HQ; have HQ := HQ2; clear HQ2)
    | (go_at_call 10; (with_reducible refine (LQ_Set stay_non HQ.out 1 1 true [some 5, some 1, some 5] (by decide)).mono ?_); rintro e w2 ⟨rfl, h⟩; have HQ2 := Aside0.mk h; clear h HQ; have HQ := HQ2; clear HQ2)
    | (go_at_call 10; (with_reducible refine (LQ_Set stay_non HQ.out 3 1 false [some 5, some 1, some 5] (by decide)).mono ?_); rintro e w2 ⟨rfl, h⟩; have HQ2 := Aside0.mk h; clear h HQ; have HQ := HQ2; clear HQ2)
    | (go_at_call 12; (with_reducible refine (LQ_Len (m := [some 5, some 1, some 5]) stay_non HQ.out 3 (by decide)).mono ?_); rintro e w2 ⟨rfl, nq, rfl⟩; have HQ2 := Aside0.mk (LQ.drewN stay_non HQ.out nq); clear HQ; have HQ := HQ2; clear HQ2)
    | (go_at_call 12; (with_reducible refine (LQ_Len (m := [none, none, some 5]) stay_non HQ.out 1 (by decide)).mono ?_); rintro e w2 ⟨rfl, nq, rfl⟩; have HQ2 := Aside0.mk (LQ.drewN stay_non HQ.out nq); clear HQ; have HQ := HQ2; clear HQ2)
    | (go_at_call 11; (with_reducible refine (LQ_Pop (m := [some 5, some 1, some 5]) stay_non HQ.out 1 1 true [some 5, none, some 5] (by decide)).mono ?_); rintro e w2 ⟨rfl, h⟩; have HQ2 := Aside0.mk h; clear h HQ; have HQ := HQ2; clear HQ2)
    | (go_at_call 11; (with_reducible refine (LQ_Pop (m := [some 5, none, some 5]) stay_non HQ.out 0 5 true [none, none, some 5] (by decide)).mono ?_); rintro e w2 ⟨rfl, h⟩; have HQ2 := Aside0.mk h; clear h HQ; have HQ := HQ2; clear HQ2))
  go_ret
  exact ⟨by first | rfl | (simp; done), HQ.out.below⟩
end Go.Proofs.Ytpdgifldpnpeeaa.PAll
