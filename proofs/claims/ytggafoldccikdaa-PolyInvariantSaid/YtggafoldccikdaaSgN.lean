/- Relate, and the reference's. -/
import Derived.Test.YtggafoldccikdaaSgM
import Derived.Test.YtggafoldccikdaaPAllx14
import Derived.Test.YtggafoldccikdaaPAllx15
namespace Go.Proofs.Ytggafoldccikdaa.Sg
open Go.RowKit Go.Proofs.Ytggafoldccikdaa.PAll Go.Proofs.YtggafoldccikdaaW.PrintWords Go.Proofs.YtggafoldccikdaaW.PrintLast Go.Proofs.YtggafoldccikdaaW.PrintMore Go.Proofs.Ytggafoldccikdaa.Bas
set_option linter.unusedVariables false
set_option linter.unusedSimpArgs false

section
variable {a b c d p q : S30}
theorem on_self (ha : vd a) (hb : vd b) : on a a b ∧ on b a b := by
  have h := cr_self (a := a) (b := b)
  unfold crS at h
  unfold on On V3
  refine ⟨⟨⟨ha, ha, hb⟩, h.1, ?_⟩, ⟨⟨hb, ha, hb⟩, h.2, ?_⟩⟩ <;> omega
theorem lt_irr : ¬ ltS a a := by
  unfold ltS lt2
  omega
theorem lt_ne (ha : vd a) (hb : vd b) (h : a ≠ b) : ltS a b ∨ ltS b a := by
  rw [S_ne] at h
  unfold ltS lt2
  omega
/-- The later beginning and the earlier end of two segments in the points' order. -/
theorem flat_cls (ha : vd a) (hb : vd b) (hc : vd c) (hd : vd d) (hab : ltS a b) (hcd : ltS c d) (h1 : crS a b c = 0) (h2 : crS a b d = 0) :
    ∀ lo hi : S30, (ltS a c → lo = c) → (¬ ltS a c → lo = a) → (ltS d b → hi = d) → (¬ ltS d b → hi = b) →
      cls a b c d = if ltS lo hi then 3 else if lo = hi then 1 else 0 := by
  intro lo hi l1 l2 g1 g2
  have nab : a ≠ b := fun e => lt_irr (a := a) (by rw [e] at hab; exact (lt_irr hab).elim)
  have h34 := line_back nab h1 h2
  have ba : ∀ p, End a b c d p → (Both a b c d p ↔ (¬ ltS p a ∧ ¬ ltS b p) ∧ (¬ ltS p c ∧ ¬ ltS d p)) := by
    intro p hp
    have vp : vd p := by rcases hp with h | h | h | h <;> rw [h] <;> assumption
    have z1 : crS a b p = 0 := by
      rcases hp with h | h | h | h <;> rw [h]
      · exact cr_self.1
      · exact cr_self.2
      · exact h1
      · exact h2
    have z2 : crS c d p = 0 := by
      rcases hp with h | h | h | h <;> rw [h]
      · exact h34.1
      · exact h34.2
      · exact cr_self.1
      · exact cr_self.2
    unfold Both
    rw [on_line ha hb vp hab z1, on_line hc hd vp hcd z2]
  have elo : End a b c d lo := by
    unfold End
    by_cases h : ltS a c
    · simp [l1 h]
    · simp [l2 h]
  have ehi : End a b c d hi := by
    unfold End
    by_cases h : ltS d b
    · simp [g1 h]
    · simp [g2 h]
  -- what is on both: from lo to hi
  have hb' : ∀ p, End a b c d p → (Both a b c d p ↔ ¬ ltS p lo ∧ ¬ ltS hi p) := by
    intro p hp
    rw [ba p hp]
    have k1 : (¬ ltS p a ∧ ¬ ltS p c) ↔ ¬ ltS p lo := by
      by_cases h : ltS a c
      · rw [l1 h]
        unfold ltS lt2 at *
        omega
      · rw [l2 h]
        unfold ltS lt2 at *
        omega
    have k2 : (¬ ltS b p ∧ ¬ ltS d p) ↔ ¬ ltS hi p := by
      by_cases h : ltS d b
      · rw [g1 h]
        unfold ltS lt2 at *
        omega
      · rw [g2 h]
        unfold ltS lt2 at *
        omega
    rw [← k1, ← k2]
    constructor
    · rintro ⟨⟨x1, x2⟩, x3, x4⟩
      exact ⟨⟨x1, x3⟩, x2, x4⟩
    · rintro ⟨⟨x1, x3⟩, x2, x4⟩
      exact ⟨⟨x1, x2⟩, x3, x4⟩
  unfold cls
  by_cases h : ltS lo hi
  · have t : Two a b c d := ⟨lo, hi, elo, ehi, fun e => by rw [e] at h; exact lt_irr h, (hb' lo elo).2 ⟨lt_irr, by unfold ltS lt2 at *; omega⟩, (hb' hi ehi).2 ⟨by unfold ltS lt2 at *; omega, lt_irr⟩⟩
    rw [if_pos t, if_pos h]
  · have t : ¬ Two a b c d := by
      rintro ⟨p, q, ep, eq, ne, bp, bq⟩
      have x1 := (hb' p ep).1 bp
      have x2 := (hb' q eq).1 bq
      rw [S_ne] at ne
      unfold ltS lt2 at *
      omega
    rw [if_neg t, if_neg h]
    by_cases e : lo = hi
    · have o : One a b c d := ⟨lo, elo, (hb' lo elo).2 ⟨lt_irr, by rw [← e]; exact lt_irr⟩⟩
      rw [if_pos o, if_pos e]
    · have o : ¬ One a b c d := by
        rintro ⟨p, ep, bp⟩
        have x1 := (hb' p ep).1 bp
        have e' := S_ne.1 e
        unfold ltS lt2 at *
        omega
      rw [if_neg o, if_neg e]
/-- Off one line: no two points in common; one, if an end of one is on the other. -/
theorem off_cls (ha : vd a) (hb : vd b) (hc : vd c) (hd : vd d) (hab : a ≠ b) (hcd : c ≠ d) (h : ¬ (crS a b c = 0 ∧ crS a b d = 0)) :
    cls a b c d = if on c a b ∨ on d a b ∨ on a c d ∨ on b c d then 1 else 0 := by
  have t : ¬ Two a b c d := by
    rintro ⟨p, q, _, _, ne, bp, bq⟩
    exact h (lines hab hcd ne bp.1.2.1 bq.1.2.1 bp.2.2.1 bq.2.2.1)
  unfold cls
  rw [if_neg t]
  have o : One a b c d ↔ (on c a b ∨ on d a b ∨ on a c d ∨ on b c d) := by
    have s1 := on_self ha hb
    have s2 := on_self hc hd
    constructor
    · rintro ⟨p, ep, bp⟩
      rcases ep with e | e | e | e <;> subst e
      · exact .inr (.inr (.inl bp.2))
      · exact .inr (.inr (.inr bp.2))
      · exact .inl bp.1
      · exact .inr (.inl bp.1)
    · rintro (e | e | e | e)
      · exact ⟨c, .inr (.inr (.inl rfl)), e, s2.1⟩
      · exact ⟨d, .inr (.inr (.inr rfl)), e, s2.2⟩
      · exact ⟨a, .inl rfl, s1.1, e⟩
      · exact ⟨b, .inr (.inl rfl), s1.2, e⟩
  by_cases x : One a b c d
  · rw [if_pos x, if_pos (o.1 x)]
  · rw [if_neg x, if_neg (fun e => x (o.2 e))]

/-! The program's. -/
theorem dl {p : Prop} [Decidable p] : (decide p = true) ↔ p := decide_eq_true_iff
theorem flat_ev (ha : vd a) (hb : vd b) (hc : vd c) (hd : vd d) (hab : ltS a b) (hcd : ltS c d) (h1 : crS a b c = 0) (h2 : crS a b d = 0) :
    Ev (fun k => seg_flat.f k a.f0 a.f1 b.f0 b.f1 c.f0 c.f1 d.f0 d.f1) (cls a b c d) := by
  have j1 : ∀ lo hi : S30, (ltS a c → lo = c) → (¬ ltS a c → lo = a) → (ltS d b → hi = d) → (¬ ltS d b → hi = b) → Ev (fun k => seg_flat.j1 k lo.f0 lo.f1 hi.f0 hi.f1) (cls a b c d) := by
    intro lo hi l1 l2 g1 g2
    rw [flat_cls ha hb hc hd hab hcd h1 h2 lo hi l1 l2 g1 g2]
    refine Ev_round (fun k => by rw [seg_flat.j1]) (Ev.bind (Ev_const (Less_eq _ _ _ _)) ?_)
    by_cases h : ltS lo hi
    · rw [if_pos h]
      exact Ev_pos (dl.2 h) (Ev.now _)
    · rw [if_neg h]
      refine Ev_neg (fun e => h (dl.1 e)) ?_
      by_cases e : lo = hi
      · rw [if_pos e]
        exact Ev_pos (by simp [e]) (Ev.now _)
      · rw [if_neg e]
        have e' := S_ne.1 e
        exact Ev_neg (by simpa using e') (Ev.now _)
  have j0 : ∀ lo : S30, (ltS a c → lo = c) → (¬ ltS a c → lo = a) → Ev (fun k => seg_flat.j0 k c.f0 c.f1 d.f0 d.f1 lo.f0 lo.f1 b.f0 b.f1) (cls a b c d) := by
    intro lo l1 l2
    refine Ev_round (fun k => by rw [seg_flat.j0]) (Ev.bind (Ev_const (Less_eq _ _ _ _)) ?_)
    by_cases h : ltS d b
    · exact Ev_pos (dl.2 h) (j1 lo d l1 l2 (fun _ => rfl) (fun e => absurd h e))
    · exact Ev_neg (fun e => h (dl.1 e)) (j1 lo b l1 l2 (fun e => absurd e h) (fun _ => rfl))
  refine Ev.congr (fun k => by rw [seg_flat.f]) (Ev.bind (Ev_const (Less_eq _ _ _ _)) ?_)
  by_cases h : ltS a c
  · exact Ev_pos (dl.2 h) (j0 c (fun _ => rfl) (fun e => absurd h e))
  · exact Ev_neg (fun e => h (dl.1 e)) (j0 a (fun e => absurd e h) (fun _ => rfl))
theorem sgn_zero {x : Int} : sgn x = 0 ↔ x = 0 := by
  unfold sgn
  repeat' split
  all_goals omega
theorem sgn_bd (x : Int) : sgn x = -1 ∨ sgn x = 0 ∨ sgn x = 1 := by
  unfold sgn
  repeat' split
  all_goals omega
theorem sgn_opp (x y : Int) : wrap64 (sgn x * sgn y) < 0 ↔ opp x y := by
  unfold opp
  have hx : sgn x = if x < 0 then -1 else if x > 0 then 1 else 0 := rfl
  have hy : sgn y = if y < 0 then -1 else if y > 0 then 1 else 0 := rfl
  rw [hx, hy]
  unfold wrap64
  repeat' split
  all_goals (simp; try omega)
theorem trn_cr (ha : vd a) (hb : vd b) (hc : vd c) : trn a.f0 a.f1 b.f0 b.f1 c.f0 c.f1 = crS a b c := if_pos ⟨ha, hb, hc⟩
theorem of_two (ha : vd a) (hb : vd b) (h : a ≠ b) : ∃ a' b' : S30, of a.f0 a.f1 b.f0 b.f1 = (a'.f0, a'.f1, b'.f0, b'.f1) ∧ ltS a' b' ∧ vd a' ∧ vd b' ∧ a' ≠ b' ∧ (∀ c d, rel a' b' c d = rel a b c d) := by
  unfold of
  by_cases l : lt2 b.f0 b.f1 a.f0 a.f1
  · exact ⟨b, a, if_pos l, l, hb, ha, fun e => h e.symm, fun c d => rel_swap⟩
  · refine ⟨a, b, if_neg l, ?_, ha, hb, h, fun c d => rfl⟩
    rcases lt_ne ha hb h with x | x
    · exact x
    · exact absurd x l
theorem j2_ev (ha : vd a) (hb : vd b) (hc : vd c) (hd : vd d) (hab : a ≠ b) (hcd : c ≠ d) (h : ¬ (crS a b c = 0 ∧ crS a b d = 0)) (t : Bool) (ht : t = true ↔ Cross a b c d) :
    Ev (fun k => seg_Relate.j2 k t a.f0 a.f1 b.f0 b.f1 c.f0 c.f1 d.f0 d.f1) (rel a b c d) := by
  have ok : Okk a b c d := ⟨ha, hb, hc, hd, hab, hcd⟩
  unfold rel
  rw [if_pos ok]
  refine Ev_round (fun k => by rw [seg_Relate.j2]) ?_
  by_cases x : Cross a b c d
  · rw [if_pos x]
    exact Ev_pos (ht.2 x) (Ev.now _)
  · rw [if_neg x, off_cls ha hb hc hd hab hcd h]
    refine Ev_neg (fun e => x (ht.1 e)) (Ev.bind (On_ev _ _ _ _ _ _) ?_)
    by_cases o1 : on c a b
    · rw [if_pos (.inl o1)]
      exact Ev_pos (dl.2 o1) (Ev.now _)
    · refine Ev_neg (fun e => o1 (dl.1 e)) (Ev.bind (On_ev _ _ _ _ _ _) ?_)
      by_cases o2 : on d a b
      · rw [if_pos (.inr (.inl o2))]
        exact Ev_pos (dl.2 o2) (Ev.now _)
      · refine Ev_neg (fun e => o2 (dl.1 e)) (Ev.bind (On_ev _ _ _ _ _ _) ?_)
        by_cases o3 : on a c d
        · rw [if_pos (.inr (.inr (.inl o3)))]
          exact Ev_pos (dl.2 o3) (Ev.now _)
        · refine Ev_neg (fun e => o3 (dl.1 e)) (Ev.bind (On_ev _ _ _ _ _ _) ?_)
          by_cases o4 : on b c d
          · rw [if_pos (show on c a b ∨ on d a b ∨ on a c d ∨ on b c d from .inr (.inr (.inr o4)))]
            exact Ev_pos (dl.2 o4) (Ev.now _)
          · rw [if_neg (show ¬ (on c a b ∨ on d a b ∨ on a c d ∨ on b c d) by rintro (e | e | e | e) <;> contradiction)]
            exact Ev_neg (fun e => o4 (dl.1 e)) (Ev.now _)
theorem j1_ev (ha : vd a) (hb : vd b) (hc : vd c) (hd : vd d) (hab : ltS a b) (hcd : ltS c d) (t : Bool) (ht : t = true ↔ (crS a b c = 0 ∧ crS a b d = 0)) :
    Ev (fun k => seg_Relate.j1 k (sgn (crS a b c)) (sgn (crS a b d)) (sgn (crS c d a)) (sgn (crS c d b)) t a.f0 a.f1 b.f0 b.f1 c.f0 c.f1 d.f0 d.f1) (rel a b c d) := by
  have nab : a ≠ b := fun e => by rw [e] at hab; exact lt_irr hab
  have ncd : c ≠ d := fun e => by rw [e] at hcd; exact lt_irr hcd
  refine Ev_round (fun k => by rw [seg_Relate.j1]) ?_
  by_cases h : crS a b c = 0 ∧ crS a b d = 0
  · have x : ¬ Cross a b c d := by
      unfold Cross opp
      omega
    refine Ev_pos (ht.2 h) (Ev.bind (flat_ev ha hb hc hd hab hcd h.1 h.2) (Ev_const ?_))
    unfold rel
    rw [if_pos ⟨ha, hb, hc, hd, nab, ncd⟩, if_neg x]
  · refine Ev_neg (fun e => h (ht.1 e)) ?_
    by_cases o : opp (crS a b c) (crS a b d)
    · refine Ev_pos ((sgn_opp _ _).2 o) (j2_ev ha hb hc hd nab ncd h _ ?_)
      rw [dl, sgn_opp]
      exact ⟨fun e => ⟨o, e⟩, fun e => e.2⟩
    · refine Ev_neg (fun e => o ((sgn_opp _ _).1 e)) (j2_ev ha hb hc hd nab ncd h _ ?_)
      exact ⟨fun e => by simp at e, fun e => absurd e.1 o⟩
theorem j0_ev (ha : vd a) (hb : vd b) (hc : vd c) (hd : vd d) (t : Bool) (ht : t = true ↔ (a = b ∨ c = d)) :
    Ev (fun k => seg_Relate.j0 k t a.f0 a.f1 b.f0 b.f1 c.f0 c.f1 d.f0 d.f1) (rel a b c d) := by
  refine Ev_round (fun k => by rw [seg_Relate.j0]) ?_
  by_cases e : a = b ∨ c = d
  · refine Ev_pos (ht.2 e) (Ev_const ?_)
    unfold rel
    rw [if_neg (by rintro ⟨_, _, _, _, h5, h6⟩; rcases e with e | e <;> contradiction)]
  · refine Ev_neg (fun h => e (ht.1 h)) (Ev.bind (Ev_const (Of_eq _ _ _ _)) (Ev.bind (Ev_const (Of_eq _ _ _ _)) ?_))
    obtain ⟨a', b', e1, l1, va, vb, n1, r1⟩ := of_two ha hb (fun h => e (.inl h))
    obtain ⟨c', d', e2, l2, vc, vd', n2, r2⟩ := of_two hc hd (fun h => e (.inr h))
    have er : rel a b c d = rel a' b' c' d' := (r1 c d).symm.trans (rel_turn.symm.trans ((r2 a' b').symm.trans rel_turn))
    rw [e1, e2, er]
    simp only []
    refine Ev.bind (Turn_ev _ _ _ _ _ _) (Ev.bind (Ev_const (sign_eq _)) (Ev.bind (Turn_ev _ _ _ _ _ _) (Ev.bind (Ev_const (sign_eq _)) (Ev.bind (Turn_ev _ _ _ _ _ _) (Ev.bind (Ev_const (sign_eq _)) (Ev.bind (Turn_ev _ _ _ _ _ _) (Ev.bind (Ev_const (sign_eq _)) ?_)))))))
    rw [trn_cr va vb vc, trn_cr va vb vd', trn_cr vc vd' va, trn_cr vc vd' vb]
    by_cases z : sgn (crS a' b' c') = 0
    · refine Ev_pos z (j1_ev va vb vc vd' l1 l2 _ ?_)
      rw [beq_iff_eq, sgn_zero]
      exact ⟨fun h => ⟨sgn_zero.1 z, h⟩, fun h => h.2⟩
    · refine Ev_neg z (j1_ev va vb vc vd' l1 l2 _ ?_)
      rw [sgn_zero] at z
      exact ⟨fun h => by simp at h, fun h => absurd h.1 z⟩
theorem valid4_ev (a b c d : S30) : Ev (fun k => seg_valid.f k (([(⟨a.f0, a.f1⟩ : S30), (⟨b.f0, b.f1⟩ : S30), (⟨c.f0, c.f1⟩ : S30), (⟨d.f0, d.f1⟩ : S30)] : List (S30)))) (decide (Vd a.f0 a.f1 ∧ Vd b.f0 b.f1 ∧ Vd c.f0 c.f1 ∧ Vd d.f0 d.f1)) := by
  refine Ev_eq ?_ (valid_ev _ (by simp))
  by_cases h1 : Vd a.f0 a.f1 <;> by_cases h2 : Vd b.f0 b.f1 <;> by_cases h3 : Vd c.f0 c.f1 <;> by_cases h4 : Vd d.f0 d.f1 <;> simp [h1, h2, h3, h4]
theorem eqS : (a.f0 == b.f0 && (a.f1 == b.f1)) = true ↔ a = b := by
  cases a
  cases b
  simp
theorem Relate_ev (a b c d : S30) : Ev (fun k => seg_Relate.f k a.f0 a.f1 b.f0 b.f1 c.f0 c.f1 d.f0 d.f1) (rel a b c d) := by
  refine Ev.congr (fun k => by rw [seg_Relate.f]) (Ev.bind (valid4_ev a b c d) ?_)
  by_cases v : Vd a.f0 a.f1 ∧ Vd b.f0 b.f1 ∧ Vd c.f0 c.f1 ∧ Vd d.f0 d.f1
  · obtain ⟨va, vb, vc, vd'⟩ := v
    refine Ev_pos (dl.2 ⟨va, vb, vc, vd'⟩) ?_
    by_cases e : a = b
    · exact Ev_pos (eqS.2 e) (j0_ev va vb vc vd' true (by simp [e]))
    · exact Ev_neg (fun h => e (eqS.1 h)) (j0_ev va vb vc vd' _ (by rw [eqS]; simp [e]))
  · refine Ev_neg (fun h => v (dl.1 h)) (Ev_round (fun k => by rw [seg_Relate.j0]) (Ev_pos rfl (Ev_const ?_)))
    unfold rel
    rw [if_neg (fun h => v ⟨h.1, h.2.1, h.2.2.1, h.2.2.2.1⟩)]
end
end Go.Proofs.Ytggafoldccikdaa.Sg
