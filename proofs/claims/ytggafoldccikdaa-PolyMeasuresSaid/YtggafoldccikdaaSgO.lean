/- The reference's Relate: the ends that are on both segments, each once. -/
import Derived.Test.YtggafoldccikdaaSgN
import Derived.Test.YtggafoldccikdaaPAllx35
namespace Go.Proofs.Ytggafoldccikdaa.Sg
open Go.RowKit Go.Proofs.Ytggafoldccikdaa.PAll Go.Proofs.YtggafoldccikdaaW.PrintWords Go.Proofs.YtggafoldccikdaaW.PrintLast Go.Proofs.YtggafoldccikdaaW.PrintMore Go.Proofs.Ytggafoldccikdaa.Bas
set_option linter.unusedVariables false
set_option linter.unusedSimpArgs false

def same (e p : S30) : Bool := p.f0 == e.f0 && (p.f1 == e.f1)
theorem same_iff {e p : S30} : same e p = true ↔ p = e := eqS
theorem any_same {l : List S30} {e : S30} : l.any (same e) = true ↔ e ∈ l := by
  rw [List.any_eq_true]
  constructor
  · rintro ⟨p, hp, h⟩
    rw [← same_iff.1 h]
    exact hp
  · intro h
    exact ⟨e, h, same_iff.2 rfl⟩
instance (a b c d p : S30) : Decidable (Both a b c d p) := by unfold Both; infer_instance
def stepb (a b c d : S30) (acc : List S30) (e : S30) : List S30 := if Both a b c d e then (if acc.any (same e) = true then acc else acc ++ [e]) else acc
def cnt (l : List S30) : Int := if (l.length : Int) > 1 then 3 else if (l.length : Int) = 1 then 1 else 0
section
variable {a b c d : S30}
theorem rl1 {R : Int} {E acc : List S30} {i : Int} (h0 : 0 ≤ i) (h1 : i < (E.length : Int)) (ha : acc.length ≤ 10)
    (hA : acc.any (same (rd_T30 E i)) = true → Ev (fun k => mapmakerref09_Relate.l0 k E acc (wrap64 (i + 1)) a.f0 a.f1 b.f0 b.f1 c.f0 c.f1 d.f0 d.f1) R)
    (hB : acc.any (same (rd_T30 E i)) = false → Ev (fun k => mapmakerref09_Relate.l0 k E (acc ++ [rd_T30 E i]) (wrap64 (i + 1)) a.f0 a.f1 b.f0 b.f1 c.f0 c.f1 d.f0 d.f1) R) (n : Nat) :
    ∀ (j : Int) (m : Bool), 0 ≤ j → (acc.length : Int) - j = n → (m || (acc.drop j.toNat).any (same (rd_T30 E i))) = acc.any (same (rd_T30 E i)) → Ev (fun k => mapmakerref09_Relate.l1 k E acc i m j a.f0 a.f1 b.f0 b.f1 c.f0 c.f1 d.f0 d.f1) R := by
  induction n with
  | zero =>
    intro j m hj hn hm
    rw [drop_end (by omega), List.any_nil, Bool.or_false] at hm
    refine Ev_round (fun k => by rw [mapmakerref09_Relate.l1]) (Ev_neg (by omega) ?_)
    by_cases t : m = true
    · exact Ev_pos t (hA (by rw [← hm]; exact t))
    · exact Ev_neg t (Ev_pos h0 (Ev_pos h1 (Ev_pos (by omega) (hB (by rw [← hm]; simpa using t)))))
  | succ n ih =>
    intro j m hj hn hm
    have wj : wrap64 (j + 1) = j + 1 := wrap_in ⟨by omega, by omega⟩
    refine Ev_round (fun k => by rw [mapmakerref09_Relate.l1]) (Ev_pos (by omega) ?_)
    rw [wj]
    by_cases t : m = true
    · refine Ev_pos t (ih (j + 1) true (by omega) (by omega) ?_)
      rw [t, Bool.true_or] at hm
      rw [← hm, Bool.true_or]
    · refine Ev_neg t (Ev_pos hj (Ev_pos h0 (Ev_pos h1 (ih (j + 1) _ (by omega) (by omega) ?_))))
      have t' : m = false := by simpa using t
      rw [t', Bool.false_or, drop_at z30 hj (by omega), List.any_cons] at hm
      rw [← hm]
      rfl
theorem rl0 (n : Nat) : ∀ (i : Int) (acc : List S30), 0 ≤ i → 4 - i = n → (acc.length : Int) ≤ i → Ev (fun k => mapmakerref09_Relate.l0 k [a, b, c, d] acc i a.f0 a.f1 b.f0 b.f1 c.f0 c.f1 d.f0 d.f1) (cnt (([a, b, c, d].drop i.toNat).foldl (stepb a b c d) acc)) := by
  induction n with
  | zero =>
    intro i acc h0 h1 h2
    refine Ev_round (fun k => by rw [mapmakerref09_Relate.l0]) (Ev_neg (by omega) (Ev_const ?_))
    rw [drop_end (by show (4 : Int) ≤ i; omega), List.foldl_nil]
    unfold cnt
    repeat' split
    all_goals rfl
  | succ n ih =>
    intro i acc h0 h1 h2
    have wi : wrap64 (i + 1) = i + 1 := wrap_in ⟨by omega, by omega⟩
    have hi : i < (([a, b, c, d] : List S30).length : Int) := by show i < 4; omega
    refine Ev_round (fun k => by rw [mapmakerref09_Relate.l0]) (Ev_pos (by omega) (Ev_pos h0 (Ev_pos hi ?_)))
    rw [drop_at z30 h0 hi, List.foldl_cons]
    show Ev _ (cnt (List.foldl (stepb a b c d) (stepb a b c d acc (rd_T30 [a, b, c, d] i)) _))
    generalize he : rd_T30 [a, b, c, d] i = e
    have next : ∀ acc' : List S30, (acc'.length : Int) ≤ i + 1 → Ev (fun k => mapmakerref09_Relate.l0 k [a, b, c, d] acc' (wrap64 (i + 1)) a.f0 a.f1 b.f0 b.f1 c.f0 c.f1 d.f0 d.f1) (cnt (([a, b, c, d].drop (i + 1).toNat).foldl (stepb a b c d) acc')) := by
      intro acc' h
      rw [wi]
      exact ih (i + 1) acc' (by omega) (by omega) h
    have off : ¬ Both a b c d e → Ev (fun k => mapmakerref09_Relate.j3 k [a, b, c, d] acc i true a.f0 a.f1 b.f0 b.f1 c.f0 c.f1 d.f0 d.f1) (cnt (([a, b, c, d].drop (i + 1).toNat).foldl (stepb a b c d) (stepb a b c d acc e))) := by
      intro h
      refine Ev_round (fun k => by rw [mapmakerref09_Relate.j3]) (Ev_pos rfl ?_)
      unfold stepb
      rw [if_neg h]
      exact next acc (by omega)
    refine Ev.bind (Ev_const (rOn_eq _ _ _ _ _ _)) ?_
    by_cases o1 : on e a b
    · refine Ev_pos (dl.2 o1) (Ev.bind (Ev_const (rOn_eq _ _ _ _ _ _)) ?_)
      by_cases o2 : on e c d
      · have o2' : On e.f0 e.f1 c.f0 c.f1 d.f0 d.f1 := o2
        rw [decide_eq_true o2']
        refine Ev_round (fun k => by rw [mapmakerref09_Relate.j3]) (Ev_neg (by decide) ?_)
        have bo : Both a b c d e := ⟨o1, o2⟩
        unfold stepb
        rw [if_pos bo]
        refine rl1 h0 hi (by omega) (fun h => ?_) (fun h => ?_) acc.length 0 false (by decide) (by omega) (by simp)
        · rw [he] at h
          rw [if_pos h]
          exact next acc (by omega)
        · rw [he] at h
          rw [he, if_neg (by rw [h]; decide)]
          exact next (acc ++ [e]) (by rw [List.length_append]; simp; omega)
      · have o2' : ¬ On e.f0 e.f1 c.f0 c.f1 d.f0 d.f1 := o2
        rw [decide_eq_false o2']
        exact off (fun h => o2 h.2)
    · exact Ev_neg (fun h => o1 (dl.1 h)) (off (fun h => o1 h.1))
theorem fold_mem (l : List S30) : ∀ acc : List S30, acc.Nodup → (l.foldl (stepb a b c d) acc).Nodup ∧ ∀ p, p ∈ l.foldl (stepb a b c d) acc ↔ p ∈ acc ∨ p ∈ l ∧ Both a b c d p := by
  induction l with
  | nil => intro acc h; exact ⟨h, fun p => by simp⟩
  | cons e l ih =>
    intro acc h
    rw [List.foldl_cons]
    unfold stepb
    by_cases b1 : Both a b c d e
    · rw [if_pos b1]
      by_cases b2 : acc.any (same e) = true
      · rw [if_pos b2]
        have m := any_same.1 b2
        obtain ⟨i1, i2⟩ := ih acc h
        refine ⟨i1, fun p => ?_⟩
        have := i2 p
        unfold stepb at this
        rw [this, List.mem_cons]
        constructor
        · rintro (x | x)
          · exact .inl x
          · exact .inr ⟨.inr x.1, x.2⟩
        · rintro (x | ⟨x | x, y⟩)
          · exact .inl x
          · exact .inl (by rw [x]; exact m)
          · exact .inr ⟨x, y⟩
      · rw [if_neg b2]
        have m : e ∉ acc := fun x => b2 (any_same.2 x)
        have nd : (acc ++ [e]).Nodup := by
          rw [List.nodup_append]
          refine ⟨h, by simp, ?_⟩
          intro x hx y hy
          rw [List.mem_singleton] at hy
          rw [hy]
          exact fun z => m (by rw [← z]; exact hx)
        obtain ⟨i1, i2⟩ := ih (acc ++ [e]) nd
        refine ⟨i1, fun p => ?_⟩
        have := i2 p
        unfold stepb at this
        rw [this, List.mem_cons, List.mem_append, List.mem_singleton]
        constructor
        · rintro ((x | x) | x)
          · exact .inl x
          · exact .inr ⟨.inl x, by rw [x]; exact b1⟩
          · exact .inr ⟨.inr x.1, x.2⟩
        · rintro (x | ⟨x | x, y⟩)
          · exact .inl (.inl x)
          · exact .inl (.inr x)
          · exact .inr ⟨x, y⟩
    · rw [if_neg b1]
      obtain ⟨i1, i2⟩ := ih acc h
      refine ⟨i1, fun p => ?_⟩
      have := i2 p
      unfold stepb at this
      rw [this, List.mem_cons]
      constructor
      · rintro (x | x)
        · exact .inl x
        · exact .inr ⟨.inr x.1, x.2⟩
      · rintro (x | ⟨x | x, y⟩)
        · exact .inl x
        · exact absurd (by rw [← x]; exact y) b1
        · exact .inr ⟨x, y⟩
theorem cnt_cls : cnt ([a, b, c, d].foldl (stepb a b c d) []) = cls a b c d := by
  obtain ⟨nd, mem⟩ := fold_mem (a := a) (b := b) (c := c) (d := d) [a, b, c, d] [] List.nodup_nil
  generalize [a, b, c, d].foldl (stepb a b c d) [] = L at *
  have mem' : ∀ p, p ∈ L ↔ End a b c d p ∧ Both a b c d p := by
    intro p
    rw [mem p]
    unfold End
    simp
  unfold cls cnt
  match L, nd, mem' with
  | [], nd, mem' =>
    have o : ¬ One a b c d := by
      rintro ⟨p, e, h⟩
      have := (mem' p).2 ⟨e, h⟩
      simp at this
    have t : ¬ Two a b c d := by
      rintro ⟨p, q, e, _, _, h, _⟩
      exact o ⟨p, e, h⟩
    rw [if_neg t, if_neg o]
    rfl
  | [x], nd, mem' =>
    have hx := (mem' x).1 (by simp)
    have o : One a b c d := ⟨x, hx.1, hx.2⟩
    have t : ¬ Two a b c d := by
      rintro ⟨p, q, e, f, ne, h, g⟩
      have h1 := (mem' p).2 ⟨e, h⟩
      have h2 := (mem' q).2 ⟨f, g⟩
      rw [List.mem_singleton] at h1 h2
      exact ne (by rw [h1, h2])
    rw [if_neg t, if_pos o]
    rfl
  | x :: y :: r, nd, mem' =>
    have hx := (mem' x).1 (by simp)
    have hy := (mem' y).1 (by simp)
    have ne : x ≠ y := by
      intro e
      rw [e] at nd
      simp at nd
    have t : Two a b c d := ⟨x, y, hx.1, hy.1, ne, hx.2, hy.2⟩
    rw [if_pos t, if_pos (by simp; omega)]
theorem rRelate_ev (a b c d : S30) : Ev (fun k => mapmakerref09_Relate.f k a.f0 a.f1 b.f0 b.f1 c.f0 c.f1 d.f0 d.f1) (rel a b c d) := by
  have no : ¬ Okk a b c d → ∀ t, t = true → Ev (fun k => mapmakerref09_Relate.j0 k t a.f0 a.f1 b.f0 b.f1 c.f0 c.f1 d.f0 d.f1) (rel a b c d) := by
    intro h t ht
    refine Ev_round (fun k => by rw [mapmakerref09_Relate.j0]) (Ev_pos ht (Ev_const ?_))
    unfold rel
    rw [if_neg h]
  refine Ev.congr (fun k => by rw [mapmakerref09_Relate.f]) (Ev.bind (Ev_const (three_eq _ _ _ _ _ _)) ?_)
  by_cases v : V3 a.f0 a.f1 b.f0 b.f1 c.f0 c.f1
  · refine Ev_pos (dl.2 v) (Ev.bind (Ev_const (rValid_eq _ _)) ?_)
    by_cases vd4 : Vd d.f0 d.f1
    · refine Ev_pos (dl.2 vd4) ?_
      by_cases e1 : a = b
      · exact Ev_pos (eqS.2 e1) (no (fun h => h.2.2.2.2.1 e1) true rfl)
      · refine Ev_neg (fun h => e1 (eqS.1 h)) ?_
        by_cases e2 : c = d
        · exact no (fun h => h.2.2.2.2.2 e2) _ (eqS.2 e2)
        · have va : vd a := v.1
          have vb : vd b := v.2.1
          have vc : vd c := v.2.2
          have vd' : vd d := vd4
          have ok : Okk a b c d := ⟨va, vb, vc, vd', e1, e2⟩
          refine Ev_round (fun k => by rw [mapmakerref09_Relate.j0]) (Ev_neg (fun h => e2 (eqS.1 h)) ?_)
          refine Ev.bind (Ev_const (rTurn_eq _ _ _ _ _ _)) (Ev.bind (Ev_const (rsign_eq _)) (Ev.bind (Ev_const (rTurn_eq _ _ _ _ _ _)) (Ev.bind (Ev_const (rsign_eq _)) (Ev.bind (Ev_const (rTurn_eq _ _ _ _ _ _)) (Ev.bind (Ev_const (rsign_eq _)) (Ev.bind (Ev_const (rTurn_eq _ _ _ _ _ _)) (Ev.bind (Ev_const (rsign_eq _)) ?_)))))))
          rw [trn_cr va vb vc, trn_cr va vb vd', trn_cr vc vd' va, trn_cr vc vd' vb]
          have j1 : ∀ t : Bool, (t = true ↔ Cross a b c d) → Ev (fun k => mapmakerref09_Relate.j1 k t a.f0 a.f1 b.f0 b.f1 c.f0 c.f1 d.f0 d.f1) (rel a b c d) := by
            intro t ht
            unfold rel
            rw [if_pos ok]
            refine Ev_round (fun k => by rw [mapmakerref09_Relate.j1]) ?_
            by_cases x : Cross a b c d
            · rw [if_pos x]
              exact Ev_pos (ht.2 x) (Ev.now _)
            · rw [if_neg x, ← cnt_cls]
              exact Ev_neg (fun h => x (ht.1 h)) (rl0 4 0 [] (by decide) (by decide) (by decide))
          by_cases o : opp (crS a b c) (crS a b d)
          · refine Ev_pos ((sgn_opp _ _).2 o) (j1 _ ?_)
            rw [dl, sgn_opp]
            exact ⟨fun e => ⟨o, e⟩, fun e => e.2⟩
          · exact Ev_neg (fun e => o ((sgn_opp _ _).1 e)) (j1 _ ⟨fun e => by simp at e, fun e => absurd e.1 o⟩)
    · exact Ev_neg (fun h => vd4 (dl.1 h)) (no (fun h => vd4 h.2.2.2.1) true rfl)
  · exact Ev_neg (fun h => v (dl.1 h)) (no (fun h => v ⟨h.1, h.2.1, h.2.2.1⟩) true rfl)
end
end Go.Proofs.Ytggafoldccikdaa.Sg
