/- A list of points turned, and a list of points read backwards. -/
import Derived.Test.YtggafoldccikdaaPkN
import Derived.Test.YtggafoldccikdaaPkQ
namespace Go.Proofs.Ytggafoldccikdaa.Pk
open Go.RowKit Go.Proofs.Ytggafoldccikdaa.PAll Go.Proofs.Ytggafoldccikdaa.Bas Go.Proofs.Ytggafoldccikdaa.Sg Go.Proofs.Ytggafoldccikdaa.Po
set_option linter.unusedVariables false
set_option linter.unusedSimpArgs false

/-- The next place. -/
def sx (n i : Nat) : Nat := if i + 1 = n then 0 else i + 1
def ro (n s i : Nat) : Nat := if i + s < n then i + s else i + s - n
def rot (l : List S30) (s : Nat) : List S30 := l.drop s ++ l.take s
section
variable {l m : List S30} {n s i j : Nat} {p : S30}
theorem nx_sx (hi : i < l.length) : nx l i = at_ l (sx l.length i) := by
  show at_ l ((i + 1) % l.length) = _
  unfold sx
  by_cases c : i + 1 = l.length
  · rw [if_pos c, c, Nat.mod_self]
  · rw [if_neg c, Nat.mod_eq_of_lt (by omega)]
theorem at_d (l : List S30) (i : Nat) : at_ l i = (l[i]?).getD z30 := by
  unfold at_ rd_T30
  rw [List.getD_eq_getElem?_getD, Int.toNat_natCast]
theorem at_g (hi : i < l.length) : l[i]? = some (at_ l i) := by
  rw [at_d, List.getElem?_eq_getElem hi]
  rfl
theorem ext_at (h : l.length = m.length) (e : ∀ i, i < l.length → at_ l i = at_ m i) : l = m := by
  refine List.ext_getElem? (fun i => ?_)
  by_cases c : i < l.length
  · rw [at_g c, at_g (by omega), e i c]
  · rw [List.getElem?_eq_none (by omega), List.getElem?_eq_none (by omega)]
theorem rot_len (hs : s ≤ l.length) : (rot l s).length = l.length := by
  unfold rot
  rw [List.length_append, List.length_drop, List.length_take]
  omega
theorem ro_lt (hs : s < n) (hi : i < n) : ro n s i < n := by
  unfold ro
  split <;> omega
theorem rot_at (hs : s < l.length) (hi : i < l.length) : at_ (rot l s) i = at_ l (ro l.length s i) := by
  rw [at_d, at_d]
  congr 1
  unfold rot ro
  by_cases c : i + s < l.length
  · rw [if_pos c, List.getElem?_append_left (by rw [List.length_drop]; omega), List.getElem?_drop, Nat.add_comm]
  · rw [if_neg c, List.getElem?_append_right (by rw [List.length_drop]; omega), List.length_drop, List.getElem?_take_of_lt (by omega)]
    congr 1
    omega
theorem rev_at (hi : i < l.length) : at_ l.reverse i = at_ l (l.length - 1 - i) := by
  rw [at_d, at_d, List.getElem?_reverse hi]
theorem rot_zero (l : List S30) : rot l 0 = l := by
  unfold rot
  simp
theorem rot_back (hs : s < l.length) (h0 : 0 < s) : rot (rot l s) (l.length - s) = l := by
  have e := rot_len (l := l) (s := s) (by omega)
  have e2 := rot_len (l := rot l s) (s := l.length - s) (by omega)
  refine ext_at (by omega) (fun i hi => ?_)
  rw [rot_at (by omega) (by omega), e, rot_at hs (ro_lt (by omega) (by omega))]
  congr 1
  unfold ro
  split <;> split <;> omega
theorem all_rot (f : S30 → Bool) : (rot l s).all f = l.all f := by
  unfold rot
  rw [List.all_append, Bool.and_comm, ← List.all_append, List.take_append_drop]
def Good (l : List S30) : Prop := ∀ i j, i < l.length → j < l.length → i ≠ j → at_ l i ≠ at_ l j ∧ rel (at_ l i) (at_ l (sx l.length i)) (at_ l j) (at_ l (sx l.length j)) = if sx l.length i = j ∨ sx l.length j = i then 1 else 0
theorem simple_good : Pq.simpleP l = true ↔ 3 ≤ l.length ∧ AllV l ∧ Good l := by
  unfold Pq.simpleP
  rw [@decide_eq_true_iff _ (Classical.propDecidable _)]
  refine ⟨fun ⟨h3, hv, hd, hr⟩ => ⟨h3, hv, ?_⟩, fun ⟨h3, hv, hg⟩ => ⟨h3, hv, fun i hi j hj => (hg i j hi (by omega) (by omega)).1, fun i hi j hj => ?_⟩⟩
  · have key : ∀ i j, i < l.length → j < i → at_ l i ≠ at_ l j ∧ rel (at_ l i) (at_ l (sx l.length i)) (at_ l j) (at_ l (sx l.length j)) = if sx l.length i = j ∨ sx l.length j = i then 1 else 0 := fun i j hi hj => by
      refine ⟨hd i hi j hj, ?_⟩
      have := hr i hi j hj
      unfold Pq.rl at this
      rw [nx_sx hi, nx_sx (by omega)] at this
      rw [this]
      unfold Pq.want sx
      repeat' split
      all_goals first | rfl | omega
    intro i j hi hj hne
    rcases Nat.lt_or_gt_of_ne hne with c | c
    · obtain ⟨k1, k2⟩ := key j i hj c
      refine ⟨Ne.symm k1, ?_⟩
      rw [rel_turn, k2]
      by_cases a : sx l.length j = i ∨ sx l.length i = j
      · rw [if_pos a, if_pos a.symm]
      · rw [if_neg a, if_neg (fun b => a b.symm)]
    · exact key i j hi c
  · have := (hg i j hi (by omega) (by omega)).2
    unfold Pq.rl
    rw [nx_sx hi, nx_sx (by omega), this]
    unfold Pq.want sx
    repeat' split
    all_goals first | rfl | omega
theorem good_map (hlen : m.length = l.length) (σ e : Nat → Nat) (h : ∀ i, i < l.length → σ i < l.length ∧ e i < l.length ∧ at_ m i = at_ l (σ i))
    (inj : ∀ i j, i < l.length → j < l.length → i ≠ j → σ i ≠ σ j ∧ e i ≠ e j)
    (adj : ∀ i j, i < l.length → j < l.length → ((sx l.length (e i) = e j ∨ sx l.length (e j) = e i) ↔ (sx l.length i = j ∨ sx l.length j = i)))
    (ed : ∀ i j, i < l.length → j < l.length → rel (at_ m i) (at_ m (sx l.length i)) (at_ m j) (at_ m (sx l.length j)) = rel (at_ l (e i)) (at_ l (sx l.length (e i))) (at_ l (e j)) (at_ l (sx l.length (e j))))
    (g : Good l) : Good m := by
  intro i j hi hj hne
  rw [hlen] at *
  obtain ⟨a1, a2, a3⟩ := h i hi
  obtain ⟨b1, b2, b3⟩ := h j hj
  obtain ⟨c1, c2⟩ := inj i j hi hj hne
  refine ⟨?_, ?_⟩
  · rw [a3, b3]
    exact (g _ _ a1 b1 c1).1
  · rw [ed i j hi hj, (g _ _ a2 b2 c2).2]
    by_cases c : sx l.length i = j ∨ sx l.length j = i
    · rw [if_pos c, if_pos ((adj i j hi hj).2 c)]
    · rw [if_neg c, if_neg (fun d => c ((adj i j hi hj).1 d))]
theorem sx_lt (hi : i < n) : sx n i < n := by
  unfold sx
  split <;> omega
theorem sx_ro (hs : s < n) (hi : i < n) : ro n s (sx n i) = sx n (ro n s i) := by
  unfold sx ro
  repeat' split
  all_goals omega
theorem good_rot (hs : s < l.length) (g : Good l) : Good (rot l s) := by
  refine good_map (rot_len (by omega)) (ro l.length s) (ro l.length s) (fun i hi => ⟨ro_lt hs hi, ro_lt hs hi, rot_at hs hi⟩) (fun i j hi hj hne => ?_) (fun i j hi hj => ?_) (fun i j hi hj => ?_) g
  · have : ro l.length s i ≠ ro l.length s j := by
      unfold ro
      repeat' split
      all_goals omega
    exact ⟨this, this⟩
  · unfold sx ro
    repeat' split
    all_goals omega
  · rw [rot_at hs hi, rot_at hs (sx_lt hi), rot_at hs hj, rot_at hs (sx_lt hj), sx_ro hs hi, sx_ro hs hj]
theorem good_rev (g : Good l) : Good l.reverse := by
  have es : ∀ i, i < l.length → sx l.length (l.length - 1 - sx l.length i) = l.length - 1 - i := fun i hi => by
    unfold sx
    repeat' split
    all_goals omega
  refine good_map (l := l) List.length_reverse (fun i => l.length - 1 - i) (fun i => l.length - 1 - sx l.length i) (fun i hi => ⟨by omega, by omega, rev_at hi⟩) (fun i j hi hj hne => ⟨by omega, ?_⟩) (fun i j hi hj => ?_) (fun i j hi hj => ?_) g
  · unfold sx
    repeat' split
    all_goals omega
  · show (sx l.length (l.length - 1 - sx l.length i) = l.length - 1 - sx l.length j ∨ sx l.length (l.length - 1 - sx l.length j) = l.length - 1 - sx l.length i) ↔ _
    rw [es i hi, es j hj]
    have := sx_lt hi
    have := sx_lt hj
    omega
  · show rel (at_ l.reverse i) (at_ l.reverse (sx l.length i)) (at_ l.reverse j) (at_ l.reverse (sx l.length j)) = rel (at_ l (l.length - 1 - sx l.length i)) (at_ l (sx l.length (l.length - 1 - sx l.length i))) (at_ l (l.length - 1 - sx l.length j)) (at_ l (sx l.length (l.length - 1 - sx l.length j)))
    rw [es i hi, es j hj, rev_at hi, rev_at hj, rev_at (sx_lt hi), rev_at (sx_lt hj), rel_swap, rel_swap2]
theorem simple_rot (hs : s < l.length) : Pq.simpleP (rot l s) = Pq.simpleP l := by
  have fwd : ∀ (l : List S30) (s : Nat), s < l.length → Pq.simpleP l = true → Pq.simpleP (rot l s) = true := fun l s hs h => by
    rw [simple_good] at h ⊢
    refine ⟨by rw [rot_len (by omega)]; exact h.1, ?_, good_rot hs h.2.2⟩
    have := h.2.1
    rw [← all_iff] at this ⊢
    rw [all_rot]
    exact this
  rw [Bool.eq_iff_iff]
  refine ⟨fun h => ?_, fwd l s hs⟩
  by_cases c : s = 0
  · subst c
    rw [rot_zero] at h
    exact h
  · have := fwd (rot l s) (l.length - s) (by rw [rot_len (by omega)]; omega) h
    rw [rot_back hs (by omega)] at this
    exact this
theorem simple_rev : Pq.simpleP l.reverse = Pq.simpleP l := by
  have fwd : ∀ l : List S30, Pq.simpleP l = true → Pq.simpleP l.reverse = true := fun l h => by
    rw [simple_good] at h ⊢
    refine ⟨by rw [List.length_reverse]; exact h.1, ?_, good_rev h.2.2⟩
    intro p hp
    exact h.2.1 p (List.mem_reverse.1 hp)
  rw [Bool.eq_iff_iff]
  refine ⟨fun h => ?_, fwd l⟩
  have := fwd _ h
  rw [List.reverse_reverse] at this
  exact this
end
end Go.Proofs.Ytggafoldccikdaa.Pk
