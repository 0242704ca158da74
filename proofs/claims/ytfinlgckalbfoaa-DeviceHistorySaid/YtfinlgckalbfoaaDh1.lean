/- What a device tells of its writes: the plain side of DeviceHistory. -/
import Derived.Test.YtfinlgckalbfoaaDh0
namespace Go.Proofs.Ytfinlgckalbfoaa.PAll
open Go.RowKit Go.Proofs.YtfinlgckalbfoaaW.PrintWords Go.Proofs.YtfinlgckalbfoaaW.PrintLast Go.Proofs.YtfinlgckalbfoaaW.PrintMore
set_option linter.unusedVariables false
set_option linter.unusedSimpArgs false

def lg (al : List Int) (pl : List ByteArray) : List (Int × ByteArray) := (al.zip pl).map fun x => (x.1, padB x.2)
def hist (n : Nat) (al : List Int) (pl : List ByteArray) : Dv := ⟨List.replicate n zB, lg al pl, play (List.replicate n zB) (lg al pl), false, 0⟩
structure HI (n k : Nat) (al : List Int) (pl : List ByteArray) : Prop where
  len : al.length = pl.length
  le : al.length ≤ k
  at_ : ∀ x ∈ al, 0 ≤ x ∧ x < (n : Int)
  pu : ∀ s ∈ pl, s.size ≤ 64
theorem lg_snoc {al : List Int} {pl : List ByteArray} (h : al.length = pl.length) (i : Int) (s : ByteArray) : lg (al ++ [i]) (pl ++ [s]) = lg al pl ++ [(i, padB s)] := by
  unfold lg
  rw [List.zip_append h]
  simp
theorem lg_length {al : List Int} {pl : List ByteArray} (h : al.length = pl.length) : (lg al pl).length = al.length := by
  unfold lg
  simp [h]
theorem lg_getD {al : List Int} {pl : List ByteArray} (h : al.length = pl.length) (j : Nat) (hj : j < al.length) : (lg al pl).getD j (0, ⟨#[]⟩) = (al.getD j 0, padB (pl.getD j ⟨#[]⟩)) := by
  have hl := lg_length h
  rw [List.getD_eq_getElem?_getD, List.getD_eq_getElem?_getD, List.getD_eq_getElem?_getD, List.getElem?_eq_getElem hj, List.getElem?_eq_getElem (show j < pl.length by omega), List.getElem?_eq_getElem (show j < (lg al pl).length by omega)]
  simp [lg]
theorem hist_ok {n k : Nat} {al : List Int} {pl : List ByteArray} (h : HI n k al pl) {i : Int} {s : ByteArray} (c1 : 0 ≤ i) (c2 : i < (n : Int)) (c3 : s.size ≤ 64) : dvWrite (hist n al pl) i s = (0, hist n (al ++ [i]) (pl ++ [s])) := by
  unfold dvWrite
  have e : (hist n al pl).now.length = n := by simp [hist, play_length]
  rw [if_neg (by rw [e]; omega), if_neg (by omega), if_neg (by simp [hist])]
  simp only [hist, lg_snoc h.len, play_snoc]
  rfl
theorem hist_err {n : Nat} {al : List Int} {pl : List ByteArray} {i : Int} {s : ByteArray} (c : ¬ (0 ≤ i ∧ i < (n : Int) ∧ s.size ≤ 64)) : ∃ r, r ≠ 0 ∧ dvWrite (hist n al pl) i s = (r, hist n al pl) := by
  unfold dvWrite
  have e : (hist n al pl).now.length = n := by simp [hist, play_length]
  by_cases c1 : i < 0 ∨ ((hist n al pl).now.length : Int) ≤ i
  · exact ⟨2, by decide, by rw [if_pos c1]⟩
  · rw [e] at c1
    exact ⟨5, by decide, by rw [if_neg (by rw [e]; exact c1), if_pos (by omega)]⟩
theorem HI.snoc {n k : Nat} {al : List Int} {pl : List ByteArray} (h : HI n k al pl) {i : Int} {s : ByteArray} (c1 : 0 ≤ i) (c2 : i < (n : Int)) (c3 : s.size ≤ 64) : HI n (k + 1) (al ++ [i]) (pl ++ [s]) :=
  ⟨by simp [h.len], by have := h.le; simp; omega, fun x hx => by
    rcases List.mem_append.1 hx with hx | hx
    · exact h.at_ x hx
    · rw [List.mem_singleton.1 hx]; exact ⟨c1, c2⟩, fun x hx => by
    rcases List.mem_append.1 hx with hx | hx
    · exact h.pu x hx
    · rw [List.mem_singleton.1 hx]; exact c3⟩
theorem HI.mono {n k k' : Nat} {al : List Int} {pl : List ByteArray} (h : HI n k al pl) (hk : k ≤ k') : HI n k' al pl := ⟨h.len, Nat.le_trans h.le hk, h.at_, h.pu⟩
/-- The last string written to block i among the first m. -/
def lastS (al : List Int) (pl : List ByteArray) (i : Int) : Nat → ByteArray
  | 0 => ⟨#[]⟩
  | m + 1 => if al.getD m 0 = i then pl.getD m ⟨#[]⟩ else lastS al pl i m
theorem padB_nil : padB ⟨#[]⟩ = zB := by kernel_rfl
theorem play_last {n k : Nat} {al : List Int} {pl : List ByteArray} (h : HI n k al pl) (i : Nat) (hi : i < n) : ∀ m, m ≤ al.length → (play (List.replicate n zB) ((lg al pl).take m)).getD i ⟨#[]⟩ = padB (lastS al pl i m)
  | 0, _ => by
    rw [List.take_zero]
    show (List.replicate n zB).getD i ⟨#[]⟩ = padB ⟨#[]⟩
    rw [padB_nil, List.getD_eq_getElem?_getD, List.getElem?_replicate, if_pos hi]
    rfl
  | m + 1, hm => by
    have ih := play_last h i hi m (by omega)
    have hg := lg_getD h.len m (by omega)
    have ha : 0 ≤ al.getD m 0 ∧ al.getD m 0 < (n : Int) := by
      rw [List.getD_eq_getElem?_getD, List.getElem?_eq_getElem (by omega)]
      exact h.at_ _ (List.getElem_mem _)
    rw [play_take _ _ _ (by rw [lg_length h.len]; omega), hg]
    show _ = padB (if al.getD m 0 = i then pl.getD m ⟨#[]⟩ else lastS al pl i m)
    rw [List.getD_eq_getElem?_getD] at ih ⊢
    by_cases c : al.getD m 0 = i
    · rw [if_pos c, List.getElem?_set, if_pos (by show (al.getD m 0).toNat = i; omega), if_pos (by rw [play_length, List.length_replicate]; show (al.getD m 0).toNat < n; omega)]
      rfl
    · rw [if_neg c, List.getElem?_set, if_neg (by show ¬ (al.getD m 0).toNat = i; omega)]
      exact ih
theorem lastS_size {n k : Nat} {al : List Int} {pl : List ByteArray} (h : HI n k al pl) (i : Int) : ∀ m, m ≤ al.length → (lastS al pl i m).size ≤ 64
  | 0, _ => by show (0 : Nat) ≤ 64; omega
  | m + 1, hm => by
    show (if al.getD m 0 = i then pl.getD m ⟨#[]⟩ else lastS al pl i m).size ≤ 64
    split
    · rw [List.getD_eq_getElem?_getD, List.getElem?_eq_getElem (by have := h.len; omega)]
      exact h.pu _ (List.getElem_mem _)
    · exact lastS_size h i m (by omega)
def kUp (k : Int) (m : Nat) : Nat := min (max k 0).toNat m
theorem last_step {al : List Int} {pl : List ByteArray} {i k : Int} {m : Nat} : lastS al pl i (kUp k (m + 1)) = if al.getD m 0 = i ∧ (m : Int) < k then pl.getD m ⟨#[]⟩ else lastS al pl i (kUp k m) := by
  unfold kUp
  by_cases c : (m : Int) < k
  · rw [show min (max k 0).toNat (m + 1) = m + 1 by omega, show min (max k 0).toNat m = m by omega]
    show (if al.getD m 0 = i then pl.getD m ⟨#[]⟩ else lastS al pl i m) = _
    by_cases c2 : al.getD m 0 = i
    · rw [if_pos c2, if_pos ⟨c2, c⟩]
    · rw [if_neg c2, if_neg (fun h => c2 h.1)]
  · rw [if_neg (fun h => c h.2), show min (max k 0).toNat (m + 1) = min (max k 0).toNat m by omega]
theorem read_now {n k : Nat} {al : List Int} {pl : List ByteArray} (h : HI n k al pl) (i : Nat) (hi : i < n) : dvRead (hist n al pl) i = (padB (lastS al pl i al.length), 0) := by
  unfold dvRead
  have e : (hist n al pl).now.length = n := by simp [hist, play_length]
  rw [if_pos (by rw [e]; omega)]
  have := play_last h i hi al.length (Nat.le_refl _)
  rw [List.take_of_length_le (by rw [lg_length h.len]; exact Nat.le_refl _)] at this
  rw [Int.toNat_natCast]
  exact congrArg (fun x => (x, (0 : Int))) this
theorem upto_hist {n k : Nat} {al : List Int} {pl : List ByteArray} (h : HI n k al pl) (q : Int) : dvUpto (hist n al pl) q = kUp q al.length := by
  unfold dvUpto kUp
  show min (max q 0).toNat (lg al pl).length = _
  rw [lg_length h.len]
theorem read_then {n k : Nat} {al : List Int} {pl : List ByteArray} (h : HI n k al pl) (q : Int) (i : Nat) (hi : i < n) : dvRead (dvAfter (hist n al pl) q) i = (padB (lastS al pl i (kUp q al.length)), 0) := by
  unfold dvRead
  have e : (dvAfter (hist n al pl) q).now.length = n := by simp [dvAfter, hist, play_length]
  rw [if_pos (by rw [e]; omega), Int.toNat_natCast]
  have := play_last h i hi (kUp q al.length) (by unfold kUp; omega)
  rw [← upto_hist h] at this ⊢
  exact congrArg (fun x => (x, (0 : Int))) this
theorem after_all {n k : Nat} {al : List Int} {pl : List ByteArray} (h : HI n k al pl) (i : Int) : dvRead (dvAfter (hist n al pl) (al.length : Int)) i = dvRead (hist n al pl) i := by
  have e : (dvAfter (hist n al pl) (al.length : Int)).now = (hist n al pl).now := by
    show play (List.replicate n zB) ((lg al pl).take _) = play (List.replicate n zB) (lg al pl)
    rw [List.take_of_length_le (by rw [upto_hist h, lg_length h.len]; unfold kUp; omega)]
  unfold dvRead
  rw [e]
theorem other_write {n k : Nat} {al : List Int} {pl : List ByteArray} (h : HI n k al pl) (hn : 1 ≤ n) (q : Int) (s : ByteArray) (hs : s.size ≤ 64) : ∃ d2, dvWrite (dvAfter (hist n al pl) q) 0 s = (0, d2) ∧ d2.log.length = 1 := by
  have e : (dvAfter (hist n al pl) q).now.length = n := by simp [dvAfter, hist, play_length]
  unfold dvWrite
  rw [if_neg (by rw [e]; omega), if_neg (by omega), if_neg (by simp [dvAfter])]
  exact ⟨_, rfl, rfl⟩
theorem pad_made {s : ByteArray} : s ++ (⟨Array.replicate (64 - s.size) 0⟩ : ByteArray) = padB s := by
  unfold padB
  apply ByteArray.ext
  rw [ByteArray.data_append]
section
variable {R : Apart} {w0 w : World} {v v2 : Value} {d d2 : Dv}
theorem LD.rowD {α : Type} {k : Kd α} {e2 : Nat} {x : Value} {xs : List α} (h : LD (Dev2 w0.heap.size v2 d2 (OwnK k e2 w0.heap.size x xs R)) w0 w v d) : ∃ ok, k.R e2 w w0.heap.size ok x xs := by
  obtain ⟨PT, h1, ⟨Q, h4, Q2, h5, h6⟩, h3⟩ := h
  exact ⟨_, h5⟩
theorem LD.rowD2 {α β : Type} {k1 : Kd α} {k2 : Kd β} {e1 e2 : Nat} {x y : Value} {xs : List α} {ys : List β} (h : LD (Dev2 w0.heap.size v2 d2 (OwnK k1 e1 w0.heap.size x xs (OwnK k2 e2 w0.heap.size y ys R))) w0 w v d) : ∃ ok, k2.R e2 w w0.heap.size ok y ys := by
  obtain ⟨PT, h1, ⟨Q, h4, Q2, h5, Q3, h6, h7⟩, h3⟩ := h
  exact ⟨_, h6⟩
end
end Go.Proofs.Ytfinlgckalbfoaa.PAll
