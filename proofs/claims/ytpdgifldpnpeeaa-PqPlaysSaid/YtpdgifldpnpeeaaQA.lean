/- What a queue holds, plain: of each item its key, or none; how the rows follow when an item is set, dropped, popped. -/
import Derived.Test.YtpdgifldpnpeeaaQP
namespace Go.Proofs.Ytpdgifldpnpeeaa.PAll
open Go.RowKit Go.Proofs.YtpdgifldpnpeeaaW.PrintWords
set_option linter.unusedVariables false
set_option linter.unusedSimpArgs false

def gm (m : List (Option Int)) (x : Int) : Option Int := m.getD x.toNat none
def cnt : List (Option Int) → Nat
  | [] => 0
  | none :: r => cnt r
  | some _ :: r => cnt r + 1
theorem cnt_le : ∀ m : List (Option Int), cnt m ≤ m.length
  | [] => Nat.le_refl _
  | none :: r => by have := cnt_le r; simp only [cnt, List.length_cons]; omega
  | some _ :: r => by have := cnt_le r; simp only [cnt, List.length_cons]; omega
theorem cnt_new : ∀ (m : List (Option Int)) (i : Nat) (v : Int), i < m.length → m.getD i none = none → cnt (m.set i (some v)) = cnt m + 1
  | [], i, v, h, _ => by simp at h
  | x :: r, 0, v, h, h2 => by
    have : x = none := by simpa using h2
    subst this
    rfl
  | x :: r, i + 1, v, h, h2 => by
    have := cnt_new r i v (by simpa using h) (by simpa using h2)
    cases x <;> simp only [List.set_cons_succ, cnt, this]
theorem cnt_old : ∀ (m : List (Option Int)) (i : Nat) (u v : Int), m.getD i none = some u → cnt (m.set i (some v)) = cnt m
  | [], i, u, v, h => by simp at h
  | x :: r, 0, u, v, h2 => by
    have : x = some u := by simpa using h2
    subst this
    rfl
  | x :: r, i + 1, u, v, h2 => by
    have := cnt_old r i u v (by simpa using h2)
    cases x <;> simp only [List.set_cons_succ, cnt, this]
theorem cnt_drop : ∀ (m : List (Option Int)) (i : Nat) (u : Int), m.getD i none = some u → cnt (m.set i none) + 1 = cnt m
  | [], i, u, h => by simp at h
  | x :: r, 0, u, h2 => by
    have : x = some u := by simpa using h2
    subst this
    rfl
  | x :: r, i + 1, u, h2 => by
    have := cnt_drop r i u (by simpa using h2)
    cases x <;> simp only [List.set_cons_succ, cnt] <;> omega
theorem gm_set {m : List (Option Int)} {x y : Int} {v : Option Int} (h0 : 0 ≤ x) (h1 : x < m.length) (hy : 0 ≤ y) : gm (m.set x.toNat v) y = if y = x then v else gm m y := by
  unfold gm
  rw [List.getD_eq_getElem?_getD, List.getD_eq_getElem?_getD, List.getElem?_set]
  by_cases e : y = x
  · subst e
    rw [if_pos rfl, if_pos rfl, if_pos (by omega)]
    rfl
  · rw [if_neg (by omega), if_neg e]

structure QAbs (m : List (Option Int)) (hp pl ky : List Int) : Prop where
  I : QI m.length hp pl ky
  heap : Heap hp ky
  ab : ∀ x : Int, 0 ≤ x → x < m.length → gm m x = if rd pl x < 0 then none else some (rd ky x)
  len : hp.length = cnt m

/-- What settle is handed, and what it gives back. -/
structure QPre (m : List (Option Int)) (hp pl ky : List Int) : Prop where
  I : QI m.length hp pl ky
  ab : ∀ x : Int, 0 ≤ x → x < m.length → gm m x = if rd pl x < 0 then none else some (rd ky x)
  len : hp.length = cnt m
theorem QPre.fin {m : List (Option Int)} {hp pl ky hp2 pl2 : List Int} (h : QPre m hp pl ky) (hl : hp2.length = hp.length) (hI : QI m.length hp2 pl2 ky) (hs : Same m.length pl pl2) (hh : Heap hp2 ky) : QAbs m hp2 pl2 ky :=
  ⟨hI, hh, fun x h0 h1 => by
    rw [h.ab x h0 h1]
    have := hs x h0 h1
    by_cases c : rd pl x < 0
    · rw [if_pos c, if_pos (this.2 c)]
    · rw [if_neg c, if_neg (fun c2 => c (this.1 c2))], hl.trans h.len⟩

section
variable {m : List (Option Int)} {hp pl ky : List Int}
theorem inj_hp {n : Nat} (h : QI n hp pl ky) {a b : Int} (a0 : 0 ≤ a) (a1 : a < hp.length) (b0 : 0 ≤ b) (b1 : b < hp.length) (e : rd hp a = rd hp b) : a = b := by
  have h1 := (h.hb a a0 a1).2.2
  have h2 := (h.hb b b0 b1).2.2
  rw [e] at h1
  exact h1.symm.trans h2
theorem ord_key {ky : List Int} {x v a b : Int} (h0 : 0 ≤ x) (h1 : x < ky.length) (ha : 0 ≤ a) (hb : 0 ≤ b) (na : a ≠ x) (nb : b ≠ x) (h : ord ky a b) : ord (ky.set x.toNat v) a b := by
  unfold ord
  rw [rd_set' _ _ _ _ h0 h1 ha, rd_set' _ _ _ _ h0 h1 hb, if_neg na, if_neg nb]
  exact h

/-- An item of the queue gets another key. -/
theorem set_old (h : QAbs m hp pl ky) {x v : Int} (h0 : 0 ≤ x) (h1 : x < m.length) (hin : 0 ≤ rd pl x) :
    QPre (m.set x.toNat (some v)) hp pl (ky.set x.toNat v) ∧ Hole hp (ky.set x.toNat v) (rd pl x) ∧ 0 ≤ rd pl x ∧ rd pl x < hp.length := by
  have hlk := h.I.lk
  have hk1 : x < ky.length := by rw [hlk]; exact h1
  obtain ⟨i0, i1, ix⟩ : 0 ≤ rd pl x ∧ rd pl x < hp.length ∧ rd hp (rd pl x) = x := (h.I.pb x h0 h1).resolve_left (by omega)
  have hx := h.ab x h0 h1
  rw [if_neg (by omega)] at hx
  have ne : ∀ j : Int, 0 ≤ j → j < hp.length → j ≠ rd pl x → rd hp j ≠ x := fun j j0 j1 hj e => hj (inj_hp h.I j0 j1 i0 i1 (e.trans ix.symm))
  have nn : ∀ j : Int, 0 ≤ j → j < hp.length → 0 ≤ rd hp j := fun j j0 j1 => (h.I.hb j j0 j1).1
  have hole := hole_of_heap h.heap (rd pl x) i1
  refine ⟨⟨⟨by rw [List.length_set]; exact h.I.lp, by rw [List.length_set, List.length_set]; exact hlk, fun j j0 j1 => by rw [List.length_set]; exact h.I.hb j j0 j1, fun y y0 y1 => h.I.pb y y0 (by rw [List.length_set] at y1; exact y1)⟩, fun y y0 y1 => ?_, ?_⟩, ⟨fun k k0 k1 k2 k3 => ?_, fun c c0 c1 c2 c3 => ?_⟩, i0, i1⟩
  · rw [List.length_set] at y1
    rw [gm_set h0 h1 y0, rd_set' _ _ _ _ h0 hk1 y0]
    by_cases c : y = x
    · subst c
      rw [if_pos rfl, if_pos rfl, if_neg (by omega)]
    · rw [if_neg c, if_neg c]
      exact h.ab y y0 y1
  · rw [cnt_old _ _ _ _ (show m.getD x.toNat none = _ from hx)]
    exact h.len
  · exact ord_key h0 hk1 (nn _ (by omega) (by omega)) (nn _ (by omega) k1) (ne _ (by omega) (by omega) k3) (ne _ (by omega) k1 k2) (hole.1 k k0 k1 k2 k3)
  · exact ord_key h0 hk1 (nn _ (by omega) (by omega)) (nn _ (by omega) c1) (ne _ (by omega) (by omega) (by omega)) (ne _ (by omega) c1 (by omega)) (hole.2 c c0 c1 c2 c3)

theorem rd_app (xs : List Int) (x j : Int) (hj : 0 ≤ j) : rd (xs ++ [x]) j = if j < xs.length then rd xs j else if j = xs.length then x else 0 := by
  unfold rd
  rw [List.getD_eq_getElem?_getD, List.getD_eq_getElem?_getD]
  by_cases c : j < xs.length
  · rw [if_pos c, List.getElem?_append_left (by omega)]
  · rw [if_neg c, List.getElem?_append_right (by omega)]
    by_cases e : j = xs.length
    · rw [if_pos e, show j.toNat - xs.length = 0 by omega]
      rfl
    · rw [if_neg e, List.getElem?_eq_none (by simp; omega)]
      rfl
/-- An item that is not in the queue is put behind it. -/
theorem set_new (h : QAbs m hp pl ky) {x v : Int} (h0 : 0 ≤ x) (h1 : x < m.length) (hin : rd pl x < 0) :
    QPre (m.set x.toNat (some v)) (hp ++ [x]) (pl.set x.toNat hp.length) (ky.set x.toNat v) ∧ Hole (hp ++ [x]) (ky.set x.toNat v) hp.length ∧ rd (pl.set x.toNat hp.length) x = hp.length := by
  have hlk := h.I.lk
  have hlp := h.I.lp
  have hk1 : x < ky.length := by rw [hlk]; exact h1
  have hp1 : x < pl.length := by rw [hlp]; exact h1
  have hx := h.ab x h0 h1
  rw [if_pos hin] at hx
  have ne : ∀ j : Int, 0 ≤ j → j < hp.length → rd hp j ≠ x := fun j j0 j1 e => by
    have := (h.I.hb j j0 j1).2.2
    rw [e] at this
    omega
  have nn : ∀ j : Int, 0 ≤ j → j < hp.length → 0 ≤ rd hp j := fun j j0 j1 => (h.I.hb j j0 j1).1
  have la : ((hp ++ [x]).length : Int) = hp.length + 1 := by simp
  refine ⟨⟨⟨by rw [List.length_set, List.length_set]; exact hlp, by rw [List.length_set, List.length_set]; exact hlk, fun j j0 j1 => ?_, fun y y0 y1 => ?_⟩, fun y y0 y1 => ?_, ?_⟩, ⟨fun k k0 k1 k2 k3 => ?_, fun c c0 c1 c2 c3 => ?_⟩, ?_⟩
  · rw [la] at j1
    rw [rd_app _ _ _ j0, List.length_set]
    by_cases c : j < hp.length
    · rw [if_pos c, rd_set' _ _ _ _ h0 hp1 (nn j j0 c), if_neg (ne j j0 c)]
      exact h.I.hb j j0 c
    · rw [if_neg c, if_pos (by omega), rd_set' _ _ _ _ h0 hp1 h0, if_pos rfl]
      exact ⟨h0, h1, by omega⟩
  · rw [List.length_set] at y1
    rw [la, rd_set' _ _ _ _ h0 hp1 y0]
    by_cases c : y = x
    · rw [if_pos c, rd_app _ _ _ (by omega), if_neg (by omega), if_pos rfl]
      exact .inr ⟨by omega, by omega, c.symm⟩
    · rw [if_neg c]
      rcases h.I.pb y y0 y1 with g | ⟨g0, g1, g2⟩
      · exact .inl g
      · exact .inr ⟨g0, by omega, by rw [rd_app _ _ _ g0, if_pos g1]; exact g2⟩
  · rw [List.length_set] at y1
    rw [gm_set h0 h1 y0, rd_set' _ _ _ _ h0 hk1 y0, rd_set' _ _ _ _ h0 hp1 y0]
    by_cases c : y = x
    · rw [if_pos c, if_pos c, if_pos c, if_neg (by omega)]
    · rw [if_neg c, if_neg c, if_neg c]
      exact h.ab y y0 y1
  · rw [cnt_new _ _ _ (by omega) (show m.getD x.toNat none = _ from hx), List.length_append, h.len]
    rfl
  · rw [la] at k1
    rw [rd_app _ _ _ (by omega), rd_app _ _ _ (by omega), if_pos (by omega), if_pos (by omega)]
    exact ord_key h0 hk1 (nn _ (by omega) (by omega)) (nn _ (by omega) (by omega)) (ne _ (by omega) (by omega)) (ne _ (by omega) (by omega)) (h.heap k k0 (by omega))
  · rw [la] at c1
    omega
  · rw [rd_set' _ _ _ _ h0 hp1 h0, if_pos rfl]

theorem rd_take (xs : List Int) (n : Nat) (j : Int) (h1 : j < n) (h0 : 0 ≤ j) : rd (xs.take n) j = rd xs j := by
  unfold rd
  rw [List.getD_eq_getElem?_getD, List.getD_eq_getElem?_getD, List.getElem?_take_of_lt (by omega)]
/-- An item is dropped. -/
theorem drop_item (h : QAbs m hp pl ky) {x : Int} (h0 : 0 ≤ x) (h1 : x < m.length) (hin : 0 ≤ rd pl x) :
    QPre (m.set x.toNat none) ((swh hp (rd pl x) (hp.length - 1)).take (hp.length - 1)) ((swp hp pl (rd pl x) (hp.length - 1)).set x.toNat (-1)) ky ∧
    (rd pl x = hp.length - 1 → Heap ((swh hp (rd pl x) (hp.length - 1)).take (hp.length - 1)) ky) ∧ (rd pl x < hp.length - 1 → Hole ((swh hp (rd pl x) (hp.length - 1)).take (hp.length - 1)) ky (rd pl x)) ∧ 0 ≤ rd pl x ∧ rd pl x < hp.length ∧ 0 < hp.length := by
  have hlk := h.I.lk
  have hlp := h.I.lp
  obtain ⟨i0, i1, ix⟩ : 0 ≤ rd pl x ∧ rd pl x < hp.length ∧ rd hp (rd pl x) = x := (h.I.pb x h0 h1).resolve_left (by omega)
  have hx := h.ab x h0 h1
  rw [if_neg (by omega)] at hx
  generalize hi : rd pl x = i at *
  have hl0 : 0 < hp.length := by omega
  obtain ⟨L, hL⟩ : ∃ L : Nat, hp.length = L + 1 := ⟨hp.length - 1, by omega⟩
  have eL : (hp.length : Int) - 1 = L := by omega
  have eL2 : hp.length - 1 = L := by omega
  rw [eL, eL2]
  obtain ⟨sI, sS⟩ := swap_QI h.I i0 i1 (show (0 : Int) ≤ L by omega) (show (L : Int) < hp.length by omega)
  have sw : ∀ j, 0 ≤ j → rd (swh hp i L) j = if j = L then rd hp i else if j = i then rd hp L else rd hp j := fun j hj => swh_rd i0 i1 (by omega) (by omega) hj
  have swl : (swh hp i L).length = hp.length := swh_len _ _ _
  have spl : (swp hp pl i L).length = pl.length := swp_len _ _ _ _
  have hpx : x < (swp hp pl i L).length := by rw [spl, hlp]; exact h1
  have tl : ((swh hp i L).take L).length = L := by rw [List.length_take, swl]; omega
  have rt : ∀ j : Int, 0 ≤ j → j < L → rd ((swh hp i L).take L) j = if j = i then rd hp L else rd hp j := fun j j0 j1 => by
    rw [rd_take _ _ _ (by omega) j0, sw j j0, if_neg (by omega)]
  have ne : ∀ j : Int, 0 ≤ j → j < L → rd (swh hp i L) j ≠ x := fun j j0 j1 e => by
    have e2 : rd (swh hp i L) L = x := by rw [sw _ (by omega), if_pos rfl]; exact ix
    have := inj_hp sI (a := j) (b := L) j0 (by rw [swl]; omega) (by omega) (by rw [swl]; omega) (e.trans e2.symm)
    omega
  refine ⟨⟨⟨by rw [List.length_set, List.length_set, spl]; exact hlp, by rw [List.length_set]; exact hlk, fun j j0 j1 => ?_, fun y y0 y1 => ?_⟩, fun y y0 y1 => ?_, ?_⟩, fun e k k0 k1 => ?_, fun e => ⟨fun k k0 k1 k2 k3 => ?_, fun c c0 c1 c2 c3 => ?_⟩, i0, i1, hl0⟩
  · rw [tl] at j1
    have hj := sI.hb j j0 (by rw [swl]; omega)
    rw [rd_take _ _ _ j1 j0, List.length_set, rd_set' _ _ _ _ h0 hpx hj.1, if_neg (ne j j0 j1)]
    exact hj
  · rw [List.length_set] at y1
    rw [tl, rd_set' _ _ _ _ h0 hpx y0]
    by_cases c : y = x
    · rw [if_pos c]
      exact .inl rfl
    · rw [if_neg c]
      rcases sI.pb y y0 y1 with g | ⟨g0, g1, g2⟩
      · exact .inl g
      · rw [swl] at g1
        have : rd (swp hp pl i L) y ≠ L := fun e => c (by
          rw [← g2, e, sw _ (by omega), if_pos rfl]
          exact ix)
        exact .inr ⟨g0, by omega, by rw [rd_take _ _ _ (by omega) g0]; exact g2⟩
  · rw [List.length_set] at y1
    rw [gm_set h0 h1 y0, rd_set' _ _ _ _ h0 hpx y0]
    by_cases c : y = x
    · rw [if_pos c, if_pos c, if_pos (by omega)]
    · rw [if_neg c, if_neg c, h.ab y y0 y1]
      have := sS y y0 y1
      by_cases c2 : rd pl y < 0
      · rw [if_pos c2, if_pos (this.2 c2)]
      · rw [if_neg c2, if_neg (fun c3 => c2 (this.1 c3))]
  · have := cnt_drop _ _ _ (show m.getD x.toNat none = _ from hx)
    rw [tl]
    have := h.len
    omega
  · rw [tl] at k1
    rw [rt _ (by omega) (by omega), rt _ (by omega) k1, if_neg (by omega), if_neg (by omega)]
    exact h.heap k k0 (by omega)
  · rw [tl] at k1
    rw [rt _ (by omega) (by omega), rt _ (by omega) k1, if_neg k3, if_neg k2]
    exact h.heap k k0 (by omega)
  · rw [tl] at c1
    rw [rt _ (by omega) (by omega), rt _ (by omega) c1, if_neg (by omega), if_neg (by omega)]
    exact (hole_of_heap h.heap i i1).2 c c0 (by omega) c2 c3
end

/-- The first item with the least key, from item i on: b is the best so far. -/
def bestFrom : List (Option Int) → Int → Int → Int → Int × Int
  | [], _, b, bk => (b, bk)
  | none :: r, i, b, bk => bestFrom r (i + 1) b bk
  | some k :: r, i, b, bk => if b < 0 ∨ k < bk then bestFrom r (i + 1) i k else bestFrom r (i + 1) b bk
theorem best_spec : ∀ (r : List (Option Int)) (i b bk b2 bk2 : Int), 0 ≤ i → b < i → bestFrom r i b bk = (b2, bk2) →
    (b2 < 0 → b < 0 ∧ ∀ j : Nat, r.getD j none = none) ∧
    (0 ≤ b2 → ((b2 = b ∧ bk2 = bk) ∨ (i ≤ b2 ∧ r.getD (b2 - i).toNat none = some bk2)) ∧ (0 ≤ b → bk2 < bk ∨ (bk2 = bk ∧ b2 = b)) ∧ ∀ (j : Nat) (k : Int), r.getD j none = some k → bk2 < k ∨ (bk2 = k ∧ b2 ≤ i + j))
  | [], i, b, bk, b2, bk2, h0, hb, h => by
    simp only [bestFrom, Prod.mk.injEq] at h
    obtain ⟨rfl, rfl⟩ := h
    exact ⟨fun c => ⟨c, fun j => by simp⟩, fun c => ⟨.inl ⟨rfl, rfl⟩, fun _ => .inr ⟨rfl, rfl⟩, fun j k hk => by simp at hk⟩⟩
  | none :: r, i, b, bk, b2, bk2, h0, hb, h => by
    rw [bestFrom] at h
    obtain ⟨g1, g2⟩ := best_spec r (i + 1) b bk b2 bk2 (by omega) (by omega) h
    refine ⟨fun c => ⟨(g1 c).1, fun j => ?_⟩, fun c => ?_⟩
    · cases j with
      | zero => rfl
      | succ j => simpa using (g1 c).2 j
    · obtain ⟨a1, a2, a3⟩ := g2 c
      refine ⟨a1.imp_right (fun ⟨e1, e2⟩ => ⟨by omega, by rw [show (b2 - i).toNat = (b2 - (i + 1)).toNat + 1 by omega]; simpa using e2⟩), a2, fun j k hk => ?_⟩
      · cases j with
        | zero => simp at hk
        | succ j =>
          have := a3 j k (by simpa using hk)
          push_cast
          omega
  | some k0 :: r, i, b, bk, b2, bk2, h0, hb, h => by
    rw [bestFrom] at h
    by_cases c : b < 0 ∨ k0 < bk
    · rw [if_pos c] at h
      obtain ⟨g1, g2⟩ := best_spec r (i + 1) i k0 b2 bk2 (by omega) (by omega) h
      refine ⟨fun c2 => absurd (g1 c2).1 (by omega), fun c2 => ?_⟩
      obtain ⟨a1, a2, a3⟩ := g2 c2
      have a2 := a2 h0
      refine ⟨.inr ?_, fun hb0 => ?_, fun j k hk => ?_⟩
      · rcases a1 with ⟨e1, e2⟩ | ⟨e1, e2⟩
        · rw [e1, e2, show (i - i).toNat = 0 by omega]
          exact ⟨Int.le_refl _, rfl⟩
        · refine ⟨by omega, ?_⟩
          rw [show (b2 - i).toNat = (b2 - (i + 1)).toNat + 1 by omega]
          simpa using e2
      · have : k0 < bk := c.resolve_left (by omega)
        omega
      · cases j with
        | zero =>
          have : k0 = k := by simpa using hk
          push_cast
          omega
        | succ j =>
          have := a3 j k (by simpa using hk)
          push_cast
          omega
    · rw [if_neg c] at h
      obtain ⟨g1, g2⟩ := best_spec r (i + 1) b bk b2 bk2 (by omega) (by omega) h
      refine ⟨fun c2 => absurd (g1 c2).1 (by omega), fun c2 => ?_⟩
      obtain ⟨a1, a2, a3⟩ := g2 c2
      have a2 := a2 (by omega)
      refine ⟨a1.imp_right (fun ⟨e1, e2⟩ => ⟨by omega, by rw [show (b2 - i).toNat = (b2 - (i + 1)).toNat + 1 by omega]; simpa using e2⟩), fun _ => a2, fun j k hk => ?_⟩
      · cases j with
        | zero =>
          have : k0 = k := by simpa using hk
          push_cast
          omega
        | succ j =>
          have := a3 j k (by simpa using hk)
          push_cast
          omega

/-- The first of the heap is the first item with the least key. -/
theorem best_heap {m : List (Option Int)} {hp pl ky : List Int} (h : QAbs m hp pl ky) (hl : 0 < hp.length) : bestFrom m 0 (-1) 0 = (rd hp 0, rd ky (rd hp 0)) ∧ 0 ≤ rd hp 0 ∧ rd hp 0 < m.length ∧ 0 ≤ rd pl (rd hp 0) := by
  obtain ⟨x0, x1, x2⟩ := h.I.hb 0 (by omega) (by omega)
  have hx := h.ab _ x0 x1
  rw [if_neg (by omega)] at hx
  cases hb : bestFrom m 0 (-1) 0 with
  | mk b bk =>
    obtain ⟨g1, g2⟩ := best_spec m 0 (-1) 0 b bk (by omega) (by omega) hb
    have hb0 : 0 ≤ b := by
      by_cases c : b < 0
      · have := (g1 c).2 (rd hp 0).toNat
        rw [show m.getD (rd hp 0).toNat none = _ from hx] at this
        cases this
      · omega
    obtain ⟨a1, _, a3⟩ := g2 hb0
    have a1 : m.getD b.toNat none = some bk := by
      rcases a1 with ⟨e, _⟩ | ⟨_, e⟩
      · omega
      · rw [show (b - 0).toNat = b.toNat by omega] at e
        exact e
    have hbl : b < m.length := by
      by_cases c : b < m.length
      · exact c
      · rw [List.getD_eq_getElem?_getD, List.getElem?_eq_none (by omega)] at a1
        cases a1
    have hab := h.ab b hb0 hbl
    rw [show gm m b = some bk from a1] at hab
    have hpb : ¬ rd pl b < 0 := fun c => by rw [if_pos c] at hab; cases hab
    rw [if_neg hpb] at hab
    have ek : bk = rd ky b := Option.some.inj hab
    obtain ⟨p0, p1, p2⟩ := (h.I.pb b hb0 hbl).resolve_left (by omega)
    have ho := heap_first h.heap _ (rd pl b) p0 p1 (Nat.le_refl _)
    rw [p2] at ho
    have := a3 (rd hp 0).toNat (rd ky (rd hp 0)) hx
    unfold ord at ho
    have hbe : b = rd hp 0 := by omega
    exact ⟨by rw [ek, hbe], x0, x1, by omega⟩
theorem best_none {m : List (Option Int)} (h : cnt m = 0) : bestFrom m 0 (-1) 0 = (-1, 0) := by
  have : ∀ (r : List (Option Int)) (i : Int), cnt r = 0 → bestFrom r i (-1) 0 = (-1, 0) := by
    intro r
    induction r with
    | nil => intro i _; rfl
    | cons x r ih =>
      intro i hc
      cases x with
      | none => rw [bestFrom]; exact ih _ hc
      | some k => simp [cnt] at hc
  exact this m 0 h
end Go.Proofs.Ytpdgifldpnpeeaa.PAll
