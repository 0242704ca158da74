/- Shortest distances, plain: what both algorithms come to, and that it is one thing. The document's functions (chapters 37, 38) in closed form: Check, Reverse, Ints, From. The example of the chapter; how much a law takes. -/
import Derived.Test.YtofhgmdehglhgaaDk
import Derived.Test.YtofhgmdehglhgaaBas
import Derived.Test.YtofhgmdehglhgaaPAllx12
import Derived.Test.YtofhgmdehglhgaaPAllx13
import Derived.Test.YtofhgmdehglhgaaPAllx22
import Derived.Test.YtofhgmdehglhgaaPAllx10
import Derived.Test.YtofhgmdehglhgaaPAllx14
import Derived.Test.YtofhgmdehglhgaaPAllx11
import Derived.Test.YtofhgmdehglhgaaPAllx1
namespace Go.Proofs.Ytofhgmdehglhgaa.PAll
open Go.RowKit Go.Proofs.YtofhgmdehglhgaaW.PrintWords Go.Proofs.YtofhgmdehglhgaaW.PrintLast Go.Proofs.YtofhgmdehglhgaaW.PrintMore Go.Proofs.Ytofhgmdehglhgaa.Bas
set_option linter.unusedVariables false
set_option linter.unusedSimpArgs false

/-- A graph with its weights, as Check lets it in. -/
structure Gr (n : Nat) (l : List S40) (x : List Int) : Prop where
  len : x.length = l.length
  ends : ∀ a : Int, 0 ≤ a → a < l.length → 0 ≤ (rd_T40 l a).f0 ∧ (rd_T40 l a).f0 < n ∧ 0 ≤ (rd_T40 l a).f1 ∧ (rd_T40 l a).f1 < n
  wt : ∀ a : Int, 0 ≤ a → a < l.length → -1 ≤ rd x a ∧ rd x a ≤ 1073741824
  few : l.length ≤ 4194304
  nfew : n ≤ 1048576
theorem gr_of {n : Nat} {l : List S40} {x : List Int} (h : dchk n l x = 0) : Gr n l x := by
  have hz := dchk_zero h
  obtain ⟨g1, g2, g3, g4⟩ := gchk_arc hz.1
  refine ⟨hz.2, fun a h0 h1 => ?_, fun a h0 h1 => ?_, g3, by omega⟩
  · have := g4 a.toNat (by omega)
    rw [Int.toNat_of_nonneg h0] at this
    exact this
  · unfold dchk at h
    rw [if_pos hz.1, if_pos hz.2] at h
    split at h
    · rename_i c
      rw [List.all_eq_true] at c
      have hl : a.toNat < x.length := by have := hz.2; omega
      have := c x[a.toNat] (List.getElem_mem hl)
      unfold rd
      rw [List.getD_eq_getElem?_getD, List.getElem?_eq_getElem hl]
      exact of_decide_eq_true this
    · cases h
/-- Walks from s: the end, the cost. -/
inductive Walk (l : List S40) (x : List Int) (s : Int) : Int → Int → Prop
  | nil : Walk l x s s 0
  | step {c a : Int} : Walk l x s (rd_T40 l a).f0 c → 0 ≤ a → a < l.length → 0 ≤ rd x a → Walk l x s (rd_T40 l a).f1 (c + rd x a)
/-- The distances from s. -/
structure Sp (n : Nat) (l : List S40) (x : List Int) (s : Int) (d : List Int) : Prop where
  len : d.length = n
  rng : ∀ v : Int, 0 ≤ v → v < n → 0 ≤ rd d v ∧ rd d v ≤ 1152921504606846976
  src : rd d s = 0
  rel : ∀ a : Int, 0 ≤ a → a < l.length → 0 ≤ rd x a → rd d (rd_T40 l a).f0 < 1152921504606846976 → rd d (rd_T40 l a).f1 ≤ rd d (rd_T40 l a).f0 + rd x a
  snd : ∀ v : Int, 0 ≤ v → v < n → rd d v < 1152921504606846976 → Walk l x s v (rd d v)
section
variable {n : Nat} {l : List S40} {x : List Int} {s : Int} {d d' : List Int}
theorem Sp.le (hG : Gr n l x) (hs : 0 ≤ s ∧ s < n) (h : Sp n l x s d) {v c : Int} (hw : Walk l x s v c) : 0 ≤ v ∧ v < n ∧ 0 ≤ c ∧ rd d v ≤ c := by
  induction hw with
  | nil => exact ⟨hs.1, hs.2, by omega, by rw [h.src]; omega⟩
  | @step c a w h0 h1 h2 ih =>
    obtain ⟨e1, e2, e3, e4⟩ := hG.ends a h0 h1
    refine ⟨e3, e4, by omega, ?_⟩
    by_cases cc : rd d (rd_T40 l a).f0 < 1152921504606846976
    · have := h.rel a h0 h1 h2 cc
      omega
    · have := (h.rng _ e3 e4).2
      omega
theorem Sp.lt (hG : Gr n l x) (hs : 0 ≤ s ∧ s < n) (h : Sp n l x s d) (h' : Sp n l x s d') (v : Int) (h0 : 0 ≤ v) (h1 : v < n) : rd d v ≤ rd d' v := by
  by_cases c : rd d' v < 1152921504606846976
  · exact (h.le hG hs (h'.snd v h0 h1 c)).2.2.2
  · have := (h.rng v h0 h1).2
    omega
theorem rd_ext (hl : d.length = d'.length) (h : ∀ v : Int, 0 ≤ v → v < d.length → rd d v = rd d' v) : d = d' := by
  apply List.ext_getElem hl
  intro i h1 h2
  have := h (i : Int) (by omega) (by omega)
  unfold rd at this
  rw [Int.toNat_natCast, List.getD_eq_getElem?_getD, List.getD_eq_getElem?_getD, List.getElem?_eq_getElem h1, List.getElem?_eq_getElem h2] at this
  exact this
theorem Sp.uniq (hG : Gr n l x) (hs : 0 ≤ s ∧ s < n) (h : Sp n l x s d) (h' : Sp n l x s d') : d = d' :=
  rd_ext (h.len.trans h'.len.symm) (fun v h0 h1 => by
    have := h.lt hG hs h' v h0 (by rw [h.len] at h1; exact h1)
    have := h'.lt hG hs h v h0 (by rw [h.len] at h1; exact h1)
    omega)
/-- A vertex other than the start is reached over an arc that attains its distance. -/
theorem Sp.last (hG : Gr n l x) (hs : 0 ≤ s ∧ s < n) (h : Sp n l x s d) (v : Int) (h0 : 0 ≤ v) (h1 : v < n) (hv : v ≠ s) (hf : rd d v < 1152921504606846976) :
    ∃ a : Int, 0 ≤ a ∧ a < l.length ∧ 0 ≤ rd x a ∧ (rd_T40 l a).f1 = v ∧ rd d (rd_T40 l a).f0 < 1152921504606846976 ∧ rd d (rd_T40 l a).f0 + rd x a = rd d v := by
  have hw := h.snd v h0 h1 hf
  generalize hc : rd d v = c at hw
  cases hw with
  | nil => exact absurd rfl hv
  | @step c a w a0 a1 a2 =>
    obtain ⟨e1, e2, e3, e4⟩ := hG.ends a a0 a1
    have l1 := h.le hG hs w
    have hlt : rd d (rd_T40 l a).f0 < 1152921504606846976 := by omega
    have := h.rel a a0 a1 a2 hlt
    exact ⟨a, a0, a1, a2, rfl, hlt, by omega⟩
theorem Walk.trans {t v c e : Int} (h : Walk l x s t c) (k : Walk l x t v e) : Walk l x s v (c + e) := by
  induction k with
  | nil => simpa using h
  | @step c2 a w h0 h1 h2 ih =>
    have := Walk.step ih h0 h1 h2
    rw [show c + (c2 + rd x a) = c + c2 + rd x a by omega]
    exact this
theorem Walk.mono {x' : List Int} {v c : Int} (hx : ∀ a : Int, 0 ≤ a → a < l.length → 0 ≤ rd x a → rd x' a = rd x a) (h : Walk l x s v c) : Walk l x' s v c := by
  induction h with
  | nil => exact .nil
  | @step c2 a w h0 h1 h2 ih =>
    rw [← hx a h0 h1 h2]
    exact .step ih h0 h1 (by rw [hx a h0 h1 h2]; exact h2)
end
/-- The distances added up. -/
def sumN : List Int → Nat
  | [] => 0
  | y :: r => y.toNat + sumN r
theorem sumN_set : ∀ (d : List Int) (i : Nat) (c : Int), i < d.length → 0 ≤ c → c < d.getD i 0 → sumN (d.set i c) + (d.getD i 0 - c).toNat = sumN d
  | [], i, c, h, _, _ => by simp at h
  | y :: r, 0, c, _, h0, h1 => by
    simp only [List.set_cons_zero, sumN, List.getD_cons_zero] at h1 ⊢
    omega
  | y :: r, i + 1, c, h, h0, h1 => by
    simp only [List.set_cons_succ, sumN, List.getD_cons_succ] at h1 ⊢
    have := sumN_set r i c (by simpa using h) h0 h1
    omega
theorem cnt_set_some : ∀ (m : List (Option Int)) (i : Nat) (k : Int), cnt (m.set i (some k)) ≤ cnt m + 1
  | [], i, k => by simp [cnt]
  | none :: r, 0, k => by simp [cnt]
  | some y :: r, 0, k => by simp [cnt]
  | none :: r, i + 1, k => by
    simp only [List.set_cons_succ, cnt]
    exact cnt_set_some r i k
  | some y :: r, i + 1, k => by
    simp only [List.set_cons_succ, cnt]
    have := cnt_set_some r i k
    omega
theorem cnt_set_none : ∀ (m : List (Option Int)) (i : Nat) (k : Int), m.getD i none = some k → cnt (m.set i none) + 1 = cnt m
  | [], i, k, h => by simp at h
  | none :: r, 0, k, h => by simp at h
  | some y :: r, 0, k, h => by simp [cnt]
  | none :: r, i + 1, k, h => by
    simp only [List.set_cons_succ, cnt]
    exact cnt_set_none r i k (by simpa using h)
  | some y :: r, i + 1, k, h => by
    simp only [List.set_cons_succ, cnt]
    have := cnt_set_none r i k (by simpa using h)
    omega
theorem gm_setq (m : List (Option Int)) (i j : Int) (k : Option Int) (h0 : 0 ≤ i) (h1 : i < m.length) (hj : 0 ≤ j) : gm (m.set i.toNat k) j = if j = i then k else gm m j := by
  unfold gm
  rw [List.getD_eq_getElem?_getD, List.getD_eq_getElem?_getD, List.getElem?_set]
  by_cases e : j = i
  · subst e
    rw [if_pos rfl, if_pos (by omega), if_pos rfl]
    rfl
  · rw [if_neg (by omega), if_neg e]
/-- The vertices whose chain of arcs leads back to s. -/
inductive Tree (l : List S40) (s : Int) (v : List Int) : Int → Prop
  | base : Tree l s v s
  | step {u : Int} : u ≠ s → Tree l s v (rd_T40 l (rd v u)).f0 → Tree l s v u
/-- What holds while arcs (those of P) are still to be looked at. -/
structure Inv (n : Nat) (l : List S40) (x : List Int) (s : Int) (P : Int → Prop) (S : DS) : Prop where
  di : DInv n S
  rng : ∀ v : Int, 0 ≤ v → v < n → 0 ≤ rd S.d v ∧ rd S.d v ≤ 1152921504606846976
  src : rd S.d s = 0
  snd : ∀ v : Int, 0 ≤ v → v < n → rd S.d v < 1152921504606846976 → Walk l x s v (rd S.d v)
  q : ∀ u k : Int, 0 ≤ u → u < n → gm S.m u = some k → k = rd S.d u ∧ rd S.d u < 1152921504606846976
  don : ∀ a : Int, 0 ≤ a → a < l.length → 0 ≤ rd x a → gm S.m (rd_T40 l a).f0 = none → ¬ P a → rd S.d (rd_T40 l a).f0 < 1152921504606846976 → rd S.d (rd_T40 l a).f1 ≤ rd S.d (rd_T40 l a).f0 + rd x a
  vs : rd S.v s = -1
  vi : ∀ v : Int, 0 ≤ v → v < n → v ≠ s → rd S.d v < 1152921504606846976 → 0 ≤ rd S.v v ∧ rd S.v v < l.length ∧ 0 ≤ rd x (rd S.v v) ∧ (rd_T40 l (rd S.v v)).f1 = v ∧ rd S.d (rd_T40 l (rd S.v v)).f0 + rd x (rd S.v v) ≤ rd S.d v
  tr : ∀ v : Int, 0 ≤ v → v < n → rd S.d v < 1152921504606846976 → Tree l s S.v v
section
variable {n : Nat} {l : List S40} {x : List Int} {s : Int}
/-- One arc of p is looked at. -/
theorem Inv.arc (hG : Gr n l x) (hs : 0 ≤ s ∧ s < n) {P : Int → Prop} {S : DS} (h : Inv n l x s P S) (p c a : Int) (hp0 : 0 ≤ p) (hp1 : p < n) (hm : gm S.m p = none) (hc : rd S.d p = c) (hci : c < 1152921504606846976) (a0 : 0 ≤ a) (a1 : a < l.length) (ha : (rd_T40 l a).f0 = p) :
    Inv n l x s (fun b => P b ∧ b ≠ a) (arcP l x false c S a) ∧ gm (arcP l x false c S a).m p = none ∧ rd (arcP l x false c S a).d p = c ∧ sumN (arcP l x false c S a).d * (n + 1) + cnt (arcP l x false c S a).m ≤ sumN S.d * (n + 1) + cnt S.m := by
  obtain ⟨e1, e2, e3, e4⟩ := hG.ends a a0 a1
  have hc0 : 0 ≤ c := by rw [← hc]; exact (h.rng p hp0 hp1).1
  have hwt := hG.wt a a0 a1
  unfold arcP
  rw [show farP l false a = (rd_T40 l a).f1 from if_neg Bool.false_ne_true]
  by_cases hx : 0 ≤ rd x a
  · rw [if_pos hx]
    have hwr : wrap64 (c + rd x a) = c + rd x a := by unfold wrap64; omega
    rw [hwr]
    generalize hw : (rd_T40 l a).f1 = w at *
    unfold relaxP
    by_cases hr : c + rd x a < rd S.d w
    · rw [if_pos hr]
      have hwp : w ≠ p := fun e => by rw [e, hc] at hr; omega
      have hws : w ≠ s := fun e => by rw [e, h.src] at hr; omega
      have hdl : w < S.d.length := by rw [h.di.d]; exact e4
      have hvl : w < S.v.length := by rw [h.di.v]; exact e4
      have hml : w < S.m.length := by rw [h.di.m]; exact e4
      have rdd : ∀ j : Int, 0 ≤ j → rd (S.d.set w.toNat (c + rd x a)) j = if j = w then c + rd x a else rd S.d j := fun j hj => rd_set' S.d w j _ e3 hdl hj
      have rdv : ∀ j : Int, 0 ≤ j → rd (S.v.set w.toNat a) j = if j = w then a else rd S.v j := fun j hj => rd_set' S.v w j _ e3 hvl hj
      have rdm : ∀ j : Int, 0 ≤ j → gm (S.m.set w.toNat (some (c + rd x a))) j = if j = w then some (c + rd x a) else gm S.m j := fun j hj => gm_setq S.m w j _ e3 hml hj
      have hle : ∀ j : Int, 0 ≤ j → rd (S.d.set w.toNat (c + rd x a)) j ≤ rd S.d j := fun j hj => by
        rw [rdd j hj]
        split
        · rename_i e; rw [e]; omega
        · omega
      have hwi := (h.rng w e3 e4).2
      -- chains that stay below w's old distance
      have low : ∀ u : Int, Tree l s S.v u → 0 ≤ u → u < n → rd S.d u < rd S.d w → Tree l s (S.v.set w.toNat a) u := by
        intro u ht
        induction ht with
        | base => intro _ _ _; exact .base
        | @step u hu ht ih =>
          intro u0 u1 ul
          obtain ⟨b0, b1, b2, b3, b4⟩ := h.vi u u0 u1 hu (by omega)
          obtain ⟨f1, f2, f3, f4⟩ := hG.ends _ b0 b1
          have huw : u ≠ w := fun e => by rw [e] at ul; omega
          refine .step hu ?_
          rw [rdv u u0, if_neg huw]
          exact ih f1 f2 (by omega)
      have tw : Tree l s (S.v.set w.toNat a) w := by
        refine .step hws ?_
        rw [rdv w e3, if_pos rfl, ha]
        exact low p (h.tr p hp0 hp1 (by rw [hc]; exact hci)) hp0 hp1 (by rw [hc]; omega)
      have all : ∀ u : Int, Tree l s S.v u → 0 ≤ u → u < n → rd S.d u < 1152921504606846976 → Tree l s (S.v.set w.toNat a) u := by
        intro u ht
        induction ht with
        | base => intro _ _ _; exact .base
        | @step u hu ht ih =>
          intro u0 u1 ul
          by_cases huw : u = w
          · rw [huw]; exact tw
          · obtain ⟨b0, b1, b2, b3, b4⟩ := h.vi u u0 u1 hu ul
            obtain ⟨f1, f2, f3, f4⟩ := hG.ends _ b0 b1
            refine .step hu ?_
            rw [rdv u u0, if_neg huw]
            exact ih f1 f2 (by omega)
      refine ⟨⟨⟨by simp [h.di.d], by simp [h.di.v], by simp [h.di.m]⟩, fun v v0 v1 => ?_, ?_, fun v v0 v1 vl => ?_, fun u k u0 u1 hk => ?_, fun b b0 b1 bx bm bP bl => ?_, ?_, fun v v0 v1 vs vl => ?_, fun v v0 v1 vl => ?_⟩, ?_, ?_, ?_⟩
      · show 0 ≤ rd (S.d.set w.toNat (c + rd x a)) v ∧ rd (S.d.set w.toNat (c + rd x a)) v ≤ 1152921504606846976
        have := h.rng v v0 v1
        rw [rdd v v0]
        split
        · omega
        · exact this
      · show rd (S.d.set w.toNat (c + rd x a)) s = 0
        rw [rdd s hs.1, if_neg (Ne.symm hws)]
        exact h.src
      · show Walk l x s v (rd (S.d.set w.toNat (c + rd x a)) v)
        replace vl : rd (S.d.set w.toNat (c + rd x a)) v < 1152921504606846976 := vl
        rw [rdd v v0] at vl ⊢
        by_cases e : v = w
        · rw [if_pos e, e, ← hw]
          refine .step ?_ a0 a1 hx
          rw [ha, ← hc]
          exact h.snd p hp0 hp1 (by rw [hc]; exact hci)
        · rw [if_neg e] at vl ⊢
          exact h.snd v v0 v1 vl
      · replace hk : gm (S.m.set w.toNat (some (c + rd x a))) u = some k := hk
        show k = rd (S.d.set w.toNat (c + rd x a)) u ∧ rd (S.d.set w.toNat (c + rd x a)) u < 1152921504606846976
        rw [rdm u u0] at hk
        rw [rdd u u0]
        by_cases e : u = w
        · rw [if_pos e] at hk ⊢
          exact ⟨(Option.some.inj hk).symm, by omega⟩
        · rw [if_neg e] at hk ⊢
          exact h.q u k u0 u1 hk
      · obtain ⟨f1, f2, f3, f4⟩ := hG.ends b b0 b1
        replace bm : gm (S.m.set w.toNat (some (c + rd x a))) (rd_T40 l b).f0 = none := bm
        replace bl : rd (S.d.set w.toNat (c + rd x a)) (rd_T40 l b).f0 < 1152921504606846976 := bl
        show rd (S.d.set w.toNat (c + rd x a)) (rd_T40 l b).f1 ≤ rd (S.d.set w.toNat (c + rd x a)) (rd_T40 l b).f0 + rd x b
        rw [rdm _ f1] at bm
        have hne : (rd_T40 l b).f0 ≠ w := fun e => by rw [if_pos e] at bm; cases bm
        rw [if_neg hne] at bm
        rw [rdd _ f1, if_neg hne] at bl ⊢
        by_cases e : b = a
        · subst e
          rw [hw, rdd w e3, if_pos rfl, ha, hc]
          omega
        · have := h.don b b0 b1 bx bm (fun hP => bP ⟨hP, e⟩) bl
          have := hle _ f3
          omega
      · show rd (S.v.set w.toNat a) s = -1
        rw [rdv s hs.1, if_neg (Ne.symm hws)]
        exact h.vs
      · replace vl : rd (S.d.set w.toNat (c + rd x a)) v < 1152921504606846976 := vl
        show 0 ≤ rd (S.v.set w.toNat a) v ∧ rd (S.v.set w.toNat a) v < l.length ∧ 0 ≤ rd x (rd (S.v.set w.toNat a) v) ∧ (rd_T40 l (rd (S.v.set w.toNat a) v)).f1 = v ∧ rd (S.d.set w.toNat (c + rd x a)) (rd_T40 l (rd (S.v.set w.toNat a) v)).f0 + rd x (rd (S.v.set w.toNat a) v) ≤ rd (S.d.set w.toNat (c + rd x a)) v
        by_cases e : v = w
        · subst e
          rw [rdv v v0, if_pos rfl]
          refine ⟨a0, a1, hx, hw, ?_⟩
          rw [rdd v v0, if_pos rfl, ha, rdd p hp0, if_neg (Ne.symm hwp), hc]
          omega
        · rw [rdd v v0, if_neg e] at vl
          obtain ⟨b0, b1, b2, b3, b4⟩ := h.vi v v0 v1 vs vl
          obtain ⟨f1, f2, f3, f4⟩ := hG.ends _ b0 b1
          rw [rdv v v0, if_neg e]
          refine ⟨b0, b1, b2, b3, ?_⟩
          rw [rdd v v0, if_neg e]
          have := hle _ f1
          omega
      · replace vl : rd (S.d.set w.toNat (c + rd x a)) v < 1152921504606846976 := vl
        show Tree l s (S.v.set w.toNat a) v
        by_cases e : v = w
        · rw [e]; exact tw
        · rw [rdd v v0, if_neg e] at vl
          exact all v (h.tr v v0 v1 vl) v0 v1 vl
      · show gm (S.m.set w.toNat (some (c + rd x a))) p = none
        rw [rdm p hp0, if_neg (Ne.symm hwp)]
        exact hm
      · show rd (S.d.set w.toNat (c + rd x a)) p = c
        rw [rdd p hp0, if_neg (Ne.symm hwp)]
        exact hc
      · show sumN (S.d.set w.toNat (c + rd x a)) * (n + 1) + cnt (S.m.set w.toNat (some (c + rd x a))) ≤ sumN S.d * (n + 1) + cnt S.m
        have h1 := sumN_set S.d w.toNat (c + rd x a) (by omega) (by omega) (show c + rd x a < rd S.d w from hr)
        have h2 := cnt_set_some S.m w.toNat (c + rd x a)
        have h3 : sumN (S.d.set w.toNat (c + rd x a)) + 1 ≤ sumN S.d := by
          have : (0 : Int) < S.d.getD w.toNat 0 - (c + rd x a) := by have := (show c + rd x a < S.d.getD w.toNat 0 from hr); omega
          omega
        have h4 := Nat.mul_le_mul_right (n + 1) h3
        rw [Nat.add_mul] at h4
        omega
    · rw [if_neg hr]
      refine ⟨⟨h.di, h.rng, h.src, h.snd, h.q, fun b b0 b1 bx bm bP bl => ?_, h.vs, h.vi, h.tr⟩, hm, hc, Nat.le_refl _⟩
      by_cases e : b = a
      · subst e
        rw [hw, ha, hc]
        omega
      · exact h.don b b0 b1 bx bm (fun hP => bP ⟨hP, e⟩) bl
  · rw [if_neg hx]
    refine ⟨⟨h.di, h.rng, h.src, h.snd, h.q, fun b b0 b1 bx bm bP bl => ?_, h.vs, h.vi, h.tr⟩, hm, hc, Nat.le_refl _⟩
    by_cases e : b = a
    · subst e
      exact absurd bx hx
    · exact h.don b b0 b1 bx bm (fun hP => bP ⟨hP, e⟩) bl
/-- All arcs of p, one after the other. -/
theorem Inv.arcs (hG : Gr n l x) (hs : 0 ≤ s ∧ s < n) (p c : Int) (hp0 : 0 ≤ p) (hp1 : p < n) (hci : c < 1152921504606846976) : ∀ (row : List Int) {P : Int → Prop} {S : DS}, Inv n l x s P S → gm S.m p = none → rd S.d p = c → (∀ a ∈ row, 0 ≤ a ∧ a < l.length ∧ (rd_T40 l a).f0 = p) →
    Inv n l x s (fun b => P b ∧ b ∉ row) (row.foldl (arcP l x false c) S) ∧ sumN (row.foldl (arcP l x false c) S).d * (n + 1) + cnt (row.foldl (arcP l x false c) S).m ≤ sumN S.d * (n + 1) + cnt S.m
  | [], P, S, h, hm, hc, _ => by
    refine ⟨?_, Nat.le_refl _⟩
    exact ⟨h.di, h.rng, h.src, h.snd, h.q, fun b b0 b1 bx bm bP bl => h.don b b0 b1 bx bm (fun hP => bP ⟨hP, by simp⟩) bl, h.vs, h.vi, h.tr⟩
  | a :: row, P, S, h, hm, hc, hr => by
    obtain ⟨a0, a1, a2⟩ := hr a List.mem_cons_self
    obtain ⟨h1, h2, h3, h4⟩ := h.arc hG hs p c a hp0 hp1 hm hc hci a0 a1 a2
    obtain ⟨k1, k2⟩ := Inv.arcs hG hs p c hp0 hp1 hci row h1 h2 h3 (fun b hb => hr b (List.mem_cons_of_mem _ hb))
    refine ⟨⟨k1.di, k1.rng, k1.src, k1.snd, k1.q, fun b b0 b1 bx bm bP bl => k1.don b b0 b1 bx bm (fun hP => bP ⟨hP.1.1, fun hb => ?_⟩) bl, k1.vs, k1.vi, k1.tr⟩, Nat.le_trans k2 h4⟩
    rcases List.mem_cons.1 hb with e | hb
    · exact hP.1.2 e
    · exact hP.2 hb
theorem gr_gchk (hG : Gr n l x) : gchk n l = 0 := by
  unfold gchk
  rw [if_neg (by have := hG.few; have := hG.nfew; omega), if_pos]
  rw [List.all_eq_true]
  intro y hy
  obtain ⟨j, hj, rfl⟩ := List.mem_iff_getElem.1 hy
  have := hG.ends (j : Int) (by omega) (by omega)
  have e : rd_T40 l (j : Int) = l[j] := by
    unfold rd_T40
    rw [Int.toNat_natCast, List.getD_eq_getElem?_getD, List.getElem?_eq_getElem hj]
    rfl
  rw [e] at this
  exact decide_eq_true this
/-- One round. -/
theorem Inv.round (hG : Gr n l x) (hs : 0 ≤ s ∧ s < n) {S : DS} (h : Inv n l x s (fun _ => False) S) (hc : 0 < cnt S.m) :
    Inv n l x s (fun _ => False) (roundP n l x false S) ∧ sumN (roundP n l x false S).d * (n + 1) + cnt (roundP n l x false S).m < sumN S.d * (n + 1) + cnt S.m := by
  obtain ⟨b, bk, h1, h2, h3, h4, _⟩ := pop_some hc
  obtain ⟨g1, g2, g3⟩ := pop_best hc
  rw [h1] at g1
  have g1 := Option.some.inj g1
  simp only [Prod.mk.injEq] at g1
  obtain ⟨eb, ebk, _, _⟩ := g1
  unfold roundP popP
  rw [← eb, ← ebk]
  have hb1 : b < n := by rw [h.di.m] at h3; exact h3
  obtain ⟨q1, q2⟩ := h.q b bk h2 hb1 h4
  have hO := outAt_i (gr_gchk hG) l.length (Nat.le_refl _)
  have hpop : Inv n l x s (fun a => (rd_T40 l a).f0 = b) ⟨S.d, S.v, S.m.set b.toNat none⟩ := by
    refine ⟨⟨h.di.d, h.di.v, by simp [h.di.m]⟩, h.rng, h.src, h.snd, fun u k u0 u1 hk => ?_, fun a a0 a1 ax am aP al => ?_, h.vs, h.vi, h.tr⟩
    · replace hk : gm (S.m.set b.toNat none) u = some k := hk
      rw [gm_setq S.m b u none h2 h3 u0] at hk
      split at hk
      · cases hk
      · exact h.q u k u0 u1 hk
    · obtain ⟨f1, f2, f3, f4⟩ := hG.ends a a0 a1
      replace am : gm (S.m.set b.toNat none) (rd_T40 l a).f0 = none := am
      rw [gm_setq S.m b _ none h2 h3 f1, if_neg aP] at am
      exact h.don a a0 a1 ax am (fun hf => hf) al
  have hmb : gm (S.m.set b.toNat none) b = none := by rw [gm_setq S.m b b none h2 h3 h2, if_pos rfl]
  obtain ⟨k1, k2⟩ := hpop.arcs hG hs b bk h2 hb1 (by omega) (rd_L4 (listsP n l false) b) hmb q1.symm (fun a ha => by
    have := hO.ok b h2 hb1 a ha
    exact ⟨this.1, this.2.1, this.2.2⟩)
  refine ⟨⟨k1.di, k1.rng, k1.src, k1.snd, k1.q, fun a a0 a1 ax am aP al => k1.don a a0 a1 ax am (fun hP => hP.2 ?_) al, k1.vs, k1.vi, k1.tr⟩, ?_⟩
  · have := hO.all a a0 a1
    rw [hP.1] at this
    exact this
  · have := cnt_set_none S.m b.toNat bk h4
    have k2' : _ ≤ sumN S.d * (n + 1) + cnt (S.m.set b.toNat none) := k2
    omega
theorem gm_none {m : List (Option Int)} (h : cnt m = 0) (u : Int) : gm m u = none := by
  cases hm : gm m u with
  | none => rfl
  | some k =>
    have := cnt_set_none m u.toNat k hm
    omega
theorem Inv.sp {S : DS} (h : Inv n l x s (fun _ => False) S) (hc : cnt S.m = 0) : Sp n l x s S.d :=
  ⟨h.di.d, h.rng, h.src, fun a a0 a1 ax al => h.don a a0 a1 ax (gm_none hc _) (fun hf => hf) al, h.snd⟩
theorem run_ok (hG : Gr n l x) (hs : 0 ≤ s ∧ s < n) : ∀ (K : Nat) (S : DS), Inv n l x s (fun _ => False) S → sumN S.d * (n + 1) + cnt S.m ≤ K → ∃ k r, runP n l x false k S = some r ∧ Inv n l x s (fun _ => False) r ∧ cnt r.m = 0
  | 0, S, h, hk => by
    refine ⟨1, S, ?_, h, by omega⟩
    unfold runP
    rw [if_neg (by omega)]
  | K + 1, S, h, hk => by
    by_cases hc : 0 < cnt S.m
    · obtain ⟨h1, h2⟩ := h.round hG hs hc
      obtain ⟨k, r, hr, h3⟩ := run_ok hG hs K _ h1 (by omega)
      refine ⟨k + 1, r, ?_, h3⟩
      unfold runP
      rw [if_pos hc]
      exact hr
    · refine ⟨1, S, ?_, h, by omega⟩
      unfold runP
      rw [if_neg hc]
theorem rd_rep (n : Nat) (c v : Int) (h0 : 0 ≤ v) (h1 : v < n) : rd (List.replicate n c) v = c := by
  unfold rd
  rw [List.getD_eq_getElem?_getD, List.getElem?_replicate, if_pos (by omega)]
  rfl
theorem gm_rep (n : Nat) (v : Int) : gm (List.replicate n none) v = none := by
  unfold gm
  rw [List.getD_eq_getElem?_getD, List.getElem?_replicate]
  split <;> rfl
theorem start_inv (hG : Gr n l x) (hs : 0 ≤ s ∧ s < n) : Inv n l x s (fun _ => False) (startP n s) := by
  obtain ⟨s0, s1⟩ := hs
  have e : startP n s = ⟨(List.replicate n 1152921504606846976).set s.toNat 0, (List.replicate n (-1)).set s.toNat (-1), (List.replicate n none).set s.toNat (some 0)⟩ := by
    unfold startP relaxP
    rw [if_pos (by show (0 : Int) < rd (List.replicate n 1152921504606846976) s; rw [rd_rep n _ s s0 s1]; omega)]
  have rdd : ∀ j : Int, 0 ≤ j → j < n → rd ((List.replicate n 1152921504606846976).set s.toNat 0) j = if j = s then 0 else 1152921504606846976 := fun j hj hj1 => by
    rw [rd_set' _ s j _ s0 (by simpa using s1) hj, rd_rep n _ j hj hj1]
  have rdv : ∀ j : Int, 0 ≤ j → j < n → rd ((List.replicate n (-1)).set s.toNat (-1)) j = -1 := fun j hj hj1 => by
    rw [rd_set' _ s j _ s0 (by simpa using s1) hj, rd_rep n _ j hj hj1]
    split <;> rfl
  have rdm : ∀ j : Int, 0 ≤ j → gm ((List.replicate n none).set s.toNat (some 0)) j = if j = s then some 0 else none := fun j hj => by
    rw [gm_setq _ s j _ s0 (by simpa using s1) hj, gm_rep]
  rw [e]
  refine ⟨⟨by simp, by simp, by simp⟩, fun v v0 v1 => ?_, ?_, fun v v0 v1 vl => ?_, fun u k u0 u1 hk => ?_, fun b b0 b1 bx bm bP bl => ?_, ?_, fun v v0 v1 vs vl => ?_, fun v v0 v1 vl => ?_⟩
  · show 0 ≤ rd ((List.replicate n 1152921504606846976).set s.toNat 0) v ∧ rd ((List.replicate n 1152921504606846976).set s.toNat 0) v ≤ 1152921504606846976
    rw [rdd v v0 v1]
    split <;> omega
  · show rd ((List.replicate n 1152921504606846976).set s.toNat 0) s = 0
    rw [rdd s s0 s1, if_pos rfl]
  · replace vl : rd ((List.replicate n 1152921504606846976).set s.toNat 0) v < 1152921504606846976 := vl
    show Walk l x s v (rd ((List.replicate n 1152921504606846976).set s.toNat 0) v)
    rw [rdd v v0 v1] at vl ⊢
    by_cases e : v = s
    · rw [if_pos e, e]
      exact .nil
    · rw [if_neg e] at vl
      omega
  · replace hk : gm ((List.replicate n none).set s.toNat (some 0)) u = some k := hk
    show k = rd ((List.replicate n 1152921504606846976).set s.toNat 0) u ∧ rd ((List.replicate n 1152921504606846976).set s.toNat 0) u < 1152921504606846976
    rw [rdm u u0] at hk
    rw [rdd u u0 u1]
    by_cases e : u = s
    · rw [if_pos e] at hk ⊢
      exact ⟨(Option.some.inj hk).symm, by omega⟩
    · rw [if_neg e] at hk
      cases hk
  · obtain ⟨f1, f2, f3, f4⟩ := hG.ends b b0 b1
    replace bm : gm ((List.replicate n none).set s.toNat (some 0)) (rd_T40 l b).f0 = none := bm
    replace bl : rd ((List.replicate n 1152921504606846976).set s.toNat 0) (rd_T40 l b).f0 < 1152921504606846976 := bl
    rw [rdm _ f1] at bm
    rw [rdd _ f1 f2] at bl
    split at bm
    · cases bm
    · rename_i e
      rw [if_neg e] at bl
      omega
  · exact rdv s s0 s1
  · replace vl : rd ((List.replicate n 1152921504606846976).set s.toNat 0) v < 1152921504606846976 := vl
    rw [rdd v v0 v1, if_neg vs] at vl
    omega
  · replace vl : rd ((List.replicate n 1152921504606846976).set s.toNat 0) v < 1152921504606846976 := vl
    rw [rdd v v0 v1] at vl
    by_cases e : v = s
    · rw [e]
      exact .base
    · rw [if_neg e] at vl
      omega
/-- The algorithm ends, with the distances. -/
theorem run_sp (hG : Gr n l x) (hs : 0 ≤ s ∧ s < n) : ∃ k r, runP n l x false k (startP n s) = some r ∧ Inv n l x s (fun _ => False) r ∧ cnt r.m = 0 :=
  run_ok hG hs _ _ (start_inv hG hs) (Nat.le_refl _)
end
/-- The other direction is this one on the reversed arcs. -/
theorem run_back (n : Nat) (l : List S40) (x : List Int) : ∀ (k : Nat) (S : DS), runP n l x true k S = runP n (l.map sw40) x false k S
  | 0, S => rfl
  | k + 1, S => by
    have ha : ∀ c, arcP l x true c = arcP (l.map sw40) x false c := fun c => by
      funext S a
      unfold arcP
      rw [show farP l true a = (rd_T40 l a).f0 from if_pos rfl, show farP (l.map sw40) false a = (rd_T40 (l.map sw40) a).f1 from if_neg Bool.false_ne_true, sw40_arc]
      rfl
    have hl : listsP n l true = listsP n (l.map sw40) false := by
      unfold listsP
      rw [if_pos rfl, if_neg Bool.false_ne_true, List.length_map]
    unfold runP roundP
    rw [hl]
    simp only [ha]
    split
    · exact run_back n l x k _
    · rfl
theorem gr_rev {n : Nat} {l : List S40} {x : List Int} (hG : Gr n l x) : Gr n (l.map sw40) x := by
  refine ⟨by rw [List.length_map]; exact hG.len, fun a a0 a1 => ?_, fun a a0 a1 => hG.wt a a0 (by simpa using a1), by rw [List.length_map]; exact hG.few, hG.nfew⟩
  rw [sw40_arc]
  have := hG.ends a a0 (by simpa using a1)
  exact ⟨this.2.2.1, this.2.2.2, this.1, this.2.1⟩
end Go.Proofs.Ytofhgmdehglhgaa.PAll
namespace Go.Proofs.Ytofhgmdehglhgaa.PAll
open Go.RowKit Go.Proofs.YtofhgmdehglhgaaW.PrintWords Go.Proofs.YtofhgmdehglhgaaW.PrintLast Go.Proofs.YtofhgmdehglhgaaW.PrintMore Go.Proofs.Ytofhgmdehglhgaa.Bas
set_option linter.unusedVariables false
set_option linter.unusedSimpArgs false

theorem rdT_at {l : List S40} {i : Nat} (h : i < l.length) : rd_T40 l (i : Int) = l[i] := by
  unfold rd_T40
  rw [Int.toNat_natCast, List.getD_eq_getElem?_getD, List.getElem?_eq_getElem h]
  rfl
theorem rd_at {l : List Int} {i : Nat} (h : i < l.length) : rd l (i : Int) = l[i] := by
  unfold rd
  rw [Int.toNat_natCast, List.getD_eq_getElem?_getD, List.getElem?_eq_getElem h]
  rfl
theorem drop_arc {l : List S40} {i : Nat} (h : i < l.length) : l.drop i = rd_T40 l (i : Int) :: l.drop (i + 1) := by
  rw [List.drop_eq_getElem_cons h, rdT_at h]
theorem drop_int {l : List Int} {i : Nat} (h : i < l.length) : l.drop i = rd l (i : Int) :: l.drop (i + 1) := by
  rw [List.drop_eq_getElem_cons h, rd_at h]
theorem wr1 {i : Nat} (h : i < 9223372036854775807) : wrap64 ((i : Int) + 1) = ((i + 1 : Nat) : Int) := by unfold wrap64; omega
theorem check37_l0 (n : Int) (l : List S40) (hl : l.length ≤ 4194304) : ∀ (j i : Nat), i + j = l.length → Ev (fun k => mapmakerref37_Check.l0 k (i : Int) n l) (if (l.drop i).all (arc_ok n) then 0 else 2)
  | 0, i, h => by
    refine Ev_round (fun k => by rw [mapmakerref37_Check.l0]) ?_
    rw [List.drop_of_length_le (by omega)]
    exact Ev_neg (by omega) (Ev.now _)
  | j + 1, i, h => by
    have hi : i < l.length := by omega
    refine Ev_round (fun k => by rw [mapmakerref37_Check.l0]) (Ev_pos (by omega) (Ev_pos (by omega) ?_))
    rw [drop_arc hi, List.all_cons]
    have bad : ∀ (c : ¬ (0 ≤ (rd_T40 l i).f0 ∧ (rd_T40 l i).f0 < n ∧ 0 ≤ (rd_T40 l i).f1 ∧ (rd_T40 l i).f1 < n)), Ev (fun _ => some (2 : Int)) (if (arc_ok n (rd_T40 l i) && (l.drop (i + 1)).all (arc_ok n)) = true then 0 else 2) := fun c => by
      rw [show arc_ok n (rd_T40 l i) = false from decide_eq_false c, Bool.false_and, if_neg Bool.false_ne_true]
      exact Ev.now _
    by_cases c1 : (rd_T40 l i).f0 < 0
    · exact Ev_pos c1 (bad (by omega))
    · refine Ev_neg c1 ?_
      by_cases c2 : (rd_T40 l i).f0 ≥ n
      · exact Ev_pos c2 (bad (by omega))
      · refine Ev_neg c2 ?_
        by_cases c3 : (rd_T40 l i).f1 < 0
        · exact Ev_pos c3 (bad (by omega))
        · refine Ev_neg c3 ?_
          by_cases c4 : (rd_T40 l i).f1 ≥ n
          · exact Ev_pos c4 (bad (by omega))
          · refine Ev_neg c4 ?_
            rw [show arc_ok n (rd_T40 l i) = true from decide_eq_true (by omega), Bool.true_and, wr1 (by omega)]
            exact check37_l0 n l hl j (i + 1) (by omega)
theorem check37_ev (n : Int) (l : List S40) : Ev (fun k => mapmakerref37_Check.f k n l) (gchk n l) := by
  unfold mapmakerref37_Check.f gchk
  have big : n < 0 ∨ n > 1048576 ∨ l.length > 4194304 → Ev (fun _ => some (5 : Int)) (if n < 0 ∨ n > 1048576 ∨ l.length > 4194304 then 5 else if l.all (arc_ok n) then 0 else 2) := fun h => by
    rw [if_pos h]
    exact Ev.now _
  by_cases c1 : n < 0
  · refine Ev_pos c1 (Ev_round (fun k => by rw [mapmakerref37_Check.j0]) (Ev_pos rfl (big (.inl c1))))
  · refine Ev_neg c1 ?_
    by_cases c2 : n > 1048576
    · refine Ev_pos c2 (Ev_round (fun k => by rw [mapmakerref37_Check.j0]) (Ev_pos rfl (big (.inr (.inl c2)))))
    · refine Ev_neg c2 (Ev_round (fun k => by rw [mapmakerref37_Check.j0]) ?_)
      by_cases c3 : l.length > 4194304
      · exact Ev_pos (decide_eq_true (by omega)) (big (.inr (.inr c3)))
      · refine Ev_neg (by rw [decide_eq_true_eq]; omega) ?_
        rw [if_neg (by omega)]
        exact check37_l0 n l (by omega) l.length 0 (by omega)
theorem check38_l0 (x : List Int) (hl : x.length ≤ 4194304) : ∀ (j i : Nat), i + j = x.length → Ev (fun k => mapmakerref38_Check.l0 k x (i : Int)) (if (x.drop i).all wt_ok then 0 else 17)
  | 0, i, h => by
    refine Ev_round (fun k => by rw [mapmakerref38_Check.l0]) ?_
    rw [List.drop_of_length_le (by omega)]
    exact Ev_neg (by omega) (Ev.now _)
  | j + 1, i, h => by
    have hi : i < x.length := by omega
    refine Ev_round (fun k => by rw [mapmakerref38_Check.l0]) (Ev_pos (by omega) (Ev_pos (by omega) ?_))
    rw [drop_int hi, List.all_cons]
    have bad : ∀ (c : ¬ (-1 ≤ rd x i ∧ rd x i ≤ 1073741824)), Ev (fun _ => some (17 : Int)) (if (wt_ok (rd x i) && (x.drop (i + 1)).all wt_ok) = true then 0 else 17) := fun c => by
      rw [show wt_ok (rd x i) = false from decide_eq_false c, Bool.false_and, if_neg Bool.false_ne_true]
      exact Ev.now _
    by_cases c1 : rd x i < -1
    · exact Ev_pos c1 (bad (by omega))
    · refine Ev_neg c1 ?_
      by_cases c2 : rd x i > 1073741824
      · exact Ev_pos c2 (bad (by omega))
      · refine Ev_neg c2 ?_
        rw [show wt_ok (rd x i) = true from decide_eq_true (by omega), Bool.true_and, wr1 (by omega)]
        exact check38_l0 x hl j (i + 1) (by omega)
theorem check38_ev (n : Int) (l : List S40) (x : List Int) : Ev (fun k => mapmakerref38_Check.f k n l x) (dchk n l x) := by
  unfold mapmakerref38_Check.f dchk
  refine Ev.bind (check37_ev n l) ?_
  by_cases c : gchk n l = 0
  · refine Ev_pos c ?_
    rw [if_pos c]
    by_cases c2 : x.length = l.length
    · refine Ev_pos (by omega) ?_
      rw [if_pos c2]
      have := (gchk_arc c).2.2.1
      exact check38_l0 x (by omega) x.length 0 (by omega)
    · refine Ev_neg (by omega) ?_
      rw [if_neg c2]
      exact Ev.now _
  · refine Ev_neg c ?_
    rw [if_neg c]
    exact Ev.now _
theorem rev37_l0 (n : Int) (l : List S40) (hl : l.length ≤ 4194304) : ∀ (j i : Nat), i + j = l.length → Ev (fun k => mapmakerref37_Reverse.l0 k ((l.map sw40).take i) (i : Int) n l) (n, l.map sw40)
  | 0, i, h => by
    refine Ev_round (fun k => by rw [mapmakerref37_Reverse.l0]) (Ev_neg (by omega) ?_)
    rw [List.take_of_length_le (by rw [List.length_map]; omega)]
    exact Ev.now _
  | j + 1, i, h => by
    have hi : i < l.length := by omega
    refine Ev_round (fun k => by rw [mapmakerref37_Reverse.l0]) (Ev_pos (by omega) (Ev_pos (by omega) (Ev_pos ?_ ?_)))
    · rw [List.length_take, List.length_map]
      omega
    · have e : (l.map sw40).take i ++ [(⟨(rd_T40 l i).f1, (rd_T40 l i).f0⟩ : S40)] = (l.map sw40).take (i + 1) := by
        rw [List.take_succ_eq_append_getElem (by rw [List.length_map]; exact hi), List.getElem_map, rdT_at hi]
        rfl
      rw [e, wr1 (by omega)]
      exact rev37_l0 n l hl j (i + 1) (by omega)
theorem rev37_ev {n : Int} {l : List S40} (h : gchk n l = 0) : Ev (fun k => mapmakerref37_Reverse.f k n l) (n, l.map sw40) := by
  unfold mapmakerref37_Reverse.f
  refine Ev.bind (check37_ev n l) (Ev_pos h ?_)
  exact rev37_l0 n l (gchk_arc h).2.2.1 l.length 0 (by omega)
theorem ints_l0 (a : List Int) (ha : a.length ≤ 4194304) : ∀ (j i : Nat), i + j = a.length → Ev (fun k => mapmakerref38_Ints.l0 k a a (i : Int)) true
  | 0, i, h => Ev_round (fun k => by rw [mapmakerref38_Ints.l0]) (Ev_neg (by omega) (Ev.now _))
  | j + 1, i, h => by
    refine Ev_round (fun k => by rw [mapmakerref38_Ints.l0]) ?_
    repeat' first
      | refine Ev_pos (by omega) ?_
      | refine Ev_pos rfl ?_
    rw [wr1 (by omega)]
    exact ints_l0 a ha j (i + 1) (by omega)
theorem ints_ev (a : List Int) (ha : a.length ≤ 4194304) : Ev (fun k => mapmakerref38_Ints.f k a a) true := by
  unfold mapmakerref38_Ints.f
  exact Ev_pos rfl (ints_l0 a ha a.length 0 (by omega))
/-- What From's relaxing keeps. -/
structure RInv (n : Nat) (l : List S40) (x : List Int) (s : Int) (d : List Int) : Prop where
  len : d.length = n
  rng : ∀ v : Int, 0 ≤ v → v < n → 0 ≤ rd d v ∧ rd d v ≤ 1152921504606846976
  src : rd d s = 0
  snd : ∀ v : Int, 0 ≤ v → v < n → rd d v < 1152921504606846976 → Walk l x s v (rd d v)
section
variable {n : Nat} {l : List S40} {x : List Int} {s : Int}
theorem from_l2 (hG : Gr n l x) (hs : 0 ≤ s ∧ s < n) (d0 : List Int) (IH : ∀ d' : List Int, RInv n l x s d' → sumN d' < sumN d0 → ∃ r, Sp n l x s r ∧ Ev (fun k => mapmakerref38_From.l1 k x d' true n l) (r, 0)) :
    ∀ (j i : Nat) (d : List Int) (again : Bool), i + j = l.length → RInv n l x s d → (again = true → sumN d < sumN d0) → (again = false → ∀ b : Int, 0 ≤ b → b < i → 0 ≤ rd x b → rd d (rd_T40 l b).f0 < 1152921504606846976 → rd d (rd_T40 l b).f1 ≤ rd d (rd_T40 l b).f0 + rd x b) → sumN d ≤ sumN d0 →
    ∃ r, Sp n l x s r ∧ Ev (fun k => mapmakerref38_From.l2 k x d again (i : Int) n l) (r, 0)
  | 0, i, d, again, h, hd, h1, h2, hle => by
    cases again with
    | true =>
      obtain ⟨r, hr, he⟩ := IH d hd (h1 rfl)
      exact ⟨r, hr, Ev_round (fun k => by rw [mapmakerref38_From.l2]) (Ev_neg (by omega) he)⟩
    | false =>
      refine ⟨d, ⟨hd.len, hd.rng, hd.src, fun a a0 a1 ax al => h2 rfl a a0 (by omega) ax al, hd.snd⟩, Ev_round (fun k => by rw [mapmakerref38_From.l2]) (Ev_neg (by omega) ?_)⟩
      exact Ev_round (fun k => by rw [mapmakerref38_From.l1]) (Ev_neg Bool.false_ne_true (Ev.now _))
  | j + 1, i, d, again, h, hd, h1, h2, hle => by
    have hi : i < l.length := by omega
    obtain ⟨e1, e2, e3, e4⟩ := hG.ends i (by omega) (by omega)
    have hw := hG.wt i (by omega) (by omega)
    have hfw := hG.few
    have hwr := Aside0.mk (show wrap64 ((i : Int) + 1) = ((i + 1 : Nat) : Int) from wr1 (by omega))
    -- the arc changes nothing
    have same : (again = false → 0 ≤ rd x i → rd d (rd_T40 l i).f0 < 1152921504606846976 → rd d (rd_T40 l i).f1 ≤ rd d (rd_T40 l i).f0 + rd x i) → ∃ r, Sp n l x s r ∧ Ev (fun k => mapmakerref38_From.l2 k x d again (wrap64 ((i : Int) + 1)) n l) (r, 0) := fun hh => by
      rw [hwr.out]
      refine from_l2 hG hs d0 IH j (i + 1) d again (by omega) hd h1 (fun ha b b0 b1 bx bl => ?_) hle
      by_cases e : b = i
      · subst e
        exact hh ha bx bl
      · exact h2 ha b b0 (by omega) bx bl
    have open_ : ∀ {g : Nat → Option (List Int × Int)}, (∃ r, Sp n l x s r ∧ Ev g (r, 0)) → (∀ r, Ev g (r, 0) → Ev (fun k => mapmakerref38_From.l2 k x d again (i : Int) n l) (r, 0)) → ∃ r, Sp n l x s r ∧ Ev (fun k => mapmakerref38_From.l2 k x d again (i : Int) n l) (r, 0) := fun ⟨r, a, b⟩ f => ⟨r, a, f r b⟩
    have hln := hG.len
    by_cases c1 : rd x i ≥ 0
    · by_cases c2 : rd d (rd_T40 l i).f0 < 1152921504606846976
      · obtain ⟨q0, q1⟩ := hd.rng _ e1 e2
        have hww := Aside0.mk (show wrap64 (rd d (rd_T40 l i).f0 + rd x i) = rd d (rd_T40 l i).f0 + rd x i from by unfold wrap64; omega)
        by_cases c3 : rd d (rd_T40 l i).f0 + rd x i < rd d (rd_T40 l i).f1
        · -- relaxed now
          have hdl : (rd_T40 l i).f1 < d.length := by rw [hd.len]; exact e4
          have rdd : ∀ v : Int, 0 ≤ v → rd (d.set (rd_T40 l i).f1.toNat (rd d (rd_T40 l i).f0 + rd x i)) v = if v = (rd_T40 l i).f1 then rd d (rd_T40 l i).f0 + rd x i else rd d v := fun v hv => rd_set' d _ v _ e3 hdl hv
          have hsn := sumN_set d (rd_T40 l i).f1.toNat (rd d (rd_T40 l i).f0 + rd x i) (by omega) (by omega) c3
          have hlt : sumN (d.set (rd_T40 l i).f1.toNat (rd d (rd_T40 l i).f0 + rd x i)) < sumN d := by
            have : (0 : Int) < d.getD (rd_T40 l i).f1.toNat 0 - (rd d (rd_T40 l i).f0 + rd x i) := by have := (show rd d (rd_T40 l i).f0 + rd x i < d.getD (rd_T40 l i).f1.toNat 0 from c3); omega
            omega
          have hws : (rd_T40 l i).f1 ≠ s := fun e => by rw [e, hd.src] at c3; omega
          have hmax := (hd.rng _ e3 e4).2
          refine open_ (from_l2 hG hs d0 IH j (i + 1) _ true (by omega) (⟨by rw [List.length_set]; exact hd.len, fun v v0 v1 => ?_, ?_, fun v v0 v1 vl => ?_⟩ : RInv n l x s (d.set (rd_T40 l i).f1.toNat (rd d (rd_T40 l i).f0 + rd x i))) (fun _ => by omega) (fun hf => by cases hf) (by omega)) (fun r he => Ev_round (fun k => by rw [mapmakerref38_From.l2]) (Ev_pos (by omega) (Ev_pos (by omega) (Ev_pos (by omega) (Ev_pos c1 (Ev_pos e1 (Ev_pos (by rw [hd.len]; exact e2) (Ev_pos c2 (Ev_pos e3 (Ev_pos hdl (by rw [hww.out]; refine Ev_pos c3 ?_; rw [hwr.out]; exact he)))))))))))
          · have := hd.rng v v0 v1
            rw [rdd v v0]
            split
            · omega
            · exact this
          · rw [rdd s hs.1, if_neg (Ne.symm hws)]
            exact hd.src
          · rw [rdd v v0] at vl ⊢
            by_cases e : v = (rd_T40 l i).f1
            · rw [if_pos e, e]
              exact .step (hd.snd _ e1 e2 c2) (by omega) (by omega) c1
            · rw [if_neg e] at vl ⊢
              exact hd.snd v v0 v1 vl
        · exact open_ (same (fun _ _ _ => by omega)) (fun r he => Ev_round (fun k => by rw [mapmakerref38_From.l2]) (Ev_pos (by omega) (Ev_pos (by omega) (Ev_pos (by omega) (Ev_pos c1 (Ev_pos e1 (Ev_pos (by rw [hd.len]; exact e2) (Ev_pos c2 (Ev_pos e3 (Ev_pos (by rw [hd.len]; exact e4) (by rw [hww.out]; exact Ev_neg c3 he)))))))))))
      · exact open_ (same (fun _ _ h => absurd h c2)) (fun r he => Ev_round (fun k => by rw [mapmakerref38_From.l2]) (Ev_pos (by omega) (Ev_pos (by omega) (Ev_pos (by omega) (Ev_pos c1 (Ev_pos e1 (Ev_pos (by rw [hd.len]; exact e2) (Ev_neg c2 he))))))))
    · exact open_ (same (fun _ h _ => absurd h c1)) (fun r he => Ev_round (fun k => by rw [mapmakerref38_From.l2]) (Ev_pos (by omega) (Ev_pos (by omega) (Ev_pos (by omega) (Ev_neg c1 he)))))
theorem from_l1 (hG : Gr n l x) (hs : 0 ≤ s ∧ s < n) : ∀ (K : Nat) (d : List Int), RInv n l x s d → sumN d < K → ∃ r, Sp n l x s r ∧ Ev (fun k => mapmakerref38_From.l1 k x d true n l) (r, 0)
  | 0, d, h, hk => by omega
  | K + 1, d, h, hk => by
    obtain ⟨r, hr, he⟩ := from_l2 hG hs d (fun d' h' hlt => from_l1 hG hs K d' h' (by omega)) l.length 0 d false (by omega) h (fun e => by cases e) (fun _ b b0 b1 => by omega) (Nat.le_refl _)
    exact ⟨r, hr, Ev_round (f := fun k => mapmakerref38_From.l2 k x d false 0 n l) (fun k => by rw [mapmakerref38_From.l1]; rfl) he⟩
theorem from_l0 (hn : n ≤ 1048576) (hs : 0 ≤ s ∧ s < n) {r : List Int × Int} (H : Ev (fun k => mapmakerref38_From.l1 k x ((List.replicate n 1152921504606846976).set s.toNat 0) true n l) r) : ∀ (j i : Nat), i + j = n → Ev (fun k => mapmakerref38_From.l0 k x s (List.replicate i 1152921504606846976) (i : Int) n l) r
  | 0, i, h => by
    obtain rfl : i = n := by omega
    exact Ev_round (fun k => by rw [mapmakerref38_From.l0]) (Ev_neg (by omega) (Ev_pos hs.1 (Ev_pos (by rw [List.length_replicate]; exact hs.2) H)))
  | j + 1, i, h => by
    refine Ev_round (fun k => by rw [mapmakerref38_From.l0]) (Ev_pos (by omega) (Ev_pos (by rw [List.length_replicate]; omega) ?_))
    rw [← List.replicate_succ', wr1 (by omega)]
    exact from_l0 hn hs H j (i + 1) (by omega)
/-- The document's From, for a graph that Check lets in. -/
theorem ref_from (hG : Gr n l x) (hs : 0 ≤ s ∧ s < n) (hc : dchk n l x = 0) : ∃ r, Sp n l x s r ∧ Ev (fun k => mapmakerref38_From.f k n l x s) (r, 0) := by
  have hst : RInv n l x s ((List.replicate n 1152921504606846976).set s.toNat 0) := by
    obtain ⟨s0, s1⟩ := hs
    have rdd : ∀ j : Int, 0 ≤ j → j < n → rd ((List.replicate n 1152921504606846976).set s.toNat 0) j = if j = s then 0 else 1152921504606846976 := fun j hj hj1 => by
      rw [rd_set' _ s j _ s0 (by simpa using s1) hj, rd_rep n _ j hj hj1]
    refine ⟨by simp, fun v v0 v1 => ?_, ?_, fun v v0 v1 vl => ?_⟩
    · rw [rdd v v0 v1]
      split <;> omega
    · rw [rdd s s0 s1, if_pos rfl]
    · rw [rdd v v0 v1] at vl ⊢
      by_cases e : v = s
      · rw [if_pos e, e]
        exact .nil
      · rw [if_neg e] at vl
        omega
  obtain ⟨r, hr, he⟩ := from_l1 hG hs _ _ hst (Nat.lt_succ_self _)
  refine ⟨r, hr, ?_⟩
  unfold mapmakerref38_From.f
  refine Ev.bind (check38_ev n l x) (Ev_pos hc (Ev_neg (by omega) (Ev_round (fun k => by rw [mapmakerref38_From.j0]) (Ev_neg (by rw [decide_eq_true_eq]; omega) ?_))))
  exact from_l0 hG.nfew hs he n 0 (by omega)
/-- The program's From, for a graph that Check lets in. -/
theorem prog_from (hG : Gr n l x) (hs : 0 ≤ s ∧ s < n) (hc : dchk n l x = 0) : ∃ r, Sp n l x s r ∧ Ev (fun k => distP false k n l x s) (r, 0) := by
  obtain ⟨k, r, hr, hi, hq⟩ := run_sp hG hs
  refine ⟨r.d, hi.sp hq, Ev.of (fun k => distP_mono false n l x s k) (k := k) ?_⟩
  unfold distP
  rw [if_pos hc, if_neg (by omega), Int.toNat_natCast, hr]
  rfl
theorem prog_back (n : Nat) (l : List S40) (x : List Int) (s : Int) (hc : dchk n l x = 0) (hc2 : dchk n (l.map sw40) x = 0) (k : Nat) : distP true k n l x s = distP false k n (l.map sw40) x s := by
  unfold distP
  rw [if_pos hc, if_pos hc2, run_back]
end
theorem dchk_rev {n : Int} {l : List S40} {x : List Int} (h : dchk n l x = 0) : dchk n (l.map sw40) x = 0 := by
  have hz := dchk_zero h
  unfold dchk at h ⊢
  rw [if_pos hz.1, if_pos hz.2] at h
  rw [if_pos (gchk_rev hz.1), if_pos (by rw [List.length_map]; exact hz.2)]
  exact h
/-- Both, whatever is handed in. -/
theorem from_both (n : Int) (l : List S40) (x : List Int) (s : Int) : ∃ r e, Ev (fun k => distP false k n l x s) (r, e) ∧ Ev (fun k => mapmakerref38_From.f k n l x s) (r, e) ∧ r.length ≤ 1048576 := by
  by_cases hc : dchk n l x = 0
  · by_cases hs : 0 ≤ s ∧ s < n
    · obtain ⟨m, rfl⟩ : ∃ m : Nat, n = m := ⟨n.toNat, by omega⟩
      have hG := gr_of hc
      obtain ⟨r, h1, h2⟩ := prog_from hG hs hc
      obtain ⟨r', h3, h4⟩ := ref_from hG hs hc
      obtain rfl := h1.uniq hG hs h3
      exact ⟨r, 0, h2, h4, by rw [h1.len]; exact hG.nfew⟩
    · refine ⟨[], 2, ⟨0, fun k _ => ?_⟩, ?_, by simp⟩
      · show distP false k n l x s = _
        unfold distP
        rw [if_pos hc, if_pos (by omega)]
      · unfold mapmakerref38_From.f
        refine Ev.bind (check38_ev n l x) (Ev_pos hc ?_)
        by_cases c : s < 0
        · exact Ev_pos c (Ev_round (fun k => by rw [mapmakerref38_From.j0]) (Ev_pos rfl (Ev.now _)))
        · exact Ev_neg c (Ev_round (fun k => by rw [mapmakerref38_From.j0]) (Ev_pos (decide_eq_true (by omega)) (Ev.now _)))
  · refine ⟨[], dchk n l x, ⟨0, fun k _ => ?_⟩, ?_, by simp⟩
    · show distP false k n l x s = _
      unfold distP
      rw [if_neg hc]
    · unfold mapmakerref38_From.f
      exact Ev.bind (check38_ev n l x) (Ev_neg hc (Ev.now _))
end Go.Proofs.Ytofhgmdehglhgaa.PAll
namespace Go.Proofs.Ytofhgmdehglhgaa.PAll
open Go.RowKit Go.Proofs.YtofhgmdehglhgaaW.PrintWords Go.Proofs.YtofhgmdehglhgaaW.PrintLast Go.Proofs.YtofhgmdehglhgaaW.PrintMore Go.Proofs.Ytofhgmdehglhgaa.Bas
set_option linter.unusedVariables false
set_option linter.unusedSimpArgs false

theorem lives_ev : Ev (fun k => mapmakerlaw38_lives.f k) true := Ev.of mapmakerlaw38_lives.mono (k := 40) (by decide +kernel)
theorem fin_ev : Ev (fun k => (mapmakerlaw38_lives.f k).bind fun t => some t) true := Ev.bind lives_ev (Ev.now _)
theorem few_some (n : Int) (l : List S40) (x : List Int) : ∃ b, mapmakerlaw38_few.f n l x = some b ∧ (b = true → n ≤ 12 ∧ l.length ≤ 40 ∧ x.length ≤ 60) := by
  unfold mapmakerlaw38_few.f
  by_cases c1 : n ≤ 12
  · by_cases c2 : (l.length : Int) ≤ 40
    · exact ⟨_, by rw [if_pos c1, if_pos c2], fun h => by have := of_decide_eq_true h; omega⟩
    · exact ⟨false, by rw [if_pos c1, if_neg c2], fun h => by cases h⟩
  · exact ⟨false, by rw [if_neg c1], fun h => by cases h⟩
theorem rdB_set {R : List Bool} {w : Int} {b : Bool} (h0 : 0 ≤ w) (h1 : w < R.length) (v : Int) (hv : 0 ≤ v) : rdOf false (R.set w.toNat b) v = if v = w then b else rdOf false R v := by
  unfold rdOf
  rw [List.getD_eq_getElem?_getD, List.getD_eq_getElem?_getD, List.getElem?_set]
  by_cases e : v = w
  · subst e
    rw [if_pos rfl, if_pos (by omega), if_pos rfl]
    rfl
  · rw [if_neg (by omega), if_neg e]
end Go.Proofs.Ytofhgmdehglhgaa.PAll
