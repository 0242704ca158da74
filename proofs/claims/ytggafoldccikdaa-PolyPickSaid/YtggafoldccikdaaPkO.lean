/- The box of a list, and Pick's theorem as the law says it. -/
import Derived.Test.YtggafoldccikdaaPkN
import Derived.Test.YtggafoldccikdaaPAllx42
import Derived.Test.YtggafoldccikdaaPAllx43
namespace Go.Proofs.Ytggafoldccikdaa.Pk
open Go.RowKit Go.Proofs.Ytggafoldccikdaa.PAll Go.Proofs.YtggafoldccikdaaW.PrintWords Go.Proofs.YtggafoldccikdaaW.PrintLast Go.Proofs.YtggafoldccikdaaW.PrintMore Go.Proofs.Ytggafoldccikdaa.Bas Go.Proofs.Ytggafoldccikdaa.Sg Go.Proofs.Ytggafoldccikdaa.Po
set_option linter.unusedVariables false
set_option linter.unusedSimpArgs false

section
variable {l : List S30}
structure Bnd (l : List S30) (i : Nat) (a b c d : Int) : Prop where
  a0 : 0 ≤ a
  b0 : 0 ≤ b
  c0 : c < 32768
  d0 : d < 32768
  ac : a ≤ c
  bd : b ≤ d
  all : ∀ j, j < i → a ≤ (at_ l j).f0 ∧ b ≤ (at_ l j).f1 ∧ (at_ l j).f0 ≤ c ∧ (at_ l j).f1 ≤ d
theorem box_l0 (hv : AllV l) (hl : l.length ≤ 1000000) : ∀ (m i : Nat) (a b c d : Int), i + m = l.length → Bnd l i a b c d →
    ∃ a' b' c' d', Bnd l l.length a' b' c' d' ∧ Ev (fun k => mapmakerref08_Box.l0 k l (i : Int) a b c d) (a', b', c', d', true) := by
  intro m
  induction m with
  | zero =>
    intro i a b c d h hb
    obtain rfl : i = l.length := by omega
    exact ⟨a, b, c, d, hb, Ev_round (fun k => by rw [mapmakerref08_Box.l0]) (Ev_neg (by omega) (Ev.now _))⟩
  | succ m ih =>
    intro i a b c d h hb
    have vi : vd (at_ l i) := hv _ (rd_mem (by omega))
    obtain ⟨a1, a2, a3, a4⟩ := vi
    obtain ⟨h1, h2, h3, h4, h5, h6, h7⟩ := hb
    obtain ⟨a', b', c', d', hb', e⟩ := ih (i + 1) (min a (at_ l i).f0) (min b (at_ l i).f1) (max c (at_ l i).f0) (max d (at_ l i).f1) (by omega) (by
      refine ⟨by omega, by omega, by omega, by omega, by omega, by omega, fun j hj => ?_⟩
      by_cases e : j = i
      · subst e; omega
      · have := h7 j (by omega); omega)
    refine ⟨a', b', c', d', hb', Ev_round (fun k => by rw [mapmakerref08_Box.l0]) (Ev_pos (by omega) (Ev_pos (by omega) ?_))⟩
    rw [mn_eq, mn_eq, mx_eq, mx_eq, Pq.wi (n := l.length) (by omega) hl]
    exact e
theorem box_ev (h3 : 3 ≤ l.length) (hv : AllV l) (hl : l.length ≤ 1000000) : ∃ a b c d, Bnd l l.length a b c d ∧ Ev (fun k => mapmakerref08_Box.f k l) (a, b, c, d, true) := by
  have v0 : vd (at_ l 0) := hv _ (rd_mem (by omega))
  obtain ⟨a1, a2, a3, a4⟩ := v0
  obtain ⟨a, b, c, d, hb, e⟩ := box_l0 hv hl (l.length - 1) 1 (at_ l 0).f0 (at_ l 0).f1 (at_ l 0).f0 (at_ l 0).f1 (by omega) ⟨a1, a3, a2, a4, Int.le_refl _, Int.le_refl _, fun j hj => by
    obtain rfl : j = 0 := by omega
    omega⟩
  refine ⟨a, b, c, d, hb, ?_⟩
  refine Ev.congr (fun k => by rw [mapmakerref08_Box.f]) (Ev_neg (by omega) (Ev.bind (rAll_ev l hl) ?_))
  rw [all_iff.2 hv]
  refine Ev_round (fun k => by rw [mapmakerref08_Box.j0]) (Ev_neg (by decide) (Ev_pos (by omega) ?_))
  exact e
def inI (l : List S30) (x y : Int) : Int := if Pq.wh l ⟨x, y⟩ = 2 then 1 else 0
def inB (l : List S30) (x y : Int) : Int := if Pq.wh l ⟨x, y⟩ = 1 then 1 else 0
theorem Z_le {f : Int → Int} (hf : ∀ x, 0 ≤ f x ∧ f x ≤ 1) (lo : Int) : ∀ c : Nat, 0 ≤ Z f lo c ∧ Z f lo c ≤ c
  | 0 => by rw [Z]; omega
  | c + 1 => by
    have := Z_le hf lo c
    have := hf (lo + c)
    rw [Z]
    omega
theorem inI_le (y x : Int) : 0 ≤ inI l x y ∧ inI l x y ≤ 1 := by unfold inI; split <;> omega
theorem inB_le (y x : Int) : 0 ≤ inB l x y ∧ inB l x y ≤ 1 := by unfold inB; split <;> omega
theorem Bx_le {f : Int → Int → Int} (hf : ∀ y x, 0 ≤ f x y ∧ f x y ≤ 1) (X0 Y0 : Int) (W : Nat) : ∀ c : Nat, 0 ≤ Bx f X0 Y0 W c ∧ Bx f X0 Y0 W c ≤ W * c
  | 0 => by unfold Bx; rw [Z]; simp
  | c + 1 => by
    have h1 := Bx_le hf X0 Y0 W c
    have h2 := Z_le (f := fun x => f x (Y0 + c)) (hf (Y0 + c)) X0 W
    have e : Bx f X0 Y0 W (c + 1) = Bx f X0 Y0 W c + Z (fun x => f x (Y0 + c)) X0 W := rfl
    rw [e, show (W : Int) * ((c + 1 : Nat) : Int) = W * c + W by rw [show ((c + 1 : Nat) : Int) = (c : Int) + 1 by omega, Int.mul_add, Int.mul_one]]
    omega
section
variable {X0 Y0 X1 Y1 : Int} {W Hh : Nat}
theorem pick_l1 (hl : l.length ≤ 40) (x0 : 0 ≤ X0) (x1 : X1 < 32768) (hW : (W : Int) = X1 - X0 + 1) {y : Int} {r : Bool} {i b : Int} (hi : 0 ≤ i ∧ i ≤ 100000) (hb : 0 ≤ b ∧ b ≤ 100000) (w40 : W ≤ 41)
    (next : Ev (fun k => mapmakerlaw11_PolyPick.l0 k l (i + Z (fun x => inI l x y) X0 W) (b + Z (fun x => inB l x y) X0 W) (wrap64 (y + 1)) X0 Y0 X1 Y1) r) :
    ∀ (d c : Nat), c + d = W → Ev (fun k => mapmakerlaw11_PolyPick.l1 k l (i + Z (fun x => inI l x y) X0 c) (b + Z (fun x => inB l x y) X0 c) y (X0 + c) X0 Y0 X1 Y1) r := by
  intro d
  induction d with
  | zero =>
    intro c h
    obtain rfl : c = W := by omega
    exact Ev_round (fun k => by rw [mapmakerlaw11_PolyPick.l1]) (Ev_neg (by omega) next)
  | succ d ih =>
    intro c h
    have n1 := Z_le (f := fun x => inI l x y) (inI_le y) X0 c
    have n2 := Z_le (f := fun x => inB l x y) (inB_le y) X0 c
    have g := ih (c + 1) (by omega)
    rw [Z, Z, show X0 + ((c + 1 : Nat) : Int) = X0 + (c : Int) + 1 by omega] at g
    refine Ev_round (fun k => by rw [mapmakerlaw11_PolyPick.l1]) (Ev_pos (by omega) (Ev.bind (Pq.Where_ev l (X0 + c) y (by omega)) ?_))
    rw [wrap_in (x := i + Z (fun x => inI l x y) X0 c + 1) ⟨by omega, by omega⟩, wrap_in (x := b + Z (fun x => inB l x y) X0 c + 1) ⟨by omega, by omega⟩, wrap_in (x := X0 + (c : Int) + 1) ⟨by omega, by omega⟩]
    by_cases c2 : Pq.wh l ⟨X0 + c, y⟩ = 2
    · refine Ev_pos c2 ?_
      have e1 : inI l (X0 + c) y = 1 := if_pos c2
      have e2 : inB l (X0 + c) y = 0 := if_neg (by omega)
      rw [e1, e2, Int.add_zero, ← Int.add_assoc] at g
      exact g
    · have e1 : inI l (X0 + c) y = 0 := if_neg c2
      refine Ev_neg c2 ?_
      by_cases c1 : Pq.wh l ⟨X0 + c, y⟩ = 1
      · refine Ev_pos c1 ?_
        have e2 : inB l (X0 + c) y = 1 := if_pos c1
        rw [e1, e2, Int.add_zero, ← Int.add_assoc b] at g
        exact g
      · refine Ev_neg c1 ?_
        have e2 : inB l (X0 + c) y = 0 := if_neg c1
        rw [e1, e2, Int.add_zero, Int.add_zero] at g
        exact g
theorem pick_l0 (hl : l.length ≤ 40) (hs : Pq.simpleP l = true) (hb : Bnd l l.length X0 Y0 X1 Y1) (hW : (W : Int) = X1 - X0 + 1) (hH : (Hh : Int) = Y1 - Y0 + 1) (w40 : W ≤ 41) (h40 : Hh ≤ 41) :
    ∀ (d c : Nat), c + d = Hh → Ev (fun k => mapmakerlaw11_PolyPick.l0 k l (Bx (inI l) X0 Y0 W c) (Bx (inB l) X0 Y0 W c) (Y0 + c) X0 Y0 X1 Y1) true := by
  obtain ⟨b1, b2, b3, b4, b5, b6, b7⟩ := hb
  have wc : ∀ c, c ≤ Hh → (W : Int) * c ≤ 2000 := fun c hc => by
    have : W * c ≤ 41 * 41 := Nat.mul_le_mul w40 (by omega)
    have e : ((W * c : Nat) : Int) = (W : Int) * c := by simp
    omega
  intro d
  induction d with
  | zero =>
    intro c h
    obtain rfl : c = Hh := by omega
    have h3 := simple_three hs
    obtain ⟨hv, hr⟩ := ring_simple h3 hs
    refine Ev_round (fun k => by rw [mapmakerlaw11_PolyPick.l0]) (Ev_neg (by omega) (Ev.bind (Ev_const (Pq.area_eq l (by omega))) ?_))
    rw [if_pos (all_iff.2 hv), area_ring hv (by omega)]
    have pk := hr.pick (X0 := X0) (Y0 := Y0) (W := W) (Hh := c) (fun j => by
      have := b7 (j % l.length) (Nat.mod_lt _ (by omega))
      rw [← hr.mod j]
      have e1 : (pts l (j % l.length)).x = (at_ l (j % l.length)).f0 := by rw [pts_at (Nat.mod_lt _ (by omega))]; rfl
      have e2 : (pts l (j % l.length)).y = (at_ l (j % l.length)).f1 := by rw [pts_at (Nat.mod_lt _ (by omega))]; rfl
      rw [e1, e2]
      omega)
    have es : Bx (fun x y => see l.length (pts l) ⟨x, y⟩) X0 Y0 W c = C l.length (pts l) * (Bx (inB l) X0 Y0 W c + 2 * Bx (inI l) X0 Y0 W c) := by
      have cg : Bx (fun x y => see l.length (pts l) ⟨x, y⟩) X0 Y0 W c = Bx (fun x y => C l.length (pts l) * (inB l x y + 2 * inI l x y)) X0 Y0 W c := Bx_congr (fun x y h1 h2 h3 h4 => by
        have vp : vd (⟨x, y⟩ : S30) := by
          show 0 ≤ x ∧ x < 32768 ∧ 0 ≤ y ∧ y < 32768
          omega
        exact see_wh (p := ⟨x, y⟩) hr hv vp)
      rw [cg]
      rw [Bx_mul, Bx_add, Bx_mul]
    rw [es] at pk
    have k1 := Bx_le (f := inI l) inI_le X0 Y0 W c
    have k2 := Bx_le (f := inB l) inB_le X0 Y0 W c
    have k3 := wc c (Nat.le_refl _)
    rw [wrap_in (x := 2 * Bx (inI l) X0 Y0 W c) ⟨by omega, by omega⟩, wrap_in (x := 2 * Bx (inI l) X0 Y0 W c + Bx (inB l) X0 Y0 W c) ⟨by omega, by omega⟩, wrap_in (x := 2 * Bx (inI l) X0 Y0 W c + Bx (inB l) X0 Y0 W c - 2) ⟨by omega, by omega⟩]
    by_cases e : area2 (pts l) l.length = 2 * Bx (inI l) X0 Y0 W c + Bx (inB l) X0 Y0 W c - 2
    · exact Ev_pos e fin_ev
    · refine Ev_neg e (Ev_pos ?_ fin_ev)
      rcases hr.two with t | t
      · rw [t] at pk
        omega
      · rw [t] at pk
        rw [wrap_in (x := -area2 (pts l) l.length) ⟨by omega, by omega⟩]
        omega
  | succ d ih =>
    intro c h
    have k1 := Bx_le (f := inI l) inI_le X0 Y0 W c
    have k2 := Bx_le (f := inB l) inB_le X0 Y0 W c
    have k3 := wc c (by omega)
    refine Ev_round (fun k => by rw [mapmakerlaw11_PolyPick.l0]) (Ev_pos (by omega) ?_)
    have g := ih (c + 1) (by omega)
    have e := pick_l1 (l := l) (X0 := X0) (X1 := X1) (Y0 := Y0) (Y1 := Y1) (W := W) (y := Y0 + c) (r := true) (i := Bx (inI l) X0 Y0 W c) (b := Bx (inB l) X0 Y0 W c) hl b1 b3 hW ⟨by omega, by omega⟩ ⟨by omega, by omega⟩ w40 (by
      rw [wrap_in (x := Y0 + (c : Int) + 1) ⟨by omega, by omega⟩, show Y0 + (c : Int) + 1 = Y0 + ((c + 1 : Nat) : Int) by omega]
      exact g) W 0 (by omega)
    rw [Z, Z, Int.add_zero, Int.add_zero] at e
    simpa using e
end
theorem PolyPick : mapmakerlaw11_PolyPick.Pure := by
  intro l hs
  refine Ev.rounds (Ev.congr (fun k => by rw [mapmakerlaw11_PolyPick.f]) ?_)
  refine Ev.bind (Ev_const rfl) ?_
  have no : Ev (fun k => mapmakerlaw11_PolyPick.j0 k l true) true := Ev_round (fun k => by rw [mapmakerlaw11_PolyPick.j0]) (Ev_pos rfl fin_ev)
  by_cases hf : (l.length : Int) ≤ 40
  · refine Ev_pos (decide_eq_true hf) (Ev.bind (Pq.simple_ev l (by omega)) ?_)
    by_cases hsim : Pq.simpleP l = true
    · rw [hsim]
      have h3 := simple_three hsim
      obtain ⟨hv, hr⟩ := ring_simple h3 hsim
      obtain ⟨a, b, c, d, hb, e⟩ := box_ev h3 hv (by omega)
      have nb : ∀ {a b c d : Int}, Ev (fun k => mapmakerlaw11_PolyPick.j1 k l true a b c d) true := Ev_round (fun k => by rw [mapmakerlaw11_PolyPick.j1]) (Ev_pos rfl fin_ev)
      refine Ev_round (fun k => by rw [mapmakerlaw11_PolyPick.j0]) (Ev_neg (by decide) (Ev.bind e ?_))
      have hb' := hb
      obtain ⟨b1, b2, b3, b4, b5, b6, b7⟩ := hb'
      show Ev (fun k => if wrap64 (c - a) > 40 then mapmakerlaw11_PolyPick.j1 k l true a b c d else mapmakerlaw11_PolyPick.j1 k l (decide (wrap64 (d - b) > 40)) a b c d) true
      rw [wrap_in (x := c - a) ⟨by omega, by omega⟩, wrap_in (x := d - b) ⟨by omega, by omega⟩]
      by_cases c1 : c - a > 40
      · exact Ev_pos c1 nb
      · refine Ev_neg c1 ?_
        by_cases c2 : d - b > 40
        · rw [decide_eq_true c2]
          exact nb
        · rw [decide_eq_false c2]
          refine Ev_round (fun k => by rw [mapmakerlaw11_PolyPick.j1]) (Ev_neg (by decide) ?_)
          have g := pick_l0 (l := l) (W := (c - a + 1).toNat) (Hh := (d - b + 1).toNat) (by omega) hsim hb (by omega) (by omega) (by omega) (by omega) (d - b + 1).toNat 0 (by omega)
          simpa [Bx, Z] using g
    · rw [Bool.not_eq_true] at hsim
      rw [hsim]
      exact no
  · exact Ev_neg (by simpa using hf) no
end
end Go.Proofs.Ytggafoldccikdaa.Pk
