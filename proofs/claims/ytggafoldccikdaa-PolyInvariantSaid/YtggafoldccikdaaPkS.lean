/- A simple outline has an area; the law PolyInvariant. -/
import Derived.Test.YtggafoldccikdaaPkR
import Derived.Test.YtggafoldccikdaaPAllx50
namespace Go.Proofs.Ytggafoldccikdaa.Pk
open Go.RowKit Go.Proofs.Ytggafoldccikdaa.PAll Go.Proofs.YtggafoldccikdaaW.PrintWords Go.Proofs.YtggafoldccikdaaW.PrintLast Go.Proofs.YtggafoldccikdaaW.PrintMore Go.Proofs.Ytggafoldccikdaa.Bas Go.Proofs.Ytggafoldccikdaa.Sg Go.Proofs.Ytggafoldccikdaa.Po
set_option linter.unusedVariables false
set_option linter.unusedSimpArgs false

theorem Z_mono {f g : Int → Int} (h : ∀ x, f x ≤ g x) (lo : Int) : ∀ c : Nat, Z f lo c ≤ Z g lo c
  | 0 => Int.le_refl _
  | c + 1 => by
    have := Z_mono h lo c
    have := h (lo + c)
    rw [Z, Z]
    omega
theorem Bx_mono {f g : Int → Int → Int} (h : ∀ x y, f x y ≤ g x y) (X0 Y0 : Int) (W Hh : Nat) : Bx f X0 Y0 W Hh ≤ Bx g X0 Y0 W Hh :=
  Z_mono (fun y => Z_mono (fun x => h x y) X0 W) Y0 Hh
section
variable {l : List S30}
theorem wh_vertex (h3 : 3 ≤ l.length) (hv : AllV l) {j : Nat} (hj : j < l.length) : Pq.wh l (at_ l j) = 1 := by
  have vj : vd (at_ l j) := hv _ (rd_mem hj)
  have vn : vd (nx l j) := hv _ (rd_mem (next_lt hj))
  rw [wh_pts h3 hv vj]
  exact whP_on j (on_self' vj vn).1 l.length 0 false (by omega) (by omega)
def pi_ (a : V) (x y : Int) : Int := if a.x = x ∧ a.y = y then 1 else 0
theorem area_ne (hs : Pq.simpleP l = true) : ar l ≠ 0 := by
  have h3 := simple_three hs
  obtain ⟨hv, hr⟩ := ring_simple h3 hs
  unfold ar
  rw [if_pos (all_iff.2 hv)]
  have main : ∀ W Hh : Nat, W = 32768 → Hh = 32768 → area2 (pts l) l.length ≠ 0 := fun W Hh eW eH => by
    have box : ∀ j, j < l.length → 0 ≤ (at_ l j).f0 ∧ (at_ l j).f0 < 0 + (W : Int) ∧ 0 ≤ (at_ l j).f1 ∧ (at_ l j).f1 < 0 + (Hh : Int) := fun j hj => by
      have vj : vd (at_ l j) := hv _ (rd_mem hj)
      obtain ⟨a1, a2, a3, a4⟩ := vj
      omega
    have pk := pick_eq (l := l) hv hr (X0 := 0) (Y0 := 0) (W := W) (Hh := Hh) box ⟨by omega, by omega, by omega, by omega⟩
    have i0 := (Bx_le (f := inI l) inI_le 0 0 W Hh).1
    have pt : ∀ j, j < l.length → Bx (pi_ (pts l j)) 0 0 W Hh = 1 := fun j hj => by
      have := box j hj
      have e : pts l j = pv (at_ l j) := pts_at hj
      refine Bx_point 1 (pts l j) ?_ ?_
      · rw [e]; exact ⟨this.1, this.2.1⟩
      · rw [e]; exact ⟨this.2.2.1, this.2.2.2⟩
    have le : Bx (fun x y => (fun x y => pi_ (pts l 0) x y + pi_ (pts l 1) x y) x y + pi_ (pts l 2) x y) 0 0 W Hh ≤ Bx (inB l) 0 0 W Hh := Bx_mono (fun x y => by
      have one : ∀ j, j < l.length → (pts l j).x = x ∧ (pts l j).y = y → inB l x y = 1 := fun j hj h => by
        rw [pts_at hj] at h
        have e : (⟨x, y⟩ : S30) = at_ l j := by
          have h1 : (at_ l j).f0 = x := h.1
          have h2 : (at_ l j).f1 = y := h.2
          rw [← h1, ← h2]
        unfold inB
        rw [e, wh_vertex h3 hv hj]
        rfl
      have two : ∀ i j, i < l.length → j < l.length → i ≠ j → (pts l i).x = x ∧ (pts l i).y = y → (pts l j).x = x ∧ (pts l j).y = y → False := fun i j hi hj hne h1 h2 =>
        hr.distinct hi hj hne (V.eq (h1.1.trans h2.1.symm) (h1.2.trans h2.2.symm))
      have nb := (inB_le (l := l) y x).1
      show pi_ (pts l 0) x y + pi_ (pts l 1) x y + pi_ (pts l 2) x y ≤ inB l x y
      unfold pi_
      by_cases c0 : (pts l 0).x = x ∧ (pts l 0).y = y
      · rw [if_pos c0, if_neg (fun c => two 0 1 (by omega) (by omega) (by omega) c0 c), if_neg (fun c => two 0 2 (by omega) (by omega) (by omega) c0 c), one 0 (by omega) c0]
        omega
      · rw [if_neg c0]
        by_cases c1 : (pts l 1).x = x ∧ (pts l 1).y = y
        · rw [if_pos c1, if_neg (fun c => two 1 2 (by omega) (by omega) (by omega) c1 c), one 1 (by omega) c1]
          omega
        · rw [if_neg c1]
          by_cases c2 : (pts l 2).x = x ∧ (pts l 2).y = y
          · rw [if_pos c2, one 2 (by omega) c2]
            omega
          · rw [if_neg c2]
            omega) 0 0 W Hh
    rw [Bx_add, Bx_add] at le
    have p0 := pt 0 (by omega)
    have p1 := pt 1 (by omega)
    have p2 := pt 2 (by omega)
    have q0 : Bx (fun x y => pi_ (pts l 0) x y) 0 0 W Hh = 1 := p0
    have q1 : Bx (fun x y => pi_ (pts l 1) x y) 0 0 W Hh = 1 := p1
    have q2 : Bx (fun x y => pi_ (pts l 2) x y) 0 0 W Hh = 1 := p2
    rw [q0, q1, q2] at le
    intro e
    rw [e] at pk
    rcases hr.two with t | t
    · rw [t] at pk
      omega
    · rw [t] at pk
      omega
  exact main 32768 32768 rfl rfl
theorem PolyInvariant : mapmakerlaw11_PolyInvariant.Pure := by
  intro l p0 p1 a2 hs hp ha
  have a255 : 0 ≤ a2 ∧ a2 ≤ 255 := bounds_u8 ha
  refine Ev.rounds (Ev.congr (fun k => by rw [mapmakerlaw11_PolyInvariant.f]) ?_)
  refine Ev.bind (Ev_const rfl) ?_
  have no : Ev (fun k => mapmakerlaw11_PolyInvariant.j0 k l a2 true p0 p1) true := Ev_round (fun k => by rw [mapmakerlaw11_PolyInvariant.j0]) (Ev_pos rfl fin_ev)
  by_cases hf : (l.length : Int) ≤ 40
  · refine Ev_pos (decide_eq_true hf) ?_
    by_cases h0 : (l.length : Int) = 0
    · rw [show ((l.length : Int) == 0) = true from beq_iff_eq.2 h0]
      exact no
    rw [show ((l.length : Int) == 0) = false from beq_eq_false_iff_ne.2 h0]
    have hl : l.length ≤ 1000000 := by omega
    have hpos : 0 < l.length := by omega
    obtain ⟨s, hs0⟩ : ∃ s : Nat, (s : Int) = a2 % (l.length : Int) := ⟨(a2 % (l.length : Int)).toNat, Int.toNat_of_nonneg (Int.emod_nonneg _ h0)⟩
    have hsl : s < l.length := by
      have := Int.emod_lt_of_pos a2 (b := (l.length : Int)) (by omega)
      omega
    have et : Int.tmod (wrap64 a2) (l.length : Int) = (s : Int) := by
      rw [wrap_in ⟨by omega, by omega⟩, tmod_nn a255.1, hs0]
    have hrl : (rot l s).length = l.length := rot_len (by omega)
    refine Ev_round (fun k => by rw [mapmakerlaw11_PolyInvariant.j0]) (Ev_neg (by decide) (Ev_neg h0 ?_))
    rw [et]
    refine Ev.bind (Ev_const rfl) (Ev_pos (by omega) (Ev_pos (by omega) (Ev.bind (Ev_const rfl) (Ev_pos ?_ (Ev.bind (Ev_const rfl) (Ev.bind (Ev_const rfl) (Ev_pos ?_ (Ev.bind (a := rot l s) (Ev_const rfl) ?_))))))))
    · rw [List.length_nil, List.length_drop]
      omega
    · rw [List.length_append, List.length_nil, List.length_drop, List.length_take]
      omega
    have hll : l.reverse.length ≤ 1000000 := by rw [List.length_reverse]; exact hl
    refine Ev.bind (Pq.rev_ev l hl) (Ev.bind (Ev_const (area_f hll)) (Ev.bind (Ev_const (area_f hl)) (Ev_pos ?_ ?_)))
    · rw [ar_rev hpos, wrap_in (ar_bound hl)]
    refine Ev.bind (Ev_const (area_f (l := rot l s) (by omega))) (Ev.bind (Ev_const (area_f hl)) (Ev_pos (ar_rot hsl) ?_))
    refine Ev.bind (Pq.Where_ev l.reverse p0 p1 hll) (Ev.bind (Pq.Where_ev l p0 p1 hl) (Ev_pos (wh_rev hpos) ?_))
    refine Ev.bind (Pq.Where_ev (rot l s) p0 p1 (by omega)) (Ev.bind (Pq.Where_ev l p0 p1 hl) ?_)
    rw [wh_rot hsl]
    refine Ev_round (fun k => by rw [mapmakerlaw11_PolyInvariant.j1]) (Ev_neg (by simp) ?_)
    refine Ev.bind (Pq.simple_ev l.reverse hll) (Ev.bind (Pq.simple_ev l hl) (Ev_pos (by rw [simple_rev]; simp) ?_))
    refine Ev.bind (Pq.simple_ev (rot l s) (by omega)) (Ev.bind (Pq.simple_ev l hl) (Ev_pos (by rw [simple_rot hsl]; simp) ?_))
    refine Ev.bind (Ev_eq (List.reverse_reverse l) (Pq.rev_ev l.reverse hll)) (Ev.bind (Pq.same08_ev l hl) (Ev_pos rfl (Ev.bind (Pq.simple_ev l hl) ?_)))
    by_cases hsim : Pq.simpleP l = true
    · have g := (simple_good.1 hsim).2.2
      have cl : (rot l (Pq.amn l l.length 0 0)).length = l.length := rot_len (Nat.le_of_lt (Pq.amn_lt _ _ _ (by omega) hpos))
      have ec : Ev (fun k => poly_Canon.f k (rot l s)) (rot l (Pq.amn l l.length 0 0)) := Ev_eq (canon_rot hsl g) (Pq.canon_ev (l := rot l s) (by omega) (by omega))
      have ec2 : Ev (fun k => poly_Canon.f k l) (rot l (Pq.amn l l.length 0 0)) := Pq.canon_ev hpos hl
      refine Ev_pos hsim (Ev.bind ec (Ev.bind ec2 (Ev.bind (Pq.same08_ev _ (by omega)) (Ev_pos rfl ?_))))
      exact Ev.bind (Ev_const (area_f hl)) (Ev_neg (area_ne hsim) fin_ev)
    · exact Ev_neg hsim fin_ev
  · exact Ev_neg (by simpa using hf) no
end
end Go.Proofs.Ytggafoldccikdaa.Pk
