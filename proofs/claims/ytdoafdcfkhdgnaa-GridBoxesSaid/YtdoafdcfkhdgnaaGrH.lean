/- The grid: Box, the program's and the reference's. -/
import Derived.Test.YtdoafdcfkhdgnaaGrR
import Derived.Test.YtdoafdcfkhdgnaaPAllx7
import Derived.Test.YtdoafdcfkhdgnaaPAllx19
import Derived.Test.YtdoafdcfkhdgnaaPAllx20
namespace Go.Proofs.Ytdoafdcfkhdgnaa.Gr
open Go.RowKit Go.Proofs.Ytdoafdcfkhdgnaa.PAll Go.Proofs.YtdoafdcfkhdgnaaW.PrintWords Go.Proofs.YtdoafdcfkhdgnaaW.PrintLast Go.Proofs.YtdoafdcfkhdgnaaW.PrintMore Go.Proofs.Ytdoafdcfkhdgnaa.Bas
set_option linter.unusedVariables false
set_option linter.unusedSimpArgs false

/-- Box from a box on, point by point. -/
def bx : Int → Int → Int → Int → List S36 → Int × Int × Int × Int × Bool
  | a, b, c, d, [] => (a, b, c, d, true)
  | a, b, c, d, p :: ps => if Vd p.f0 p.f1 then bx (min a p.f0) (min b p.f1) (max c p.f0) (max d p.f1) ps else (0, 0, 0, 0, false)
def Box : List S36 → Int × Int × Int × Int × Bool
  | [] => (0, 0, 0, 0, false)
  | p :: ps => if Vd p.f0 p.f1 then bx p.f0 p.f1 p.f0 p.f1 ps else (0, 0, 0, 0, false)
theorem Box_cons (p : S36) (ps : List S36) : Box (p :: ps) = if Vd p.f0 p.f1 then bx p.f0 p.f1 p.f0 p.f1 ps else (0, 0, 0, 0, false) := rfl
theorem Box_l0 (l : List S36) (hl : (l.length : Int) ≤ 9223372036854775807) (n : Nat) : ∀ (i a b c d : Int), 1 ≤ i → i ≤ (l.length : Int) → (l.length : Int) - i = n → Gd a b c d →
    Ev (fun k => grid_Box.l0 k l l (l.length : Int) i a b c d) (bx a b c d (l.drop i.toNat)) := by
  induction n with
  | zero =>
    intro i a b c d h0 h1 hn hg
    refine Ev_round (fun k => by rw [grid_Box.l0]) (Ev_neg (by omega) ?_)
    rw [drop_end (by omega)]
    exact Ev_eq (by simp [bx]; omega) (Ev.now _)
  | succ n ih =>
    intro i a b c d h0 h1 hn hg
    have hi : i < (l.length : Int) := by omega
    refine Ev_round (fun k => by rw [grid_Box.l0]) ?_
    refine Ev_pos hi (Ev_pos (by omega) (Ev_pos hi ?_))
    have hd : l.drop i.toNat = rd_T36 l i :: l.drop (i + 1).toNat := drop_at z36 (by omega) hi
    rw [hd]
    unfold bx
    refine Ev.bind (Ev_const (Valid_eq _ _)) ?_
    by_cases v : Vd (rd_T36 l i).f0 (rd_T36 l i).f1
    · rw [if_pos v]
      refine Ev_pos (by simpa using v) (Ev_neg (by omega) ?_)
      obtain ⟨v1, v2, v3, v4⟩ := v
      obtain ⟨g1, g2, g3, g4, g5, g6⟩ := hg
      have e : join a b c d (rd_T36 l i).f0 (rd_T36 l i).f1 (rd_T36 l i).f0 (rd_T36 l i).f1 = (min a (rd_T36 l i).f0, min b (rd_T36 l i).f1, max c (rd_T36 l i).f0, max d (rd_T36 l i).f1) := by
        unfold join
        rw [if_pos ⟨⟨g1, g2, g3, g4, g5, g6⟩, ⟨v1, by omega, by omega, v3, by omega, by omega⟩⟩]
      refine Ev.bind (Ev_const (Join_eq _ _ _ _ _ _ _ _)) ?_
      rw [e, wrap_in (x := i + 1) ⟨by omega, by omega⟩]
      exact ih (i + 1) (min a (rd_T36 l i).f0) (min b (rd_T36 l i).f1) (max c (rd_T36 l i).f0) (max d (rd_T36 l i).f1) (by omega) (by omega) (by omega) ⟨by omega, by omega, by omega, by omega, by omega, by omega⟩
    · rw [if_neg v]
      exact Ev_neg (by simpa using v) (Ev.now _)
theorem Box_ev (l : List S36) (hl : (l.length : Int) ≤ 9223372036854775807) : Ev (fun k => grid_Box.f k l) (Box l) := by
  refine Ev.congr (fun k => by rw [grid_Box.f]) (Ev_round (fun k => by rw [grid_Box.l0]) ?_)
  cases l with
  | nil => exact Ev_neg (by simp) (Ev_eq (by simp [Box]) (Ev.now _))
  | cons p ps =>
    have hp : (0 : Int) < ((p :: ps).length : Int) := by simp only [List.length_cons]; omega
    have e0 : rd_T36 (p :: ps) 0 = p := rfl
    refine Ev_pos hp (Ev_pos (by omega) (Ev_pos hp ?_))
    rw [e0, Box_cons]
    refine Ev.bind (Ev_const (Valid_eq _ _)) ?_
    by_cases v : Vd p.f0 p.f1
    · rw [if_pos v]
      refine Ev_pos (by simpa using v) (Ev_pos rfl ?_)
      obtain ⟨v1, v2, v3, v4⟩ := v
      have g : Gd p.f0 p.f1 p.f0 p.f1 := ⟨v1, by omega, by omega, v3, by omega, by omega⟩
      have e : join p.f0 p.f1 p.f0 p.f1 p.f0 p.f1 p.f0 p.f1 = (p.f0, p.f1, p.f0, p.f1) := by
        unfold join
        rw [if_pos ⟨g, g⟩]
        simp
      refine Ev.bind (Ev_const (Join_eq _ _ _ _ _ _ _ _)) ?_
      rw [e, wrap_in (x := 0 + 1) ⟨by omega, by omega⟩]
      exact Box_l0 (p :: ps) hl ps.length (0 + 1) _ _ _ _ (by omega) (by simp only [List.length_cons]; omega) (by simp only [List.length_cons]; omega) g
    · rw [if_neg v]
      exact Ev_neg (by simpa using v) (Ev.now _)

theorem All_l0 (l : List S36) (hl : (l.length : Int) ≤ 9223372036854775807) (n : Nat) : ∀ (i : Int), 0 ≤ i → i ≤ (l.length : Int) → (l.length : Int) - i = n →
    Ev (fun k => mapmakerref08_All.l0 k l i) ((l.drop i.toNat).all fun p => decide (Vd p.f0 p.f1)) := by
  induction n with
  | zero =>
    intro i h0 h1 hn
    refine Ev_round (fun k => by rw [mapmakerref08_All.l0]) (Ev_neg (by omega) ?_)
    rw [drop_end (by omega)]
    exact Ev.now _
  | succ n ih =>
    intro i h0 h1 hn
    have hi : i < (l.length : Int) := by omega
    refine Ev_round (fun k => by rw [mapmakerref08_All.l0]) ?_
    refine Ev_pos hi (Ev_pos (by omega) ?_)
    have hd : l.drop i.toNat = rd_T36 l i :: l.drop (i + 1).toNat := drop_at z36 (by omega) hi
    rw [hd, List.all_cons, wrap_in (x := i + 1) ⟨by omega, by omega⟩]
    refine Ev.bind (Ev_const (rValid_eq _ _)) ?_
    by_cases v : Vd (rd_T36 l i).f0 (rd_T36 l i).f1
    · exact Ev_pos (by simpa using v) (Ev_eq (by simp [v]) (ih (i + 1) (by omega) (by omega) (by omega)))
    · exact Ev_neg (by simpa using v) (Ev_eq (by simp [v]) (Ev.now _))
theorem All_ev (l : List S36) (hl : (l.length : Int) ≤ 9223372036854775807) : Ev (fun k => mapmakerref08_All.f k l) (l.all fun p => decide (Vd p.f0 p.f1)) := by
  refine Ev.congr (fun k => by rw [mapmakerref08_All.f]) ?_
  simpa using All_l0 l hl l.length 0 (by omega) (by omega) (by omega)
theorem bx_all : ∀ (l : List S36) (a b c d : Int), (l.all fun p => decide (Vd p.f0 p.f1)) = false → bx a b c d l = (0, 0, 0, 0, false)
  | [], _, _, _, _, h => by simp at h
  | p :: ps, a, b, c, d, h => by
    unfold bx
    by_cases v : Vd p.f0 p.f1
    · rw [if_pos v]
      exact bx_all ps _ _ _ _ (by simpa [v] using h)
    · rw [if_neg v]
theorem rBox_l0 (l : List S36) (hl : (l.length : Int) ≤ 9223372036854775807) (ha : (l.all fun p => decide (Vd p.f0 p.f1)) = true) (n : Nat) : ∀ (i a b c d : Int), 1 ≤ i → i ≤ (l.length : Int) → (l.length : Int) - i = n →
    Ev (fun k => mapmakerref08_Box.l0 k l i a b c d) (bx a b c d (l.drop i.toNat)) := by
  induction n with
  | zero =>
    intro i a b c d h0 h1 hn
    refine Ev_round (fun k => by rw [mapmakerref08_Box.l0]) (Ev_neg (by omega) ?_)
    rw [drop_end (by omega)]
    exact Ev.now _
  | succ n ih =>
    intro i a b c d h0 h1 hn
    have hi : i < (l.length : Int) := by omega
    refine Ev_round (fun k => by rw [mapmakerref08_Box.l0]) ?_
    refine Ev_pos hi (Ev_pos (by omega) ?_)
    have hd : l.drop i.toNat = rd_T36 l i :: l.drop (i + 1).toNat := drop_at z36 (by omega) hi
    have v : Vd (rd_T36 l i).f0 (rd_T36 l i).f1 := by
      have hm : rd_T36 l i ∈ l := getD_mem z36 (by omega) hi
      simpa using List.all_eq_true.1 ha _ hm
    rw [hd, wrap_in (x := i + 1) ⟨by omega, by omega⟩, mn_eq, mn_eq, mx_eq, mx_eq]
    unfold bx
    rw [if_pos v]
    exact ih (i + 1) _ _ _ _ (by omega) (by omega) (by omega)
theorem rBox_ev (l : List S36) (hl : (l.length : Int) ≤ 9223372036854775807) : Ev (fun k => mapmakerref08_Box.f k l) (Box l) := by
  refine Ev.congr (fun k => by rw [mapmakerref08_Box.f]) ?_
  have dead : ∀ b : Bool, b = true → Ev (fun k => mapmakerref08_Box.j0 k l b) (0, 0, 0, 0, false) := fun b hb => Ev_round (fun k => by rw [mapmakerref08_Box.j0]) (Ev_pos hb (Ev.now _))
  cases l with
  | nil => exact Ev_pos (by simp) (dead _ rfl)
  | cons p ps =>
    refine Ev_neg (by simp; omega) (Ev.bind (All_ev _ hl) ?_)
    cases ha : ((p :: ps).all fun p => decide (Vd p.f0 p.f1)) with
    | false =>
      refine Ev_eq ?_ (dead _ rfl)
      rw [Box_cons]
      by_cases v : Vd p.f0 p.f1
      · rw [if_pos v, bx_all]
        simpa [v] using ha
      · rw [if_neg v]
    | true =>
      have hp : (0 : Int) < ((p :: ps).length : Int) := by simp only [List.length_cons]; omega
      have v : Vd p.f0 p.f1 := by simpa using List.all_eq_true.1 ha p List.mem_cons_self
      refine Ev_round (fun k => by rw [mapmakerref08_Box.j0]) (Ev_neg (by decide) (Ev_pos hp ?_))
      have e0 : rd_T36 (p :: ps) 0 = p := rfl
      rw [e0, Box_cons]
      rw [if_pos v]
      exact rBox_l0 (p :: ps) hl ha ps.length 1 _ _ _ _ (by omega) (by simp; omega) (by simp)
end Go.Proofs.Ytdoafdcfkhdgnaa.Gr
