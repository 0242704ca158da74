/- The program's path: the chain of arcs leads back to the start, it is short, its cost is the distance. The document's way ends: the steps reach every vertex that has a distance, and lead back from it. -/
import Derived.Test.YtofhgmdehglhgaaDn
import Derived.Test.YtofhgmdehglhgaaPAllx8
import Derived.Test.YtofhgmdehglhgaaPAllx17
import Derived.Test.YtofhgmdehglhgaaPAllx15
import Derived.Test.YtofhgmdehglhgaaPAllx16
namespace Go.Proofs.Ytofhgmdehglhgaa.PAll
open Go.RowKit Go.Proofs.YtofhgmdehglhgaaW.PrintWords Go.Proofs.YtofhgmdehglhgaaW.PrintLast Go.Proofs.YtofhgmdehglhgaaW.PrintMore Go.Proofs.Ytofhgmdehglhgaa.Bas
set_option linter.unusedVariables false
set_option linter.unusedSimpArgs false

/-- The arcs from u back to s, the last one first. -/
inductive Ch (l : List S40) (s : Int) (v : List Int) : Int → List Int → Prop
  | base : Ch l s v s []
  | step {u : Int} {p : List Int} : u ≠ s → Ch l s v (rd_T40 l (rd v u)).f0 p → Ch l s v u (rd v u :: p)
section
variable {n : Nat} {l : List S40} {x : List Int} {s : Int} {v : List Int}
theorem Tree.ch {u : Int} (h : Tree l s v u) : ∃ p, Ch l s v u p := by
  induction h with
  | base => exact ⟨[], .base⟩
  | step hu _ ih =>
    obtain ⟨p, hp⟩ := ih
    exact ⟨_, .step hu hp⟩
theorem Ch.det {u : Int} {p q : List Int} (h : Ch l s v u p) : Ch l s v u q → p = q := by
  induction h generalizing q with
  | base =>
    intro k
    cases k with
    | base => rfl
    | step hu _ => exact absurd rfl hu
  | step hu _ ih =>
    intro k
    cases k with
    | base => exact absurd rfl hu
    | step _ k => rw [ih k]
/-- The vertices of a chain. -/
def chV (l : List S40) : Int → List Int → List Int
  | u, [] => [u]
  | u, a :: p => u :: chV l (rd_T40 l a).f0 p
theorem chV_len (l : List S40) : ∀ (p : List Int) (u : Int), (chV l u p).length = p.length + 1
  | [], u => rfl
  | a :: p, u => by
    show (chV l (rd_T40 l a).f0 p).length + 1 = _
    rw [chV_len l p]
    rfl
theorem Ch.mem {u : Int} {p : List Int} (h : Ch l s v u p) (y : Int) : y ∈ chV l u p → ∃ q, Ch l s v y q ∧ q.length ≤ p.length := by
  induction h with
  | base =>
    intro hy
    rw [chV, List.mem_singleton] at hy
    rw [hy]
    exact ⟨[], .base, Nat.le_refl _⟩
  | @step u p hu hp ih =>
    intro hy
    rcases List.mem_cons.1 hy with e | hy
    · rw [e]
      exact ⟨_, .step hu hp, Nat.le_refl _⟩
    · obtain ⟨q, h1, h2⟩ := ih hy
      exact ⟨q, h1, by rw [List.length_cons]; omega⟩
theorem Ch.nodup {u : Int} {p : List Int} (h : Ch l s v u p) : (chV l u p).Nodup := by
  induction h with
  | base => exact List.pairwise_singleton _ _
  | @step u p hu hp ih =>
    refine List.nodup_cons.2 ⟨fun hm => ?_, ih⟩
    obtain ⟨q, h1, h2⟩ := hp.mem u hm
    have := (Ch.step hu hp).det h1
    rw [← this, List.length_cons] at h2
    omega
/-- So many different numbers below n are at most n. -/
theorem pigeon : ∀ (n : Nat) (L : List Int), L.Nodup → (∀ y ∈ L, 0 ≤ y ∧ y < n) → L.length ≤ n
  | 0, L, _, h => by
    cases L with
    | nil => exact Nat.le_refl _
    | cons y r =>
      have := h y List.mem_cons_self
      omega
  | n + 1, L, hn, h => by
    by_cases c : (n : Int) ∈ L
    · have h1 := pigeon n (L.erase (n : Int)) (hn.erase _) (fun y hy => by
        have h2 := hn.mem_erase_iff.1 hy
        have := h y h2.2
        have := h2.1
        omega)
      rw [List.length_erase_of_mem c] at h1
      omega
    · exact Nat.le_trans (pigeon n L hn (fun y hy => by
        have := h y hy
        have : y ≠ n := fun e => c (by rw [← e]; exact hy)
        omega)) (Nat.le_succ _)
theorem ch_range (hG : Gr n l x) {S : DS} (h : Inv n l x s (fun _ => False) S) {u : Int} {p : List Int} (hc : Ch l s S.v u p) : 0 ≤ u → u < n → rd S.d u < 1152921504606846976 → ∀ y ∈ chV l u p, 0 ≤ y ∧ y < n := by
  induction hc with
  | base =>
    intro u0 u1 _ y hy
    rw [chV, List.mem_singleton] at hy
    omega
  | @step u p hu hp ih =>
    intro u0 u1 ul y hy
    obtain ⟨b0, b1, b2, b3, b4⟩ := h.vi u u0 u1 hu ul
    obtain ⟨f1, f2, f3, f4⟩ := hG.ends _ b0 b1
    rcases List.mem_cons.1 hy with e | hy
    · omega
    · exact ih f1 f2 (by omega) y hy
theorem ch_short (hG : Gr n l x) {S : DS} (h : Inv n l x s (fun _ => False) S) {u : Int} {p : List Int} (hc : Ch l s S.v u p) (u0 : 0 ≤ u) (u1 : u < n) (ul : rd S.d u < 1152921504606846976) : p.length < n := by
  have h1 := pigeon n _ hc.nodup (ch_range hG h hc u0 u1 ul)
  rw [chV_len] at h1
  omega
/-- Path's loop finds the chain. -/
theorem via_ev (hG : Gr n l x) {S : DS} (h : Inv n l x s (fun _ => False) S) {u : Int} {p : List Int} (hc : Ch l s S.v u p) : 0 ≤ u → u < n → rd S.d u < 1152921504606846976 → ∀ out : List Int, out.length + p.length < 17592186044416 → Ev (fun k => viaP l S.v k u out) (out ++ p) := by
  induction hc with
  | base =>
    intro u0 u1 _ out _
    refine Ev_round (fun k => by rw [viaP]) (Ev_pos u0 (Ev_pos (by rw [h.di.v]; exact u1) (Ev_neg (by rw [h.vs]; decide) ?_)))
    rw [List.append_nil]
    exact Ev.now _
  | @step u p hu hp ih =>
    intro u0 u1 ul out hl
    obtain ⟨b0, b1, b2, b3, b4⟩ := h.vi u u0 u1 hu ul
    obtain ⟨f1, f2, f3, f4⟩ := hG.ends _ b0 b1
    rw [List.length_cons] at hl
    refine Ev_round (fun k => by rw [viaP]) (Ev_pos u0 (Ev_pos (by rw [h.di.v]; exact u1) (Ev_pos b0 (Ev_pos b1 (Ev_pos (by omega) ?_)))))
    have := ih f1 f2 (by omega) (out ++ [rd S.v u]) (by rw [List.length_append]; simp only [List.length_singleton]; omega)
    rw [List.append_assoc] at this
    exact this
theorem rd_append_at (a r : List Int) (c : Int) : rd (a ++ c :: r) (a.length : Int) = c := by
  unfold rd
  rw [Int.toNat_natCast, List.getD_eq_getElem?_getD, List.getElem?_append_right (Nat.le_refl _), Nat.sub_self]
  rfl
/-- The document's Cost goes along the chain. -/
theorem cost_ev (hG : Gr n l x) {S : DS} (h : Inv n l x s (fun _ => False) S) (hq : cnt S.m = 0) (t : Int) {R : Int × Bool} {u : Int} {p : List Int} (hc : Ch l s S.v u p) : 0 ≤ u → u < n → rd S.d u < 1152921504606846976 → ∀ (q rest : List Int), q = p.reverse ++ rest → q.length ≤ 1048576 →
    Ev (fun k => mapmakerref38_Cost.l0 k x u t q (rd S.d u) (p.length : Int) n l) R → Ev (fun k => mapmakerref38_Cost.l0 k x s t q 0 0 n l) R := by
  induction hc with
  | base =>
    intro u0 u1 _ q rest _ _ he
    rw [h.src] at he
    exact he
  | @step u p hu hp ih =>
    intro u0 u1 ul q rest hq' hql he
    obtain ⟨b0, b1, b2, b3, b4⟩ := h.vi u u0 u1 hu ul
    obtain ⟨f1, f2, f3, f4⟩ := hG.ends _ b0 b1
    have hrel := (h.sp hq).rel _ b0 b1 b2 (by omega)
    rw [b3] at hrel
    have hln := hG.len
    have e : q = p.reverse ++ (rd S.v u :: rest) := by rw [hq', List.reverse_cons, List.append_assoc]; rfl
    have hlen : p.length < q.length := by rw [e, List.length_append, List.length_reverse, List.length_cons]; omega
    have hat : rd q (p.length : Int) = rd S.v u := by
      rw [e, show (p.length : Int) = (p.reverse.length : Int) by rw [List.length_reverse]]
      exact rd_append_at _ _ _
    refine ih f1 f2 (by omega) q (rd S.v u :: rest) e hql ?_
    refine Ev_round (fun k => by rw [mapmakerref38_Cost.l0]) (Ev_pos (by omega) (Ev_pos (by omega) ?_))
    rw [hat]
    have hw := hG.wt _ b0 b1
    have r0 := (h.rng _ f1 f2).1
    have hww : wrap64 (rd S.d (rd_T40 l (rd S.v u)).f0 + rd x (rd S.v u)) = rd S.d u := by unfold wrap64; omega
    refine Ev_neg (by omega) (Ev_neg (by omega) (Ev_pos b0 (Ev_pos (by omega) (Ev_neg (by omega) (Ev_pos b1 (Ev_pos rfl ?_))))))
    rw [hww, b3, wr1 (by omega)]
    rw [List.length_cons] at he
    exact he
end
theorem rev_l0 (p : List Int) (hp : p.length ≤ 1048576) : ∀ (d i : Nat) (L : List Int), d + 2 * i = p.length ∨ d + 2 * i = p.length + 1 → L.length = p.length → (∀ m : Int, 0 ≤ m → m < p.length → rd L m = if m < i ∨ (p.length : Int) - i ≤ m then rd p (p.length - 1 - m) else rd p m) →
    Ev (fun k => slices_Reverse_int_int.l0 k L (i : Int) ((p.length : Int) - 1 - i)) p.reverse := by
  intro d
  induction d using Nat.strongRecOn with
  | ind d ih =>
    intro i L hd hL hm
    by_cases c : (i : Int) < (p.length : Int) - 1 - i
    · refine Ev_round (fun k => by rw [slices_Reverse_int_int.l0]) (Ev_pos c (Ev_pos (by omega) (Ev_pos (by omega) (Ev_pos (by omega) (Ev_pos (by omega) ?_)))))
      rw [show wrap64 ((i : Int) + 1) = ((i + 1 : Nat) : Int) by unfold wrap64; omega, show wrap64 ((p.length : Int) - 1 - i - 1) = (p.length : Int) - 1 - ((i + 1 : Nat) : Int) by unfold wrap64; omega]
      refine ih (d - 2) (by omega) (i + 1) _ (by omega) (by rw [List.length_set, List.length_set]; exact hL) (fun m m0 m1 => ?_)
      rw [rd_set' _ ((p.length : Int) - 1 - i) m _ (by omega) (by rw [List.length_set]; omega) m0, rd_set' L (i : Int) m _ (by omega) (by omega) m0]
      have e1 := hm (i : Int) (by omega) (by omega)
      have e2 := hm ((p.length : Int) - 1 - i) (by omega) (by omega)
      rw [if_neg (by omega)] at e1 e2
      by_cases c1 : m = (p.length : Int) - 1 - i
      · rw [if_pos c1, if_pos (by omega), e1, c1]
        congr 1
        omega
      · rw [if_neg c1]
        by_cases c2 : m = i
        · rw [if_pos c2, if_pos (by omega), e2, c2]
        · rw [if_neg c2, hm m m0 m1]
          by_cases c3 : m < i ∨ (p.length : Int) - i ≤ m
          · rw [if_pos c3, if_pos (by omega)]
          · rw [if_neg c3, if_neg (by omega)]
    · refine Ev_round (fun k => by rw [slices_Reverse_int_int.l0]) (Ev_neg c ?_)
      have e : L = p.reverse := by
        refine rd_ext (by rw [hL, List.length_reverse]) (fun m m0 m1 => ?_)
        rw [hL] at m1
        have hr : rd p.reverse m = rd p (p.length - 1 - m) := by
          unfold rd
          rw [List.getD_eq_getElem?_getD, List.getD_eq_getElem?_getD, List.getElem?_reverse (by omega)]
          congr 2
          omega
        rw [hr, hm m m0 m1]
        by_cases c3 : m < i ∨ (p.length : Int) - i ≤ m
        · rw [if_pos c3]
        · rw [if_neg c3]
          congr 1
          omega
      rw [e]
      exact Ev.now _
theorem rev_ev (p : List Int) (hp : p.length ≤ 1048576) : Ev (fun k => slices_Reverse_int_int.f k p) p.reverse := by
  unfold slices_Reverse_int_int.f
  rw [show wrap64 ((p.length : Int) - 1) = (p.length : Int) - 1 - ((0 : Nat) : Int) by unfold wrap64; omega]
  exact rev_l0 p hp p.length 0 p (by omega) rfl (fun m m0 m1 => by rw [if_neg (by omega)])
end Go.Proofs.Ytofhgmdehglhgaa.PAll
namespace Go.Proofs.Ytofhgmdehglhgaa.PAll
open Go.RowKit Go.Proofs.YtofhgmdehglhgaaW.PrintWords Go.Proofs.YtofhgmdehglhgaaW.PrintLast Go.Proofs.YtofhgmdehglhgaaW.PrintMore Go.Proofs.Ytofhgmdehglhgaa.Bas
set_option linter.unusedVariables false
set_option linter.unusedSimpArgs false

/-- An arc that attains the distance of its end. -/
def Tight (l : List S40) (x d : List Int) (a : Int) : Prop := 0 ≤ a ∧ a < l.length ∧ 0 ≤ rd x a ∧ rd d (rd_T40 l a).f0 + rd x a = rd d (rd_T40 l a).f1
/-- The steps behind the arcs below i of round r. -/
structure St (n : Nat) (l : List S40) (x d : List Int) (s : Int) (r i : Nat) (z : List Int) : Prop where
  len : z.length = n
  src : rd z s = 0
  top : ∀ v : Int, 0 ≤ v → v < n → rd z v ≤ r + 1
  bot : ∀ v : Int, 0 ≤ v → v < n → -1 ≤ rd z v
  pre : ∀ v : Int, 0 ≤ v → v < n → v ≠ s → 0 ≤ rd z v → ∃ a, Tight l x d a ∧ (rd_T40 l a).f1 = v ∧ 0 ≤ rd z (rd_T40 l a).f0 ∧ rd z (rd_T40 l a).f0 + 1 = rd z v
  clo : ∀ a : Int, Tight l x d a → 0 ≤ rd z (rd_T40 l a).f0 → (rd z (rd_T40 l a).f0 < r ∨ (rd z (rd_T40 l a).f0 = r ∧ a < i)) → 0 ≤ rd z (rd_T40 l a).f1
section
variable {n : Nat} {l : List S40} {x d : List Int} {s : Int}
theorem way_l2 (hG : Gr n l x) (hs : 0 ≤ s ∧ s < n) (hd : Sp n l x s d) (t : Int) (r : Nat) (hr : r < n) :
    ∀ (j i : Nat) (z : List Int), i + j = l.length → St n l x d s r i z →
    ∃ z', St n l x d s r l.length z' ∧ ∀ R, Ev (fun k => mapmakerref38_way.l1 k x d s t z' ((r + 1 : Nat) : Int) n l) R → Ev (fun k => mapmakerref38_way.l2 k x d s t z (r : Int) (i : Int) n l) R
  | 0, i, z, h, hz => by
    obtain rfl : i = l.length := by omega
    refine ⟨z, hz, fun R hR => Ev_round (fun k => by rw [mapmakerref38_way.l2]) (Ev_neg (by omega) ?_)⟩
    have := hG.nfew
    rw [wr1 (by omega)]
    exact hR
  | j + 1, i, z, h, hz => by
    have hi : i < l.length := by omega
    obtain ⟨e1, e2, e3, e4⟩ := hG.ends i (by omega) (by omega)
    have hw := hG.wt i (by omega) (by omega)
    have hfw := hG.few
    have hnf := hG.nfew
    have hln := hG.len
    have hwr := Aside0.mk (show wrap64 ((i : Int) + 1) = ((i + 1 : Nat) : Int) from wr1 (by omega))
    have hwn := Aside0.mk (show wrap64 ((r : Int) + 1) = (r : Int) + 1 from by unfold wrap64; omega)
    have open_ : ∀ {g : Nat → Option (List Int)}, (∃ z', St n l x d s r l.length z' ∧ ∀ R, Ev (fun k => mapmakerref38_way.l1 k x d s t z' ((r + 1 : Nat) : Int) n l) R → Ev g R) → (∀ R, Ev g R → Ev (fun k => mapmakerref38_way.l2 k x d s t z (r : Int) (i : Int) n l) R) → ∃ z', St n l x d s r l.length z' ∧ ∀ R, Ev (fun k => mapmakerref38_way.l1 k x d s t z' ((r + 1 : Nat) : Int) n l) R → Ev (fun k => mapmakerref38_way.l2 k x d s t z (r : Int) (i : Int) n l) R := fun ⟨z', a, b⟩ f => ⟨z', a, fun R hR => f R (b R hR)⟩
    -- nothing changes
    have same : (Tight l x d i → rd z (rd_T40 l i).f0 = r → 0 ≤ rd z (rd_T40 l i).f1) → ∃ z', St n l x d s r l.length z' ∧ ∀ R, Ev (fun k => mapmakerref38_way.l1 k x d s t z' ((r + 1 : Nat) : Int) n l) R → Ev (fun k => mapmakerref38_way.l2 k x d s t z (r : Int) (wrap64 ((i : Int) + 1)) n l) R := fun hh => by
      rw [hwr.out]
      refine way_l2 hG hs hd t r hr j (i + 1) z (by omega) ⟨hz.len, hz.src, hz.top, hz.bot, hz.pre, fun a ha h0 h1 => ?_⟩
      rcases h1 with h1 | ⟨h1, h2⟩
      · exact hz.clo a ha h0 (.inl h1)
      · by_cases e : a = i
        · subst e
          exact hh ha h1
        · exact hz.clo a ha h0 (.inr ⟨h1, by omega⟩)
    by_cases c1 : rd x i ≥ 0
    · by_cases c2 : rd z (rd_T40 l i).f0 = r
      · by_cases c3 : rd z (rd_T40 l i).f1 < 0
        · have q0 := hd.rng _ e1 e2
          have hww := Aside0.mk (show wrap64 (rd d (rd_T40 l i).f0 + rd x i) = rd d (rd_T40 l i).f0 + rd x i from by unfold wrap64; omega)
          by_cases c4 : rd d (rd_T40 l i).f0 + rd x i = rd d (rd_T40 l i).f1
          · have hT : Tight l x d i := ⟨by omega, by omega, c1, c4⟩
            have hzl : (rd_T40 l i).f1 < z.length := by rw [hz.len]; exact e4
            have rdz : ∀ v : Int, 0 ≤ v → rd (z.set (rd_T40 l i).f1.toNat ((r : Int) + 1)) v = if v = (rd_T40 l i).f1 then (r : Int) + 1 else rd z v := fun v hv => rd_set' z _ v _ e3 hzl hv
            have hws : (rd_T40 l i).f1 ≠ s := fun e => by rw [e, hz.src] at c3; omega
            have hne : (rd_T40 l i).f0 ≠ (rd_T40 l i).f1 := fun e => by rw [e] at c2; omega
            refine open_ (way_l2 hG hs hd t r hr j (i + 1) (z.set (rd_T40 l i).f1.toNat ((r : Int) + 1)) (by omega) ⟨by rw [List.length_set]; exact hz.len, ?_, fun v v0 v1 => ?_, fun v v0 v1 => ?_, fun v v0 v1 vs vz => ?_, fun a ha h0 h1 => ?_⟩) (fun R he => Ev_round (fun k => by rw [mapmakerref38_way.l2]) (Ev_pos (by omega) (Ev_pos (by omega) (Ev_pos (by omega) (Ev_pos c1 (Ev_pos e1 (Ev_pos (by rw [hz.len]; exact e2) (Ev_pos c2 (Ev_pos e3 (Ev_pos hzl (Ev_pos c3 (Ev_pos (by rw [hd.len]; exact e2) (Ev_pos (by rw [hd.len]; exact e4) (by rw [hww.out]; refine Ev_pos c4 ?_; rw [hwr.out, hwn.out]; exact he))))))))))))))
            · rw [rdz s hs.1, if_neg (Ne.symm hws)]
              exact hz.src
            · have := hz.top v v0 v1
              rw [rdz v v0]
              split
              · omega
              · exact this
            · have := hz.bot v v0 v1
              rw [rdz v v0]
              split
              · omega
              · exact this
            · rw [rdz v v0] at vz ⊢
              by_cases e : v = (rd_T40 l i).f1
              · rw [if_pos e]
                refine ⟨i, hT, e.symm, ?_, ?_⟩
                · rw [rdz _ e1, if_neg hne, c2]; omega
                · rw [rdz _ e1, if_neg hne, c2]
              · rw [if_neg e] at vz ⊢
                obtain ⟨a, ha, ae, a0, a1⟩ := hz.pre v v0 v1 vs vz
                obtain ⟨f1, f2, f3, f4⟩ := hG.ends a ha.1 ha.2.1
                have hna : (rd_T40 l a).f0 ≠ (rd_T40 l i).f1 := fun e => by rw [e] at a0; omega
                exact ⟨a, ha, ae, by rw [rdz _ f1, if_neg hna]; exact a0, by rw [rdz _ f1, if_neg hna]; exact a1⟩
            · obtain ⟨f1, f2, f3, f4⟩ := hG.ends a ha.1 ha.2.1
              rw [rdz _ f1] at h0 h1
              rw [rdz _ f3]
              split
              · omega
              · rename_i ne3
                by_cases e : (rd_T40 l a).f0 = (rd_T40 l i).f1
                · rw [if_pos e] at h1
                  omega
                · rw [if_neg e] at h0 h1
                  rcases h1 with h1 | ⟨h1, h2⟩
                  · exact hz.clo a ha h0 (.inl h1)
                  · by_cases ea : a = i
                    · subst ea
                      exact absurd rfl ne3
                    · exact hz.clo a ha h0 (.inr ⟨h1, by omega⟩)
          · exact open_ (same (fun hT _ => absurd hT.2.2.2 c4)) (fun R he => Ev_round (fun k => by rw [mapmakerref38_way.l2]) (Ev_pos (by omega) (Ev_pos (by omega) (Ev_pos (by omega) (Ev_pos c1 (Ev_pos e1 (Ev_pos (by rw [hz.len]; exact e2) (Ev_pos c2 (Ev_pos e3 (Ev_pos (by rw [hz.len]; exact e4) (Ev_pos c3 (Ev_pos (by rw [hd.len]; exact e2) (Ev_pos (by rw [hd.len]; exact e4) (by rw [hww.out]; exact Ev_neg c4 he))))))))))))))
        · exact open_ (same (fun _ _ => by omega)) (fun R he => Ev_round (fun k => by rw [mapmakerref38_way.l2]) (Ev_pos (by omega) (Ev_pos (by omega) (Ev_pos (by omega) (Ev_pos c1 (Ev_pos e1 (Ev_pos (by rw [hz.len]; exact e2) (Ev_pos c2 (Ev_pos e3 (Ev_pos (by rw [hz.len]; exact e4) (Ev_neg c3 he)))))))))))
      · exact open_ (same (fun _ h => absurd h c2)) (fun R he => Ev_round (fun k => by rw [mapmakerref38_way.l2]) (Ev_pos (by omega) (Ev_pos (by omega) (Ev_pos (by omega) (Ev_pos c1 (Ev_pos e1 (Ev_pos (by rw [hz.len]; exact e2) (Ev_neg c2 he))))))))
    · exact open_ (same (fun hT _ => absurd hT.2.2.1 c1)) (fun R he => Ev_round (fun k => by rw [mapmakerref38_way.l2]) (Ev_pos (by omega) (Ev_pos (by omega) (Ev_pos (by omega) (Ev_neg c1 he)))))
theorem way_l1 (hG : Gr n l x) (hs : 0 ≤ s ∧ s < n) (hd : Sp n l x s d) (t : Int) : ∀ (j r : Nat) (z : List Int), r + j = n → St n l x d s r 0 z →
    ∃ z', St n l x d s n 0 z' ∧ ∀ R, Ev (fun k => mapmakerref38_way.l3 k x d s t z' [] n l) R → Ev (fun k => mapmakerref38_way.l1 k x d s t z (r : Int) n l) R
  | 0, r, z, h, hz => by
    obtain rfl : r = n := by omega
    exact ⟨z, hz, fun R hR => Ev_round (fun k => by rw [mapmakerref38_way.l1]) (Ev_neg (by omega) hR)⟩
  | j + 1, r, z, h, hz => by
    obtain ⟨z', hz', g1⟩ := way_l2 hG hs hd t r (by omega) l.length 0 z (by omega) hz
    obtain ⟨z2, hz2, g2⟩ := way_l1 hG hs hd t j (r + 1) z' (by omega) ⟨hz'.len, hz'.src, fun v v0 v1 => by have := hz'.top v v0 v1; omega, hz'.bot, hz'.pre, fun a ha h0 h1 => hz'.clo a ha h0 (by
      rcases h1 with h1 | ⟨h1, h2⟩
      · by_cases e : rd z' (rd_T40 l a).f0 = r
        · exact .inr ⟨e, ha.2.1⟩
        · exact .inl (by omega)
      · have := ha.1
        omega)⟩
    exact ⟨z2, hz2, fun R hR => Ev_round (f := fun k => if (r : Int) < n then mapmakerref38_way.l2 k x d s t z r 0 n l else mapmakerref38_way.l3 k x d s t z [] n l) (fun k => by rw [mapmakerref38_way.l1]) (Ev_pos (by omega) (g1 R (g2 R hR)))⟩
/-- The vertices on the way back, one on each step. -/
theorem st_chain (hG : Gr n l x) {r i : Nat} {z : List Int} (hz : St n l x d s r i z) (hs : 0 ≤ s ∧ s < n) : ∀ (h : Nat) (v : Int), 0 ≤ v → v < n → rd z v = h → ∃ L : List Int, L.length = h + 1 ∧ L.Nodup ∧ (∀ y ∈ L, 0 ≤ y ∧ y < n) ∧ ∀ y ∈ L, rd z y ≤ h
  | 0, v, v0, v1, e => ⟨[v], rfl, List.pairwise_singleton _ _, fun y hy => by rw [List.mem_singleton.1 hy]; exact ⟨v0, v1⟩, fun y hy => by rw [List.mem_singleton.1 hy]; omega⟩
  | h + 1, v, v0, v1, e => by
    have hvs : v ≠ s := fun e2 => by rw [e2, hz.src] at e; omega
    obtain ⟨a, ha, ae, a0, a1⟩ := hz.pre v v0 v1 hvs (by omega)
    obtain ⟨f1, f2, f3, f4⟩ := hG.ends a ha.1 ha.2.1
    obtain ⟨L, l1, l2, l3, l4⟩ := st_chain hG hz hs h _ f1 f2 (by omega)
    refine ⟨v :: L, by rw [List.length_cons, l1], List.nodup_cons.2 ⟨fun hm => ?_, l2⟩, fun y hy => ?_, fun y hy => ?_⟩
    · have := l4 v hm
      omega
    · rcases List.mem_cons.1 hy with e2 | hy
      · omega
      · exact l3 y hy
    · rcases List.mem_cons.1 hy with e2 | hy
      · rw [e2]; omega
      · have := l4 y hy
        omega
theorem st_low (hG : Gr n l x) {r i : Nat} {z : List Int} (hz : St n l x d s r i z) (hs : 0 ≤ s ∧ s < n) (v : Int) (v0 : 0 ≤ v) (v1 : v < n) : rd z v < n := by
  by_cases c : 0 ≤ rd z v
  · obtain ⟨L, l1, l2, l3, _⟩ := st_chain hG hz hs (rd z v).toNat v v0 v1 (by omega)
    have := pigeon n L l2 l3
    omega
  · omega
/-- Every vertex that has a distance has steps. -/
theorem st_all (hG : Gr n l x) {z : List Int} (hz : St n l x d s n 0 z) (hs : 0 ≤ s ∧ s < n) (hd : Sp n l x s d) {S : DS} (hI : Inv n l x s (fun _ => False) S) (hS : S.d = d) {u : Int} {p : List Int} (hc : Ch l s S.v u p) : 0 ≤ u → u < n → rd d u < 1152921504606846976 → 0 ≤ rd z u := by
  induction hc with
  | base =>
    intro _ _ _
    rw [hz.src]
    exact Int.le_refl _
  | @step u p hu hp ih =>
    intro u0 u1 ul
    obtain ⟨b0, b1, b2, b3, b4⟩ := hI.vi u u0 u1 hu (by rw [hS]; exact ul)
    rw [hS] at b4
    obtain ⟨f1, f2, f3, f4⟩ := hG.ends _ b0 b1
    have hrel := hd.rel _ b0 b1 b2 (by omega)
    rw [b3] at hrel
    have h0 := ih f1 f2 (by omega)
    have h1 := st_low hG hz hs _ f1 f2
    have := hz.clo (rd S.v u) ⟨b0, b1, b2, by rw [b3]; omega⟩ h0 (.inl h1)
    rw [b3] at this
    exact this
theorem way_l5 (b : List Int) (hb : b.length ≤ 1048576) : ∀ (i : Nat) (out : List Int), i ≤ b.length → out.length + i ≤ 1048576 → ∃ R, Ev (fun k => mapmakerref38_way.l5 k b out ((i : Int) - 1)) R
  | 0, out, _, _ => ⟨out, Ev_round (fun k => by rw [mapmakerref38_way.l5]) (Ev_neg (by omega) (Ev.now _))⟩
  | i + 1, out, h, ho => by
    obtain ⟨R, hR⟩ := way_l5 b hb i (out ++ [rd b (((i + 1 : Nat) : Int) - 1)]) (by omega) (by rw [List.length_append, List.length_singleton]; omega)
    refine ⟨R, Ev_round (fun k => by rw [mapmakerref38_way.l5]) (Ev_pos (by omega) (Ev_pos (by omega) (Ev_pos (by omega) (Ev_pos (by omega) ?_))))⟩
    rw [show wrap64 (((i + 1 : Nat) : Int) - 1 - 1) = (i : Int) - 1 by unfold wrap64; omega]
    exact hR
/-- The search for an arc back finds one. -/
theorem way_l4 (hG : Gr n l x) (hd : Sp n l x s d) {z : List Int} (hz : St n l x d s n 0 z) (t : Int) (t0 : 0 ≤ t) (t1 : t < n) (b : List Int) (hb : b.length ≤ 1048576)
    (H : ∀ a : Int, Tight l x d a → (rd_T40 l a).f1 = t → 0 ≤ rd z (rd_T40 l a).f0 → rd z (rd_T40 l a).f0 + 1 = rd z t → ∃ R, Ev (fun k => mapmakerref38_way.l3 k x d s (rd_T40 l a).f0 z (b ++ [a]) n l) R) :
    ∀ (j i : Nat), i + j = l.length → (∃ a : Int, (i : Int) ≤ a ∧ Tight l x d a ∧ (rd_T40 l a).f1 = t ∧ 0 ≤ rd z (rd_T40 l a).f0 ∧ rd z (rd_T40 l a).f0 + 1 = rd z t) → ∃ R, Ev (fun k => mapmakerref38_way.l4 k x d s t z b (i : Int) n l) R
  | 0, i, h, ⟨a, ai, aT, _⟩ => by
    have := aT.2.1
    omega
  | j + 1, i, h, ⟨a, ai, aT, ae, a0, a1⟩ => by
    have hi : i < l.length := by omega
    obtain ⟨e1, e2, e3, e4⟩ := hG.ends i (by omega) (by omega)
    have hw := hG.wt i (by omega) (by omega)
    have hfw := hG.few
    have hnf := hG.nfew
    have hln := hG.len
    have hwr := Aside0.mk (show wrap64 ((i : Int) + 1) = ((i + 1 : Nat) : Int) from wr1 (by omega))
    have open_ : ∀ {g : Nat → Option (List Int)}, (∃ R, Ev g R) → (∀ R, Ev g R → Ev (fun k => mapmakerref38_way.l4 k x d s t z b (i : Int) n l) R) → ∃ R, Ev (fun k => mapmakerref38_way.l4 k x d s t z b (i : Int) n l) R := fun ⟨R, a⟩ f => ⟨R, f R a⟩
    have next : (Tight l x d i → (rd_T40 l i).f1 = t → 0 ≤ rd z (rd_T40 l i).f0 → rd z (rd_T40 l i).f0 + 1 = rd z t → False) → ∃ R, Ev (fun k => mapmakerref38_way.l4 k x d s t z b (wrap64 ((i : Int) + 1)) n l) R := fun hh => by
      rw [hwr.out]
      refine way_l4 hG hd hz t t0 t1 b hb H j (i + 1) (by omega) ⟨a, ?_, aT, ae, a0, a1⟩
      by_cases e : a = i
      · subst e
        exact (hh aT ae a0 a1).elim
      · omega
    by_cases c1 : rd x i ≥ 0
    · by_cases c2 : (rd_T40 l i).f1 = t
      · by_cases c3 : rd z (rd_T40 l i).f0 ≥ 0
        · have hlow := hz.top _ e1 e2
          have hws := Aside0.mk (show wrap64 (rd z (rd_T40 l i).f0 + 1) = rd z (rd_T40 l i).f0 + 1 from by unfold wrap64; omega)
          by_cases c4 : rd z (rd_T40 l i).f0 + 1 = rd z t
          · have q0 := hd.rng _ e1 e2
            have hww := Aside0.mk (show wrap64 (rd d (rd_T40 l i).f0 + rd x i) = rd d (rd_T40 l i).f0 + rd x i from by unfold wrap64; omega)
            by_cases c5 : rd d (rd_T40 l i).f0 + rd x i = rd d t
            · exact open_ (H i ⟨by omega, by omega, c1, by rw [c2]; exact c5⟩ c2 c3 c4) (fun R hR => Ev_round (fun k => by rw [mapmakerref38_way.l4]) (Ev_pos (by omega) (Ev_pos (by omega) (Ev_pos (by omega) (Ev_pos c1 (Ev_pos c2 (Ev_pos e1 (Ev_pos (by rw [hz.len]; exact e2) (Ev_pos c3 (Ev_pos t0 (Ev_pos (by rw [hz.len]; exact t1) (Ev_pos (by rw [hws.out]; exact c4) (Ev_pos (by rw [hd.len]; exact e2) (Ev_pos (by rw [hd.len]; exact t1) (Ev_pos (by rw [hww.out]; exact c5) (Ev_pos (by omega) hR))))))))))))))))
            · exact open_ (next (fun hT _ _ _ => c5 (by rw [← c2]; exact hT.2.2.2))) (fun R hR => Ev_round (fun k => by rw [mapmakerref38_way.l4]) (Ev_pos (by omega) (Ev_pos (by omega) (Ev_pos (by omega) (Ev_pos c1 (Ev_pos c2 (Ev_pos e1 (Ev_pos (by rw [hz.len]; exact e2) (Ev_pos c3 (Ev_pos t0 (Ev_pos (by rw [hz.len]; exact t1) (Ev_pos (by rw [hws.out]; exact c4) (Ev_pos (by rw [hd.len]; exact e2) (Ev_pos (by rw [hd.len]; exact t1) (Ev_neg (by rw [hww.out]; exact c5) hR)))))))))))))))
          · exact open_ (next (fun _ _ _ h => c4 h)) (fun R hR => Ev_round (fun k => by rw [mapmakerref38_way.l4]) (Ev_pos (by omega) (Ev_pos (by omega) (Ev_pos (by omega) (Ev_pos c1 (Ev_pos c2 (Ev_pos e1 (Ev_pos (by rw [hz.len]; exact e2) (Ev_pos c3 (Ev_pos t0 (Ev_pos (by rw [hz.len]; exact t1) (Ev_neg (by rw [hws.out]; exact c4) hR))))))))))))
        · exact open_ (next (fun _ _ h _ => c3 h)) (fun R hR => Ev_round (fun k => by rw [mapmakerref38_way.l4]) (Ev_pos (by omega) (Ev_pos (by omega) (Ev_pos (by omega) (Ev_pos c1 (Ev_pos c2 (Ev_pos e1 (Ev_pos (by rw [hz.len]; exact e2) (Ev_neg c3 hR)))))))))
      · exact open_ (next (fun _ h _ _ => c2 h)) (fun R hR => Ev_round (fun k => by rw [mapmakerref38_way.l4]) (Ev_pos (by omega) (Ev_pos (by omega) (Ev_pos (by omega) (Ev_pos c1 (Ev_neg c2 hR))))))
    · exact open_ (next (fun hT _ _ _ => c1 hT.2.2.1)) (fun R hR => Ev_round (fun k => by rw [mapmakerref38_way.l4]) (Ev_pos (by omega) (Ev_pos (by omega) (Ev_pos (by omega) (Ev_neg c1 hR)))))
theorem way_l3 (hG : Gr n l x) (hs : 0 ≤ s ∧ s < n) (hd : Sp n l x s d) {z : List Int} (hz : St n l x d s n 0 z) : ∀ (h : Nat) (t : Int) (b : List Int), 0 ≤ t → t < n → rd z t = h → b.length + h ≤ 1048576 → ∃ R, Ev (fun k => mapmakerref38_way.l3 k x d s t z b n l) R := by
  have done : ∀ b : List Int, b.length ≤ 1048576 → ∃ R, Ev (fun k => mapmakerref38_way.l3 k x d s s z b n l) R := fun b hb => by
    obtain ⟨R, hR⟩ := way_l5 b hb b.length [] (Nat.le_refl _) (by simp only [List.length_nil]; omega)
    refine ⟨R, Ev_round (fun k => by rw [mapmakerref38_way.l3]) (Ev_pos rfl ?_)⟩
    rw [show wrap64 ((b.length : Int) - 1) = (b.length : Int) - 1 by unfold wrap64; omega]
    exact hR
  intro h
  induction h with
  | zero =>
    intro t b t0 t1 e hb
    by_cases c : t = s
    · rw [c]
      exact done b (by omega)
    · obtain ⟨a, _, _, a0, a1⟩ := hz.pre t t0 t1 c (by omega)
      omega
  | succ h ih =>
    intro t b t0 t1 e hb
    by_cases c : t = s
    · rw [c]
      exact done b (by omega)
    · obtain ⟨a, aT, ae, a0, a1⟩ := hz.pre t t0 t1 c (by omega)
      obtain ⟨R, hR⟩ := way_l4 hG hd hz t t0 t1 b (by omega) (fun a aT ae a0 a1 => by
        obtain ⟨f1, f2, _, _⟩ := hG.ends a aT.1 aT.2.1
        exact ih _ (b ++ [a]) f1 f2 (by omega) (by rw [List.length_append, List.length_singleton]; omega)) l.length 0 (by omega) ⟨a, by have := aT.1; omega, aT, ae, a0, a1⟩
      exact ⟨R, Ev_round (f := fun k => if t = s then mapmakerref38_way.l5 k b [] (wrap64 ((b.length : Int) - 1)) else mapmakerref38_way.l4 k x d s t z b 0 n l) (fun k => by rw [mapmakerref38_way.l3]) (Ev_neg c hR)⟩
theorem way_l0 (hn : n ≤ 1048576) (hs : 0 ≤ s ∧ s < n) (t : Int) {R : List Int} (H : Ev (fun k => mapmakerref38_way.l1 k x d s t ((List.replicate n (-1)).set s.toNat 0) 0 n l) R) : ∀ (j i : Nat), i + j = n → Ev (fun k => mapmakerref38_way.l0 k x d s t (List.replicate i (-1)) (i : Int) n l) R
  | 0, i, h => by
    obtain rfl : i = n := by omega
    exact Ev_round (fun k => by rw [mapmakerref38_way.l0]) (Ev_neg (by omega) (Ev_pos hs.1 (Ev_pos (by rw [List.length_replicate]; exact hs.2) H)))
  | j + 1, i, h => by
    refine Ev_round (fun k => by rw [mapmakerref38_way.l0]) (Ev_pos (by omega) (Ev_pos (by rw [List.length_replicate]; omega) ?_))
    rw [← List.replicate_succ', wr1 (by omega)]
    exact way_l0 hn hs t H j (i + 1) (by omega)
theorem st_start (hs : 0 ≤ s ∧ s < n) (hd : Sp n l x s d) (hG : Gr n l x) : St n l x d s 0 0 ((List.replicate n (-1)).set s.toNat 0) := by
  obtain ⟨s0, s1⟩ := hs
  have rdz : ∀ j : Int, 0 ≤ j → j < n → rd ((List.replicate n (-1)).set s.toNat 0) j = if j = s then 0 else -1 := fun j hj hj1 => by
    rw [rd_set' _ s j _ s0 (by simpa using s1) hj, rd_rep n _ j hj hj1]
  refine ⟨by simp, by rw [rdz s s0 s1, if_pos rfl], fun v v0 v1 => ?_, fun v v0 v1 => ?_, fun v v0 v1 vs vz => ?_, fun a ha h0 h1 => ?_⟩
  · rw [rdz v v0 v1]
    split <;> omega
  · rw [rdz v v0 v1]
    split <;> omega
  · rw [rdz v v0 v1, if_neg vs] at vz
    omega
  · have := ha.1
    omega
theorem way_ev (hG : Gr n l x) (hs : 0 ≤ s ∧ s < n) (hd : Sp n l x s d) {S : DS} (hI : Inv n l x s (fun _ => False) S) (hS : S.d = d) (t : Int) (t0 : 0 ≤ t) (t1 : t < n) (tl : rd d t < 1152921504606846976) : ∃ R, Ev (fun k => mapmakerref38_way.f k n l x d s t) R := by
  obtain ⟨p, hp⟩ := (hI.tr t t0 t1 (by rw [hS]; exact tl)).ch
  have key : ∀ z, St n l x d s n 0 z → ∃ R, Ev (fun k => mapmakerref38_way.l3 k x d s t z [] n l) R := fun z hz => by
    have h0 := st_all hG hz hs hd hI hS hp t0 t1 tl
    have h1 := st_low hG hz hs t t0 t1
    have := hG.nfew
    exact way_l3 hG hs hd hz (rd z t).toNat t [] t0 t1 (by omega) (by simp only [List.length_nil]; omega)
  obtain ⟨z, hz, hgo⟩ : ∃ z, St n l x d s n 0 z ∧ ∀ R, Ev (fun k => mapmakerref38_way.l3 k x d s t z [] n l) R → Ev (fun k => mapmakerref38_way.f k n l x d s t) R := by
    obtain ⟨z, hz, hgo⟩ := way_l1 hG hs hd t n 0 _ (by omega) (st_start hs hd hG)
    refine ⟨z, hz, fun R hR => ?_⟩
    exact way_l0 hG.nfew hs t (hgo R hR) n 0 (by omega)
  obtain ⟨R, hR⟩ := key z hz
  exact ⟨R, hgo R hR⟩
end
end Go.Proofs.Ytofhgmdehglhgaa.PAll
