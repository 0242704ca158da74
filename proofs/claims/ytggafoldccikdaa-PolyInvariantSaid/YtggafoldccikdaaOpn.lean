/- Whatever can be read as data reads as a value of its kind: whole numbers, bools, strings, slices, structs and arrays of these, to any depth. -/
import Derived.Test.YtggafoldccikdaaWWords
import Derived.ChangeArms
import Derived.ChangeOld
import Derived.OpenShut
import Derived.WideShapes
import Derived.DataElems
import Derived.DataReads
namespace Go.Proofs.Ytggafoldccikdaa.Opn
open Go.Proofs.YtggafoldccikdaaW.PrintWords
set_option linter.unusedVariables false

/-- Type t reads as kind d; g: what is known of every such value. -/
def Opens {α : Type} (P : Program) (t : TypeId) (d : Kd α) (g : α → Prop) : Prop :=
  ∀ {H : Type} (enc : TypeId × Value → H) (w : World) (base : Nat) (spare : Nat → Bool) (held : Bool) (fuel : Nat) (cs : List Value) (x : DataW H × List MemPlace),
    DataW.trod enc P w base spare held fuel t cs = some x → ∃ a, d.K w a cs ∧ g a

theorem opens_int {P : Program} {t : TypeId} {k : IntKind} (h : P.underlying t = some (.int k)) : Opens P t (Kd.int k) (fun x => (Lit.int k x).wf = true) := by
  intro H enc w base spare held fuel cs x hx
  obtain ⟨n, rfl, _, hw⟩ := DataW.trod_int h hx
  exact ⟨n, rfl, hw⟩

theorem opens_bool {P : Program} {t : TypeId} (h : P.underlying t = some .bool) : Opens P t Kd.bool (fun _ => True) := by
  intro H enc w base spare held fuel cs x hx
  obtain ⟨b, rfl, _⟩ := DataW.trod_bool h hx
  exact ⟨b, rfl, trivial⟩

theorem opens_string {P : Program} {t : TypeId} (h : P.underlying t = some .string) : Opens P t Kd.string (fun s => s.size ≤ maxLen) := by
  intro H enc w base spare held fuel cs x hx
  obtain ⟨s, rfl, _, hs⟩ := DataW.trod_string h hx
  exact ⟨s, rfl, hs⟩

theorem cells_get {w : World} {base n : Nat} {a : Addr} {cs : List Value} (h : w.cells? base a n = some cs) : cs.length = n ∧ ∀ i u, cs[i]? = some u → w.cell? (a.add i) = some u := by
  unfold World.cells? at h
  split at h
  · have hl : cs.length = n := by simpa using mapM_some_length h
    refine ⟨hl, fun i u hu => ?_⟩
    have hi : i < n := by
      have := (List.getElem?_eq_some_iff.1 hu).1
      omega
    exact (mapM_some_get h i i (by simp [hi])).trans hu
  · cases h

theorem opens_slice {α : Type} {P : Program} {t e : TypeId} {d : Kd α} {g : α → Prop} (h : P.underlying t = some (.slice e)) (hc : P.cellsOf e = d.sz) (ho : Opens P e d g) :
    Opens P t (Kd.slice e d) (fun xs => xs.length ≤ maxLen ∧ ∀ x ∈ xs, g x) := by
  intro H enc w base spare held fuel cs x hx
  rcases DataW.trod_slice h hx with ⟨rfl, _⟩ | ⟨a, len, cap, elems, rest, n, _, rfl, _, _, hl, hm, hel, hget, _, _⟩
  · exact ⟨[], ⟨none, 0, rfl, Nat.le_refl _, rfl, by simp, fun hp => absurd hp (by simp)⟩, by simp, fun x hx => by cases hx⟩
  · have key : ∀ i, i < len → ∃ y c, w.cells? base (a.add (i * P.cellsOf e)) (P.cellsOf e) = some c ∧ d.K w y c ∧ g y := by
      intro i hi
      have h1 := hget i hi
      rw [List.getElem?_eq_getElem (by omega)] at h1
      obtain ⟨c, hc1, hc2⟩ := Option.bind_eq_some_iff.1 h1
      obtain ⟨y, hy, hg⟩ := ho enc w base spare held n c _ hc2
      exact ⟨y, c, hc1, hy, hg⟩
    have all : ∃ ys : List α, ys.length = len ∧ ∀ i y, ys[i]? = some y → ∃ c, w.cells? base (a.add (i * P.cellsOf e)) (P.cellsOf e) = some c ∧ d.K w y c ∧ g y := by
      clear hget hel hx
      have : ∀ m, m ≤ len → ∃ ys : List α, ys.length = m ∧ ∀ i y, ys[i]? = some y → ∃ c, w.cells? base (a.add (i * P.cellsOf e)) (P.cellsOf e) = some c ∧ d.K w y c ∧ g y := by
        intro m
        induction m with
        | zero => intro _; exact ⟨[], rfl, by simp⟩
        | succ m ih =>
          intro hm
          obtain ⟨ys, hy, hall⟩ := ih (by omega)
          obtain ⟨y, c, h1, h2, h3⟩ := key m (by omega)
          refine ⟨ys ++ [y], by simp [hy], fun i z hz => ?_⟩
          by_cases hi : i < ys.length
          · rw [List.getElem?_append_left hi] at hz
            exact hall i z hz
          · rw [List.getElem?_append_right (by omega)] at hz
            have : i - ys.length = 0 := by
              have := (List.getElem?_eq_some_iff.1 hz).1
              simp at this
              omega
            rw [this] at hz
            obtain rfl : y = z := by simpa using hz
            obtain rfl : i = m := by omega
            exact ⟨c, h1, h2, h3⟩
      exact this len (Nat.le_refl _)
    obtain ⟨ys, hy, hall⟩ := all
    subst hy
    refine ⟨ys, ⟨some a, cap, rfl, hl, rfl, Nat.le_trans hl hm, fun _ => ⟨a, rfl, fun j p hj => ?_⟩⟩, Nat.le_trans hl hm, fun y hy => ?_⟩
    · obtain ⟨c, h1, h2, _⟩ := hall j p hj
      obtain ⟨hcl, hcg⟩ := cells_get h1
      refine ⟨c, by rw [hcl, hc], h2, fun i u hu => ?_⟩
      have := hcg i u hu
      rw [Addr.add_add, hc] at this
      exact this
    · obtain ⟨i, hi, rfl⟩ := List.getElem_of_mem hy
      obtain ⟨_, _, _, h3⟩ := hall i _ (List.getElem?_eq_getElem hi)
      exact h3

/-- Fields, one behind the other, from cell o on. -/
def OpensFs {α : Type} (P : Program) (fl : List (TypeId × Nat)) (o : Nat) (d : Kd α) (g : α → Prop) : Prop :=
  ∀ {H : Type} (enc : TypeId × Value → H) (w : World) (base : Nat) (spare : Nat → Bool) (held : Bool) (fuel : Nat) (cs : List Value),
    o + d.sz ≤ cs.length →
    (∀ (i : Nat) (f : TypeId × Nat), fl[i]? = some f → ∃ x, DataW.trod enc P w base spare held fuel f.1 ((cs.drop f.2).take (P.cellsOf f.1)) = some x) → ∃ a, d.K w a ((cs.drop o).take d.sz) ∧ g a

theorem opens_one {α : Type} {P : Program} {t : TypeId} {o : Nat} {d : Kd α} {g : α → Prop} (hc : P.cellsOf t = d.sz) (h : Opens P t d g) : OpensFs P [(t, o)] o d g := by
  intro H enc w base spare held fuel cs _ hx
  obtain ⟨x, hx⟩ := hx 0 _ rfl
  obtain ⟨a, h1, h2⟩ := h enc w base spare held fuel _ _ hx
  rw [hc] at h1
  exact ⟨a, h1, h2⟩

theorem opens_cons {α β : Type} {P : Program} {t : TypeId} {o : Nat} {d : Kd α} {g : α → Prop} {fl : List (TypeId × Nat)} {d2 : Kd β} {g2 : β → Prop} (hc : P.cellsOf t = d.sz) (h : Opens P t d g) (h2 : OpensFs P fl (o + d.sz) d2 g2) :
    OpensFs P ((t, o) :: fl) o (Kd.pair d d2) (fun x => g x.1 ∧ g2 x.2) := by
  intro H enc w base spare held fuel cs hl hx
  have hs : (Kd.pair d d2).sz = d.sz + d2.sz := rfl
  rw [hs] at hl
  obtain ⟨x, hx0⟩ := hx 0 _ rfl
  obtain ⟨a, h3, h4⟩ := h enc w base spare held fuel _ _ hx0
  obtain ⟨b, h5, h6⟩ := h2 enc w base spare held fuel cs (by omega) (fun i f hf => hx (i + 1) f (by simpa using hf))
  rw [hc] at h3
  refine ⟨(a, b), ⟨_, _, ?_, h3, h5⟩, h4, h6⟩
  rw [hs, List.take_add, List.drop_drop]

theorem opens_struct {α β : Type} {P : Program} {t : TypeId} {fs : Array Field} {d : Kd α} {g : α → Prop} (h : P.underlying t = some (.struct fs)) (hc : P.cellsOf t = d.sz) {fl : List (TypeId × Nat)} (hfl : fs.toList.map (fun f => (f.type, f.offset)) = fl)
    (ho : OpensFs P fl 0 d g) (proj : β → α) (mk : α → β) (hm : ∀ x, proj (mk x) = x) : Opens P t (Kd.iso d proj) (fun x => g (proj x)) := by
  intro H enc w base spare held fuel cs x hx
  obtain ⟨xs, n, rfl, _, hl, hlen, hall⟩ := DataW.trod_struct h hx
  obtain ⟨a, h1, h2⟩ := ho enc w base spare held n cs (by omega) (fun i f hf => by
    subst hfl
    rw [List.getElem?_map] at hf
    obtain ⟨f0, hf0, rfl⟩ := Option.map_eq_some_iff.1 hf
    have hi : i < fs.size := by
      have := (List.getElem?_eq_some_iff.1 hf0).1
      simpa using this
    have := hall i f0 (by simpa using hf0)
    rw [this]
    exact ⟨xs[i]'(by omega), List.getElem?_eq_getElem (by omega)⟩)
  refine ⟨mk a, ?_, by show g (proj (mk a)); rw [hm]; exact h2⟩
  show d.K w (proj (mk a)) cs
  rw [hm]
  have : (cs.drop 0).take d.sz = cs := by simp [List.take_of_length_le, hl, hc]
  rwa [this] at h1

theorem opens_weaken {α : Type} {P : Program} {t : TypeId} {d : Kd α} {g g' : α → Prop} (h : Opens P t d g) (hg : ∀ x, g x → g' x) : Opens P t d g' := by
  intro H enc w base spare held fuel cs x hx
  obtain ⟨a, h1, h2⟩ := h enc w base spare held fuel cs x hx
  exact ⟨a, h1, hg a h2⟩

theorem use {α : Type} {P : Program} {t : TypeId} {d : Kd α} {g : α → Prop} (h : Opens P t d g) {H : Type} {enc : TypeId × Value → H} {w : World} {base : Nat} {spare : Nat → Bool} {held : Bool} {v : Value} {x : DataW H} {ps : List MemPlace}
    (ht : DataW.Trod enc P w base spare held t v x ps) : ∃ a, d.K w a v.cells.toList ∧ g a := by
  obtain ⟨fuel, hf⟩ := ht
  exact h enc w base spare held fuel _ _ hf

theorem lt_of {H : Type} {enc : TypeId × Value → H} {P : Program} {w : World} {base : Nat} {spare : Nat → Bool} {held : Bool} {t : TypeId} {v : Value} {x : DataW H} {ps : List MemPlace}
    (h : DataW.Trod enc P w base spare held t v x ps) : ∀ y ∈ ps, y.block < w.heap.size := by
  obtain ⟨m, hm⟩ := h
  exact DataW.trod_lt m _ _ _ hm

theorem agg_eq {cs : Array Value} {l : List Value} (h : (Value.agg cs).cells.toList = l) : cs = l.toArray := by
  cases cs
  simp [Value.cells] at h
  simp [h]

end Go.Proofs.Ytggafoldccikdaa.Opn
