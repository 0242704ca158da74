/- What the specification's Find, Add, Get and Same return, told by tfind; the example. -/
import Derived.Test.YtpjgognanfgpiaaBas
import Derived.Test.YtpjgognanfgpiaaNL
import Derived.Laws.Strings
import Derived.Test.YtpjgognanfgpiaaPAllx5
import Derived.Test.YtpjgognanfgpiaaPAllx4
import Derived.Test.YtpjgognanfgpiaaPAllx7
import Derived.Test.YtpjgognanfgpiaaPAllx2
namespace Go.Proofs.Ytpjgognanfgpiaa.Nd
open Go.RowKit Go.Proofs.Ytpjgognanfgpiaa.PAll Go.Proofs.YtpjgognanfgpiaaW.PrintWords Go.Proofs.YtpjgognanfgpiaaW.PrintLast Go.Proofs.YtpjgognanfgpiaaW.PrintMore Go.Proofs.Ytpjgognanfgpiaa.Bas
set_option linter.unusedVariables false

theorem toList_iff {a b : ByteArray} : a.toList = b.toList ↔ a = b := by
  constructor
  · intro h
    rw [ByteArray.toList_eq, ByteArray.toList_eq] at h
    exact bytes_ext h
  · rintro rfl
    rfl
def fres : Option Int → Int × Bool
  | some i => (i, true)
  | none => (0, false)
def ares (m : List ByteArray) (s : ByteArray) : List ByteArray := match tfind m s 0 with | some _ => m | none => m ++ [s]
def anum (m : List ByteArray) (s : ByteArray) : Int := match tfind m s 0 with | some i => i | none => (m.length : Int)
theorem tadd {m : List ByteArray} {s : ByteArray} (hs : s.size ≤ 1000000) (hm : m.length < 1000000) : names_Table_Add.f m s = some (anum m s, ares m s) := by
  unfold names_Table_Add.f anum ares
  rw [if_pos hs, if_pos hm]
  cases tfind m s 0 <;> rfl
theorem tfindf {m : List ByteArray} {s : ByteArray} (hs : s.size ≤ 1000000) : names_Table_Find.f m s = some (fres (tfind m s 0)) := by
  unfold names_Table_Find.f fres
  rw [if_pos hs]
  cases tfind m s 0 <;> rfl
theorem ares_length (m : List ByteArray) (s : ByteArray) : (ares m s).length ≤ m.length + 1 := by
  unfold ares
  cases tfind m s 0 with
  | some i => exact Nat.le_succ _
  | none => simp
theorem lives_ev : Ev (fun k => mapmakerlaw03_lives.f k) true := Ev.of mapmakerlaw03_lives.mono (k := 12) (by decide +kernel)
theorem fin_ev : Ev (fun k => (mapmakerlaw03_lives.f k).bind fun t => some t) true := Ev.bind lives_ev (Ev.now _)
theorem find_l0 {m : List ByteArray} {s : ByteArray} (hm : (m.length : Int) ≤ 1000000) (n : Nat) : ∀ (i : Int), 0 ≤ i → i ≤ (m.length : Int) → (m.length : Int) - i = n →
    Ev (fun k => mapmakerref03_Find.l0 k m s i) (fres (tfind (m.drop i.toNat) s i)) := by
  induction n with
  | zero =>
    intro i h0 h1 hn
    refine Ev_round (fun k => by rw [mapmakerref03_Find.l0]) ?_
    refine Ev_neg (by omega) ?_
    rw [drop_end (by omega)]
    exact Ev.now _
  | succ n ih =>
    intro i h0 h1 hn
    refine Ev_round (fun k => by rw [mapmakerref03_Find.l0]) ?_
    rw [wrap_in (x := i + 1) ⟨by omega, by omega⟩]
    refine Ev_pos (by omega) (Ev_pos h0 ?_)
    rw [drop_at ByteArray.empty h0 (by omega), tfind]
    by_cases c : m.getD i.toNat ByteArray.empty = s
    · rw [if_pos c]
      exact Ev_pos (toList_iff.2 c) (Ev.now _)
    · rw [if_neg c]
      refine Ev_neg (fun h => c (toList_iff.1 h)) ?_
      exact ih (i + 1) (by omega) (by omega) (by omega)
theorem find_ev {m : List ByteArray} {s : ByteArray} (hm : (m.length : Int) ≤ 1000000) : Ev (fun k => mapmakerref03_Find.f k m s) (fres (tfind m s 0)) := by
  refine Ev.congr (fun k => by rw [mapmakerref03_Find.f]) ?_
  exact find_l0 hm m.length 0 (by omega) (by omega) (by omega)
theorem add_ev {m : List ByteArray} {s : ByteArray} (hm : (m.length : Int) ≤ 1000000) : Ev (fun k => mapmakerref03_Add.f k m s) (ares m s, anum m s) := by
  refine Ev.congr (fun k => by rw [mapmakerref03_Add.f]) ?_
  refine Ev.bind (find_ev hm) ?_
  unfold ares anum fres
  cases tfind m s 0 with
  | some i => exact Ev_pos rfl (Ev.now _)
  | none =>
    refine Ev_neg (by decide) (Ev_pos (by rw [List.length_nil]; omega) ?_)
    rw [List.nil_append, Option.bind_some]
    exact Ev_pos (by omega) (Ev.now _)
theorem get_eq (m : List ByteArray) (i : Int) : mapmakerref03_Get.f m i = names_Table_Get.f m i := by
  unfold mapmakerref03_Get.f names_Table_Get.f
  by_cases h : i < 0
  · rw [if_pos h, if_pos h]
  · rw [if_neg h, if_neg h]
    by_cases h2 : i ≥ (m.length : Int)
    · rw [if_pos h2, if_pos h2]
    · rw [if_neg h2, if_neg h2, if_pos (by omega), if_pos (by omega)]
theorem same_l0 {m : List ByteArray} (hm : (m.length : Int) ≤ 1000000) (n : Nat) : ∀ (i : Int), 0 ≤ i → i ≤ (m.length : Int) → (m.length : Int) - i = n → Ev (fun k => mapmakerref03_Same.l0 k m m i) true := by
  induction n with
  | zero =>
    intro i h0 h1 hn
    refine Ev_round (fun k => by rw [mapmakerref03_Same.l0]) ?_
    exact Ev_neg (by omega) (Ev.now _)
  | succ n ih =>
    intro i h0 h1 hn
    refine Ev_round (fun k => by rw [mapmakerref03_Same.l0]) ?_
    rw [wrap_in (x := i + 1) ⟨by omega, by omega⟩]
    refine Ev_pos (by omega) (Ev_pos h0 (Ev_pos (by omega) (Ev_pos rfl ?_)))
    exact ih (i + 1) (by omega) (by omega) (by omega)
theorem same_ev {m : List ByteArray} (hm : (m.length : Int) ≤ 1000000) : Ev (fun k => mapmakerref03_Same.f k m m) true := by
  refine Ev.congr (fun k => by rw [mapmakerref03_Same.f]) ?_
  exact Ev_pos rfl (same_l0 hm m.length 0 (by omega) (by omega) (by omega))
end Go.Proofs.Ytpjgognanfgpiaa.Nd
