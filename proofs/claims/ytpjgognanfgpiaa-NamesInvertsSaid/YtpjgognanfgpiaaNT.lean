/- A table of strings behind a pointer (package names): what it holds, what its methods return and leave. -/
import Derived.Test.YtpjgognanfgpiaaPAllx4
import Derived.Maps.OwnSet
import Derived.StringKeys
namespace Go.Proofs.Ytpjgognanfgpiaa.PAll
open Go.RowKit Go.Proofs.YtpjgognanfgpiaaW.PrintWords Go.Proofs.YtpjgognanfgpiaaW.PrintLast Go.Proofs.YtpjgognanfgpiaaW.PrintMore
attribute [local go_sem] max2_int min2_int max_two min_two max_three min_three max_four min_four   -- for this text's walks alone
set_option linter.unusedVariables false
set_option linter.unusedSimpArgs false
attribute [local irreducible] Calls

/-- The number of a string in a list, counted from i. -/
def tfind : List ByteArray → ByteArray → Int → Option Int
  | [], _, _ => none
  | x :: r, s, i => if x = s then some i else tfind r s (i + 1)
def names_New.f : Option (List ByteArray) := some []
def names_Table_Add.f (l0 : List ByteArray) (a1 : ByteArray) : Option (Int × List ByteArray) :=
  if a1.size ≤ 1000000 then (if l0.length < 1000000 then some (match tfind l0 a1 0 with | some i => (i, l0) | none => ((l0.length : Int), l0 ++ [a1])) else none) else none
def names_Table_Find.f (l0 : List ByteArray) (a1 : ByteArray) : Option (Int × Bool) := if a1.size ≤ 1000000 then some (match tfind l0 a1 0 with | some i => (i, true) | none => (0, false)) else none
def names_Table_Get.f (l0 : List ByteArray) (a1 : Int) : Option (ByteArray × Bool) := some (if a1 < 0 then (⟨#[]⟩, false) else if a1 ≥ (l0.length : Int) then (⟨#[]⟩, false) else (rdOf ByteArray.empty l0 a1, true))
def names_Table_Len.f (l0 : List ByteArray) : Option Int := some (l0.length : Int)
def names_Table_All.f (l0 : List ByteArray) : Option (List ByteArray) := if l0.length < 1000000 then some l0 else none

/-- Block b is a map that holds each string's number. -/
def MapOf (w : World) (b : Nat) (m : List ByteArray) : Prop :=
  ∃ (n : Nat) (D : DataW Unit), w.ownsMap Try.prog 9 (plainElem Try.prog 3) b n D ∧ n ≤ m.length ∧
    ∀ s : ByteArray, s.size ≤ maxLen → (∀ i, tfind m s 0 = some i → Maps.has D (.string s.data.toList) = true ∧ D.atKey (.string s.data.toList) (.lit (.int .i64 0)) = .lit (.int .i64 i)) ∧
      (tfind m s 0 = none → Maps.has D (.string s.data.toList) = false)
/-- v points to a table that holds the strings m; its blocks are from base on, and in ok. -/
def TbR (w : World) (base : Nat) (ok : Nat → Prop) (v : Value) (m : List ByteArray) : Prop :=
  ∃ (p mb : Nat) (sl : Value), v = .pointer (some ⟨p, 0, none⟩) ∧ base ≤ p ∧ ok p ∧ base ≤ mb ∧ ok mb ∧ w.heap[p]? = some (.cells #[sl, .map (some mb)] 52 (0, 0)) ∧ MapOf w mb m ∧ Kd.R Kd.string 9 w base ok sl m
section
variable {w w1 W : World} {base base' : Nat} {ok ok' : Nat → Prop} {v : Value} {m : List ByteArray}
theorem MapOf.lt {b : Nat} (h : MapOf w b m) : b < w.heap.size := by
  obtain ⟨n, D, ho, _⟩ := h
  exact ho.lt
theorem MapOf.move {b : Nat} (h : MapOf w b m) (hb : w1.heap[b]? = w.heap[b]?) : MapOf w1 b m := by
  obtain ⟨n, D, ⟨es, clock, he, F⟩, r⟩ := h
  exact ⟨n, D, ⟨es, clock, hb.trans he, F⟩, r⟩
theorem TbR_ptr (h : TbR w base ok v m) : ∃ p, v = .pointer (some ⟨p, 0, none⟩) := by
  obtain ⟨p, mb, sl, he, _⟩ := h
  exact ⟨p, he⟩
theorem TbR_mono (h : TbR w base ok v m) (hok : ∀ k, ok k → ok' k) : TbR w base ok' v m := by
  obtain ⟨p, mb, sl, he, h1, h2, h3, h4, h5, h6, h7⟩ := h
  exact ⟨p, mb, sl, he, h1, hok _ h2, h3, hok _ h4, h5, h6, Kd.R_mono h7 hok⟩
theorem TbR_lower (h : TbR w base ok v m) (hb : base' ≤ base) : TbR w base' ok v m := by
  obtain ⟨p, mb, sl, he, h1, h2, h3, h4, h5, h6, h7⟩ := h
  exact ⟨p, mb, sl, he, Nat.le_trans hb h1, h2, Nat.le_trans hb h3, h4, h5, h6, Kd.R_lower h7 hb⟩
theorem TbR_bound (h : TbR w base ok v m) : TbR w base (fun k => ok k ∧ base ≤ k ∧ k < w.heap.size) v m := by
  obtain ⟨p, mb, sl, he, h1, h2, h3, h4, h5, h6, h7⟩ := h
  exact ⟨p, mb, sl, he, h1, ⟨h2, h1, blk_lt h5⟩, h3, ⟨h4, h3, h6.lt⟩, h5, h6, Kd.R_mono (Kd.R_bound h7) (fun k hk => ⟨hk.1, hk.2.1, hk.2.2.1⟩)⟩
theorem TbR_step (h : TbR w base ok v m) (hm : ∀ k, ok k → k < w.heap.size → w1.heap[k]? = w.heap[k]?) : TbR w1 base ok v m := by
  obtain ⟨p, mb, sl, he, h1, h2, h3, h4, h5, h6, h7⟩ := h
  exact ⟨p, mb, sl, he, h1, h2, h3, h4, (hm p h2 (blk_lt h5)).trans h5, h6.move (hm mb h4 h6.lt), Kd.R_step h7 hm⟩
theorem TbR_below (h : TbR w base ok v m) (hb : Below w.heap.size w w1) : TbR w1 base ok v m := TbR_step h (fun k _ hk => hb.block k hk)
theorem TbR_alloc (h : TbR w base ok v m) (o : Obj) : TbR (w.alloc o) base ok v m := TbR_below h (below_alloc (Below.refl _ _) o)
theorem TbR_drew (h : TbR w base ok v m) : TbR w.drew base ok v m := TbR_below h (below_drew (Below.refl _ _))
theorem TbR_drewN (h : TbR w base ok v m) (n : Nat) : TbR (w.drewN n) base ok v m := TbR_below h (pw_below_drewN (Below.refl _ _) n)
theorem TbR_keptB {S : Nat → Prop} (h : TbR w base ok v m) (hk : Kept w w1 S) (hne : ∀ k, ok k → ¬ S k) : TbR w1 base (fun k => ok k ∧ (¬ S k ∧ k < w.heap.size)) v m :=
  TbR_step (TbR_mono (TbR_bound h) (fun k hk => ⟨hk.1, hne k hk.1, hk.2.2⟩)) (fun k hk' hl => hk.2 k hl hk'.2.1)
end

theorem law9 : Maps.Keyed Try.prog 9 := Maps.string_keyed Try.underlying9
theorem zero3 (w : World) : (zeroValue 3).run Try.prog w = .ok (.int .i64 0) w := by kernel_rfl
theorem key9 {s : ByteArray} (h : s.size ≤ 1000000) : keyOf Try.prog 9 (.string s) = some (.string s.data.toList) := WideMaps.keyOf_string_mk Try.underlying9 (by unfold maxLen; omega)
theorem blk_cell {w : World} {g j : Nat} {cs : Array Value} {t : TypeId} {v : Value} (h : w.heap[g]? = some (.cells cs t (0, 0))) (hv : cs[j]? = some v) : w.cell? ⟨g, j, none⟩ = some v := by
  simp [World.cell?, h, hv]
theorem blk_free {w : World} {g j : Nat} {cs : Array Value} {t : TypeId} (h : w.heap[g]? = some (.cells cs t (0, 0))) : w.frozen? ⟨g, j, none⟩ = false := by
  unfold World.frozen?
  rw [show w.heap[(⟨g, j, none⟩ : Addr).block]? = some (.cells cs t (0, 0)) from h]
  simp
theorem tfind_ge : ∀ {l : List ByteArray} {s : ByteArray} {i j : Int}, tfind l s i = some j → i ≤ j ∧ j < i + l.length
  | [], _, _, _, h => by simp [tfind] at h
  | x :: r, s, i, j, h => by
    rw [tfind] at h
    rw [List.length_cons]
    split at h
    · injection h with h
      omega
    · have := tfind_ge h
      omega
theorem tfind_append {s x : ByteArray} : ∀ {l : List ByteArray} {i : Int}, tfind (l ++ [x]) s i = (match tfind l s i with | some j => some j | none => if x = s then some (i + l.length) else none)
  | [], i => by simp [tfind]
  | y :: r, i => by
    rw [List.cons_append, tfind, tfind]
    split
    · rfl
    · rw [tfind_append, List.length_cons]
      have : i + 1 + (r.length : Int) = i + ((r.length + 1 : Nat) : Int) := by omega
      rw [this]
theorem bytes_ext {a b : ByteArray} (h : a.data.toList = b.data.toList) : a = b := by
  cases a
  cases b
  congr 1
  exact Array.toList_inj.1 h

theorem MapOf_put {w : World} {b n : Nat} {D : DataW Unit} {m : List ByteArray} {a : ByteArray} (ho : w.ownsMap Try.prog 9 (plainElem Try.prog 3) b (n + 1) (D.put (.string a.data.toList) (.lit (.int .i64 (m.length : Int))))) (hn : n ≤ m.length) (hI : Maps.IsMap D)
    (hD : ∀ s : ByteArray, s.size ≤ maxLen → (∀ i, tfind m s 0 = some i → Maps.has D (.string s.data.toList) = true ∧ D.atKey (.string s.data.toList) (.lit (.int .i64 0)) = .lit (.int .i64 i)) ∧ (tfind m s 0 = none → Maps.has D (.string s.data.toList) = false))
    (hsz : a.size ≤ 1000000) (hh : Maps.has D (.string a.data.toList) = false) (ht : tfind m a 0 = none) : MapOf w b (m ++ [a]) := by
  refine ⟨n + 1, _, ho, by rw [List.length_append, List.length_singleton]; omega, fun s hs => ?_⟩
  have hk : ∀ x : List UInt8, WideAt.IsKeyLit (.string x) := fun _ => trivial
  rw [tfind_append]
  by_cases e : s = a
  · subst e
    rw [ht]
    simp only [if_pos rfl, Int.zero_add]
    refine ⟨fun i hi => ?_, fun hi => by cases hi⟩
    obtain rfl := Option.some.inj hi
    exact ⟨Maps.has_put_same hI (hk _) _, Maps.atKey_put_same hI (hk _) _ _⟩
  · have hne : Lit.string s.data.toList ≠ Lit.string a.data.toList := fun h => e (bytes_ext (by injection h))
    rw [Maps.has_put_other hne, Maps.atKey_put_other hne]
    have hx : (if a = s then some ((0 : Int) + (m.length : Int)) else none) = none := if_neg (fun h => e h.symm)
    rw [hx]
    obtain ⟨g1, g2⟩ := hD s hs
    cases hf : tfind m s 0 with
    | some i => exact ⟨fun j hj => g1 j (by rw [hf]; exact hj), fun hj => by cases hj⟩
    | none => exact ⟨fun j hj => (by cases hj), fun _ => g2 hf⟩

set_option maxHeartbeats 8000000 in
set_option maxRecDepth 100000 in
theorem names_New.calls (r : List ByteArray) (w : World) (h : names_New.f = some r) :
    Calls Try.prog 7 #[] w fun e w' => ∃ v0_ : Value, e = .returned (v0_) ∧ TbR w' w.heap.size (fun _ => True) v0_ r ∧ Below w.heap.size w w' := by
  obtain rfl := Option.some.inj h
  have hmm := @run_makeMap Try.prog
  go_enter Try.func7, Try.ntmps7
  go_wp2
  go_ret
  have hs : (w.alloc (Obj.map #[] 0)).heap.size = w.heap.size + 1 := by simp
  have h1 := World.ownsMap_made w Try.prog 9 (plainElem (H := Unit) Try.prog 3)
  have hn := blk_new (w.alloc (Obj.map #[] 0)) (Obj.cells #[Value.slice none 0 0, Value.map (some w.heap.size)] 52 (0, 0))
  rw [hs] at hn
  refine ⟨_, rfl, ⟨w.heap.size + 1, w.heap.size, .slice none 0 0, rfl, by omega, trivial, Nat.le_refl _, trivial, hn, ⟨0, .map [], h1.alloc _, Nat.le_refl _, fun s _ => ⟨fun i hi => by simp [tfind] at hi, fun _ => rfl⟩⟩, Kd.R_nil _ _ _ _ _⟩, ?_⟩
  exact below_alloc (below_alloc (Below.refl _ _) _) _

set_option maxHeartbeats 8000000 in
set_option maxRecDepth 100000 in
theorem names_Table_Len.calls {ok : Nat → Prop} {base : Nat} {u : Value} (l0 : List ByteArray) (r : Int) (w : World) (ho : TbR w base ok u l0) (h : names_Table_Len.f l0 = some r) :
    Calls Try.prog 15 #[u] w fun e w' => e = .returned (.int .i64 r) ∧ Drawn0 w w' := by
  obtain rfl := Option.some.inj h
  obtain ⟨p, mb, sl, rfl, h1, h2, h3, h4, h5, h6, h7⟩ := ho
  obtain ⟨A, c, rfl⟩ := Kd.R_slice h7
  have hc0 := blk_cell (j := 0) h5 rfl
  go_enter Try.func15, Try.ntmps15
  go_wp2
  go_ret
  exact ⟨by first | rfl | (simp; done) | (simp [*]; done), by repeat (first | exact Drawn0.refl _ | apply Drawn0.step)⟩

set_option maxHeartbeats 8000000 in
set_option maxRecDepth 100000 in
theorem names_Table_Find.calls {ok : Nat → Prop} {base : Nat} {u : Value} (l0 : List ByteArray) (a1 : ByteArray) (r1 : Int) (r2 : Bool) (w : World) (ho : TbR w base ok u l0) (h : names_Table_Find.f l0 a1 = some (r1, r2)) :
    Calls Try.prog 11 #[u, .string a1] w fun e w' => e = .returned (.tuple #[.int .i64 r1, .bool r2]) ∧ Drawn0 w w' := by
  obtain ⟨p, mb, sl, rfl, h1, h2, h3, h4, h5, ⟨n, D, hown, hn, hD⟩, h7⟩ := ho
  have hc1 := blk_cell (j := 1) h5 rfl
  unfold names_Table_Find.f at h
  by_cases hsz : a1.size ≤ 1000000
  · rw [if_pos hsz] at h
    obtain ⟨hd1, hd2⟩ := hD a1 (by unfold maxLen; omega)
    have hd := And.intro hd1 hd2
    have hk := key9 hsz
    have main : ∀ b, Maps.has D (.string a1.data.toList) = b → (∀ c, D.atKey (.string a1.data.toList) (.lit (.int .i64 0)) = .lit (.int .i64 c) → c = r1) → b = r2 → Calls Try.prog 11 #[.pointer (some ⟨p, 0, none⟩), .string a1] w fun e w' => e = .returned (.tuple #[.int .i64 r1, .bool r2]) ∧ Drawn0 w w' := by
      rintro b hb hc rfl
      clear hd hd1 hd2 hD h
      go_enter Try.func11, Try.ntmps11
      go_wp2_with (first | (at_lookup; refine wpList_lookup_own_ok_int _ rfl _ _ 50 rfl 9 3 .i64 law9 Try.underlying50 Try.underlying3 (zero3 _) mb n D rfl hown _ _ rfl hk ?_; intro c hat hwc; obtain rfl := hc c hat; rw [hb]))
      go_ret2
      exact ⟨by first | rfl | (simp; done) | (simp [*]; done), by repeat (first | exact Drawn0.refl _ | apply Drawn0.step)⟩
    cases ht : tfind l0 a1 0 with
    | some i =>
      rw [ht] at h
      simp only [Option.some.injEq, Prod.mk.injEq] at h
      obtain ⟨rfl, rfl⟩ := h
      obtain ⟨e1, e2⟩ := hd1 i ht
      refine main true e1 (fun c hc => ?_) rfl
      rw [e2] at hc
      injection hc with hc
      injection hc with _ hc
      exact hc.symm
    | none =>
      rw [ht] at h
      simp only [Option.some.injEq, Prod.mk.injEq] at h
      obtain ⟨rfl, rfl⟩ := h
      refine main false (hd2 ht) (fun c hc => ?_) rfl
      rw [Maps.atKey_of_not_has (hd2 ht)] at hc
      injection hc with hc
      injection hc with _ hc
      exact hc.symm
  · rw [if_neg hsz] at h
    cases h

set_option maxHeartbeats 8000000 in
set_option maxRecDepth 100000 in
theorem names_Table_Get.calls {ok : Nat → Prop} {base : Nat} {u : Value} (l0 : List ByteArray) (a1 : Int) (r1 : ByteArray) (r2 : Bool) (w : World) (ho : TbR w base ok u l0) (h : names_Table_Get.f l0 a1 = some (r1, r2)) :
    Calls Try.prog 13 #[u, .int .i64 a1] w fun e w' => e = .returned (.tuple #[.string r1, .bool r2]) ∧ Drawn0 w w' := by
  obtain ⟨p, mb, sl, rfl, h1, h2, h3, h4, h5, h6, h7⟩ := ho
  obtain ⟨A, c, rfl⟩ := Kd.R_slice h7
  have hc0 := blk_cell (j := 0) h5 rfl
  have h := Option.some.inj h
  by_cases c1 : a1 < 0
  · rw [if_pos c1] at h
    simp only [Prod.mk.injEq] at h
    obtain ⟨rfl, rfl⟩ := h
    have c1b0 : decide (a1 < 0) = true := decide_eq_true c1
    go_enter Try.func13, Try.ntmps13
    go_wp2
    go_ret2
    exact ⟨by first | rfl | (simp; done) | (simp [*]; done), by repeat (first | exact Drawn0.refl _ | apply Drawn0.step)⟩
  · rw [if_neg c1] at h
    have c1b0 : decide (a1 < 0) = false := decide_eq_false c1
    by_cases c2 : a1 ≥ (l0.length : Int)
    · rw [if_pos c2] at h
      simp only [Prod.mk.injEq] at h
      obtain ⟨rfl, rfl⟩ := h
      have c2b0 : decide ((l0.length : Int) ≤ a1) = true := decide_eq_true c2
      go_enter Try.func13, Try.ntmps13
      go_wp2
      go_ret2
      exact ⟨by first | rfl | (simp; done) | (simp [*]; done), by repeat (first | exact Drawn0.refl _ | apply Drawn0.step)⟩
    · rw [if_neg c2] at h
      simp only [Prod.mk.injEq] at h
      obtain ⟨rfl, rfl⟩ := h
      have c2b0 : decide ((l0.length : Int) ≤ a1) = false := decide_eq_false c2
      have p1 : 0 ≤ a1 := by omega
      have q1 : a1 < (l0.length : Int) := by omega
      obtain ⟨ad, e, hx⟩ := Kd.at_string (Kd.R_reads' h7).2.2 a1 p1 q1
      cases e
      replace p1 := eq_true p1
      replace q1 := eq_true q1
      clear c1 c2
      go_enter Try.func13, Try.ntmps13
      go_wp2
      go_ret2
      exact ⟨by first | rfl | (simp; done) | (simp [*]; done), by repeat (first | exact Drawn0.refl _ | apply Drawn0.step)⟩

set_option maxHeartbeats 8000000 in
set_option maxRecDepth 100000 in
theorem names_Table_All.calls {ok : Nat → Prop} {base : Nat} {u : Value} (l0 : List ByteArray) (r : List ByteArray) (w : World) (ho : TbR w base ok u l0) (h : names_Table_All.f l0 = some r) :
    Calls Try.prog 17 #[u] w fun e w' => ∃ v0_ : Value, e = .returned (v0_) ∧ Kd.R Kd.string 9 w' w.heap.size (fun _ => True) v0_ r ∧ Below w.heap.size w w' := by
  obtain ⟨p, mb, sl, rfl, h1, h2, h3, h4, h5, h6, h7⟩ := ho
  obtain ⟨A, c, rfl⟩ := Kd.R_slice h7
  have hc0 : Aside0 (w.cell? ⟨p, 0, none⟩ = some (.slice A l0.length c)) := ⟨blk_cell h5 rfl⟩
  unfold names_Table_All.f at h
  by_cases hl : l0.length < 1000000
  · rw [if_pos hl] at h
    obtain rfl := Option.some.inj h
    have LM := Aside0.mk hl
    have HR := Aside0.mk (Kd.R_reads' h7).2.2
    have HP := Aside0.mk h5
    have HB := Aside0.mk (Below.refl w.heap.size w)
    have hc := hc0.out
    clear hl h h6 h7 h5
    go_enter Try.func17, Try.ntmps17
    go_wp2_with (first
      | ((with_reducible refine gate_dst (N := 11) rfl ?_); refine Kd.R_make Kd.string (w0 := w) w.heap.size 9 rfl (N := 11) rfl 26 (.tmp 10) (.tmp 10) rfl (l0.length : Int) rfl rfl Try.underlying26 (.string ⟨#[]⟩) 16 info9 rfl (by decide) (by omega) (⟨#[]⟩ : ByteArray) (ok := fun _ => True) (okp := fun _ => False) rfl (fun _ h => h.elim) trivial (by omega) (by have := LM.out; omega) HB.out (Nat.le_refl _) ?_; intro v3 w3 ho3 hb3 hg3 hat3; have n1_ := Aside0.mk ho3; have n2_ := Aside0.mk hb3; have n3_ := Aside0.mk (Kd.C_below HR.out hb3); have n4_ := Aside0.mk (blk_below HP.out hb3); clear HR HB HP hc hc0; have HO := n1_; have HB := n2_; have HR := n3_; have HP := n4_; have hc : w3.cell? ⟨p, 0, none⟩ = some (.slice A l0.length c) := blk_cell HP.out rfl; clear n1_ n2_ n3_ n4_ ho3 hb3 hg3 hat3)
      | ((with_reducible refine gate_builtin (b := .copy) (xs := #[.tmp 12, .tmp 16]) rfl ?_); refine Kd.R_copy (enc := Value.string) (h1 := fun _ => rfl) (⟨#[]⟩ : ByteArray) (w0 := w) w.heap.size rfl (.tmp 12) (.tmp 16) 26 26 9 rfl Try.underlying26 (by kernel_rfl) v3 (List.replicate (l0.length : Int).toNat (⟨#[]⟩ : ByteArray)) l0 A l0.length c (fun _ => True) rfl rfl HO.out HR.out HB.out HB.out.size ?_; intro w4 ho4 hb4 hg4; rw [show l0.take (min l0.length (List.replicate (l0.length : Int).toNat (⟨#[]⟩ : ByteArray)).length) ++ (List.replicate (l0.length : Int).toNat (⟨#[]⟩ : ByteArray)).drop (min l0.length (List.replicate (l0.length : Int).toNat (⟨#[]⟩ : ByteArray)).length) = l0 from (by simp)] at ho4; have n1_ := Aside0.mk ho4; have n2_ := Aside0.mk hb4; clear HO HB hc; have HO := n1_; have HB := n2_; clear n1_ n2_ ho4 hb4 hg4))
    go_ret
    exact ⟨_, rfl, HO.out, HB.out⟩
  · rw [if_neg hl] at h
    cases h

set_option maxHeartbeats 8000000 in
set_option maxRecDepth 100000 in
theorem names_Table_Add.calls (P0_ : Nat → Prop) (u9000_ : Value) (l0 : List ByteArray) (a1 : ByteArray) (r1 : Int) (r2 : List ByteArray) (w0 w : World) (hB : Below w0.heap.size w0 w) (ho0 : TbR w w0.heap.size P0_ u9000_ l0) (h : names_Table_Add.f l0 a1 = some (r1, r2)) :
    Calls Try.prog 10 #[u9000_, .string a1] w fun e w' => e = .returned (.int .i64 r1) ∧ TbR w' w0.heap.size (fun k_ => (P0_ k_ ∨ w.heap.size ≤ k_)) u9000_ r2 ∧ Below w0.heap.size w0 w' ∧ Kept w w' (fun k_ => P0_ k_) := by
  have hall := TbR_mono (ok' := fun k_ => (P0_ k_ ∨ w.heap.size ≤ k_)) ho0 (fun _ hk => .inl hk)
  obtain ⟨p, mb, sl, rfl, h1, h2, h3, h4, h5, ⟨n, D, hown, hn, hD⟩, h7⟩ := ho0
  have hc1 : w.cell? ⟨p, 1, none⟩ = some (.map (some mb)) := blk_cell h5 rfl
  unfold names_Table_Add.f at h
  by_cases hsz : a1.size ≤ 1000000
  · rw [if_pos hsz] at h
    by_cases hl : l0.length < 1000000
    · rw [if_pos hl] at h
      obtain ⟨hd1, hd2⟩ := hD a1 (by unfold maxLen; omega)
      have hk := key9 hsz
      cases ht : tfind l0 a1 0 with
      | some i =>
        rw [ht] at h
        simp only [Option.some.injEq, Prod.mk.injEq] at h
        obtain ⟨rfl, rfl⟩ := h
        obtain ⟨e1, e2⟩ := hd1 i ht
        go_enter Try.func10, Try.ntmps10
        go_wp2_with (first | (at_lookup; refine wpList_lookup_own_ok_int _ rfl _ _ 50 rfl 9 3 .i64 law9 Try.underlying50 Try.underlying3 (zero3 _) mb n D rfl hown _ _ rfl hk ?_; intro c hat hwc; rw [e2] at hat; injection hat with hat; injection hat with _ hat; subst hat; rw [e1]))
        go_ret
        exact ⟨rfl, hall, hB, Kept.refl _ _⟩
      | none =>
        rw [ht] at h
        simp only [Option.some.injEq, Prod.mk.injEq] at h
        obtain ⟨rfl, rfl⟩ := h
        have hhas := hd2 ht
        obtain ⟨A, c0, rfl⟩ := Kd.R_slice h7
        have hc0 : w.cell? ⟨p, 0, none⟩ = some (.slice A l0.length c0) := blk_cell h5 rfl
        obtain ⟨es, clock, hmb, _⟩ := id hown
        have hpm : p ≠ mb := by
          rintro rfl
          rw [h5] at hmb
          cases hmb
        have H7 := Aside0.mk (show Kd.R Kd.string 9 w w0.heap.size (fun k_ => P0_ k_ ∧ k_ ≠ p ∧ k_ ≠ mb) (.slice A l0.length c0) l0 from by
          refine Kd.R_mono (Kd.R_bound h7) (fun k hk => ⟨hk.1, ?_, ?_⟩)
          · rintro rfl
            obtain ⟨_, _, _, q, hq, cells, hc⟩ := hk
            rw [h5] at hc
            injection hc with hc
            injection hc with _ hc
            have hq9 : q = 9 := by simpa [Kd.string, Kd.scalar] using hq
            rw [hq9] at hc
            exact absurd hc (by decide)
          · rintro rfl
            obtain ⟨_, _, _, q, hq, cells, hc⟩ := hk
            rw [hmb] at hc
            cases hc)
        have H5 := Aside0.mk h5
        have HN := Aside0.mk hn
        have HL := Aside0.mk hl
        have HD := Aside0.mk hD
        have HB := Aside0.mk hB
        have HK := Aside0.mk (Kept.refl w (fun k_ => P0_ k_))
        have hpl := blk_lt h5
        have hml := hown.lt
        have HT := Aside0.mk hown.isMap
        clear hd1 hd2 hall h5 h7 hn hl hD hB hmb
        go_enter Try.func10, Try.ntmps10
        go_wp2_with (first
          | (at_lookup; refine wpList_lookup_own_ok_int _ rfl _ _ 50 rfl 9 3 .i64 law9 Try.underlying50 Try.underlying3 (zero3 _) mb n D rfl hown _ _ rfl hk ?_; intro c hat hwc; rw [hhas])
          | (at_mapUpdate; refine wpList_mapUpdate_own _ rfl _ _ _ 50 rfl 9 3 law9 Try.underlying50 _ mb n D rfl hown (by have := HN.out; have := HL.out; unfold maxLen; omega) _ _ _ rfl rfl hk _ [] (plainElem_int Try.underlying3 (WalkArith.wf_i64 (by have := HL.out; omega))) ?_; intro w1 hown1 hg1; have n1_ := Aside0.mk (blk_grown H5.out hg1 (by simpa using hpm)); have n2_ := Aside0.mk (Kd.R_grown H7.out hg1 (fun k hk e => hk.2.2 (Option.some.inj e))); have n3_ := Aside0.mk (MapOf_put hown1 HN.out HT.out HD.out hsz hhas ht); have n4_ := Aside0.mk (HB.out.grown hg1 HB.out.size (fun k e => by cases e; exact h3)); have n5_ := Aside0.mk (Kept.of_grown (S := (fun k_ => P0_ k_)) hg1 HK.out (fun k e => by cases e; exact .inl h4)); clear H5 H7 HB HK hc0 hc1 hown; have H5 := n1_; have H7 := n2_; have HM := n3_; have HB := n4_; have HK := n5_; clear n1_ n2_ n3_ n4_ n5_ hg1 hown1; have hc0 : w1.cell? ⟨p, 0, none⟩ = some (.slice A l0.length c0) := blk_cell H5.out rfl)
          | ((with_reducible refine gate_builtin (b := .append) (xs := #[.tmp 36, .tmp 38]) rfl ?_); at_builtin; refine Kd.R_append Kd.string (w0 := w0) w0.heap.size rfl (.tmp 36) (.tmp 38) 26 9 (.string ⟨#[]⟩) 16 rfl Try.underlying26 info9 rfl (by decide) (by omega) (.slice A l0.length c0) l0 a1 [.string a1] (fun k_ => (P0_ k_ ∨ w.heap.size ≤ k_) ∧ k_ ≠ p ∧ k_ ≠ mb) (fun _ => False) rfl rfl rfl (fun _ hk => hk.elim) ?aF ?aO HB.out HB.out.size (by have := HL.out; omega) ?_; (case aF => intro k hk; have h8 := HK.out.1; exact ⟨.inr (Nat.le_trans h8 hk), by omega, by omega⟩); (case aO => exact Kd.R_mono H7.out (fun k hk => ⟨.inl hk.1, hk.2⟩)); intro v1 w2 ho2 hb2 hg2 hat2; obtain ⟨A2, c2, ev1⟩ := Kd.R_slice ho2; subst ev1; have n1_ := Aside0.mk (blk_grown H5.out hg2 (fun e => (H7.out.1 p e.symm).2.1 rfl)); have n3_ := Aside0.mk (HM.out.move (hg2.block mb HM.out.lt (fun e => (H7.out.1 mb e.symm).2.2 rfl))); have n5_ := Aside0.mk (Kept.of_grown (S := (fun k_ => P0_ k_)) hg2 HK.out (fun k e => .inl (H7.out.1 k e).1)); clear H5 HB HK HM hc0; have H5 := n1_; have HM := n3_; have HK := n5_; have H7b := Aside0.mk ho2; have HB := Aside0.mk hb2; clear n1_ n3_ n5_ hg2 ho2 hb2 hat2; have hc0 : w2.cell? ⟨p, 0, none⟩ = some (.slice A l0.length c0) := blk_cell H5.out rfl; have hf0 : w2.frozen? ⟨p, 0, none⟩ = false := blk_free H5.out)
          | ((with_reducible refine gate_store (t := 26) (p := 41) rfl ?_); refine store_event (t := 26) (p := 41) (v := ?vo) (w1 := (w2.setCell ⟨p, 0, none⟩ (.slice A2 (l0 ++ [a1]).length c2))) ?hg ?ho ?hn ?hr ?_; (case ho => rfl); (case hg => rfl); (case hn => rfl); (case hr => first | (go_simp; done) | (go_simp; rfl)); intro w3 hw; have H5b := Aside0.mk (show w3.heap[p]? = some (.cells #[.slice A2 (l0 ++ [a1]).length c2, .map (some mb)] 52 (0, 0)) from by (rw [hw]; exact blk_set H5.out 0 (.slice A2 (l0 ++ [a1]).length c2))); have HMb := Aside0.mk (show MapOf w3 mb (l0 ++ [a1]) from by (rw [hw]; exact HM.out.move (Below.heap_setCell _ _ _ _ (Ne.symm hpm)))); have H7c := Aside0.mk (show Kd.R Kd.string 9 w3 w0.heap.size (fun k_ => (P0_ k_ ∨ w.heap.size ≤ k_) ∧ k_ ≠ p ∧ k_ ≠ mb) (.slice A2 (l0 ++ [a1]).length c2) (l0 ++ [a1]) from by (rw [hw]; exact Kd.R_far H7b.out (p := ⟨p, 0, none⟩) (fun k hk => hk.2.1) (.slice A2 (l0 ++ [a1]).length c2))); have HBb := Aside0.mk (show Below w0.heap.size w0 w3 from by (rw [hw]; exact below_set HB.out h1)); have HKb := Aside0.mk (show Kept w w3 (fun k_ => P0_ k_) from by (rw [hw]; exact HK.out.setCell (.inl h2) _)); clear H5 HM H7b HB HK hc0 hf0 hw)
          )
        go_ret
        exact ⟨rfl, ⟨p, mb, _, rfl, h1, .inl h2, h3, .inl h4, H5b.out, HMb.out, Kd.R_mono H7c.out (fun k hk => hk.1)⟩, HBb.out, HKb.out⟩
    · rw [if_neg hl] at h
      cases h
  · rw [if_neg hsz] at h
    cases h
end Go.Proofs.Ytpjgognanfgpiaa.PAll
