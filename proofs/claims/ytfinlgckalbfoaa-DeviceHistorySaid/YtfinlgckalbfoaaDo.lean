/- The law's operations, as the walk reads them. -/
import Derived.Test.YtfinlgckalbfoaaDs
namespace Go.Proofs.Ytfinlgckalbfoaa.PAll
open Go.RowKit Go.Proofs.YtfinlgckalbfoaaW.PrintWords Go.Proofs.YtfinlgckalbfoaaW.PrintLast Go.Proofs.YtfinlgckalbfoaaW.PrintMore
set_option linter.unusedVariables false
set_option linter.unusedSimpArgs false
attribute [local irreducible] Calls
structure S28 where
  f0 : Int
  f1 : Int
  f2 : ByteArray
def z28 : S28 := ⟨(0 : Int), (0 : Int), (⟨#[]⟩ : ByteArray)⟩
def k28 : Kd S28 := Kd.iso (Kd.pair (Kd.int .u8) (Kd.pair (Kd.int .i64) Kd.string)) (fun x : S28 => (x.f0, x.f1, x.f2))
theorem k28_open {w : World} {x : S28} {cs : List Value} (h : k28.K w x cs) : cs = [.int .u8 x.f0, .int .i64 x.f1, .string x.f2] := by
  obtain ⟨_, _, rfl, rfl, ⟨_, _, rfl, rfl, rfl⟩⟩ := h
  exact rfl
def rd_T28 (xs : List S28) (i : Int) : S28 := xs.getD i.toNat z28
theorem at_T28 {w : World} {A : Option Addr} {n : Nat} {xs : List S28} (h : Kd.C k28 w A n xs) (i : Int) (h0 : 0 ≤ i) (h1 : i < n) : ∃ ad , A = some ad ∧ w.cell? (ad.add (i.toNat * 3)) = some (.int .u8 (rd_T28 xs i).f0) ∧ w.cell? ⟨(ad.add (i.toNat * 3)).block, (ad.add (i.toNat * 3)).off + 1, none⟩ = some (.int .i64 (rd_T28 xs i).f1) ∧ w.cell? ⟨(ad.add (i.toNat * 3)).block, (ad.add (i.toNat * 3)).off + 2, none⟩ = some (.string (rd_T28 xs i).f2) := by
  obtain ⟨ad, c, e, _, hK, hc0⟩ := Kd.C_get h z28 i h0 h1
  have hc : ∀ j u, c[j]? = some u → w.cell? (ad.add (i.toNat * 3 + j)) = some u := hc0
  obtain rfl := k28_open hK
  exact ⟨ad, e, hc 0 _ rfl, by rw [← add_field _ _ 1 (by omega)]; exact hc 1 _ rfl, by rw [← add_field _ _ 2 (by omega)]; exact hc 2 _ rfl⟩

/-- What a Limit and some writes leave: the device, and what each write's answer is to be. -/
def limStep (blocks left : Int) (x : S28) : Int × Int :=
  if x.f1 < 0 ∨ blocks ≤ x.f1 then (2, left) else if (64 : Int) < x.f2.size then (5, left) else if left = 0 then (20, left) else (0, left - 1)
/-- A device of so many blocks with so much left. -/
structure LimI (n k : Nat) (limit left : Int) (d : Dv) : Prop where
  nn : d.now.length = n
  lim : d.lim = true
  lf : d.left = left
  l0 : 0 ≤ left
  lu : left ≤ limit
  ll : (d.log.length : Int) = limit - left
  lk : d.log.length ≤ k
theorem lim_write {n k : Nat} {limit left : Int} {d : Dv} (h : LimI n k limit left d) (hm : limit ≤ 9223372036854775807) (x : S28) : ∃ d2, dvWrite d x.f1 x.f2 = ((limStep n left x).1, d2) ∧ LimI n (k + 1) limit (limStep n left x).2 d2 := by
  obtain ⟨h1, h2, h3, h4, h5, h6, h7⟩ := h
  unfold dvWrite limStep
  rw [h1, h2, h3]
  by_cases c1 : x.f1 < 0 ∨ (n : Int) ≤ x.f1
  · rw [if_pos c1, if_pos c1]
    exact ⟨d, rfl, h1, h2, h3, h4, h5, h6, by omega⟩
  · rw [if_neg c1, if_neg c1]
    by_cases c2 : (64 : Int) < x.f2.size
    · rw [if_pos c2, if_pos c2]
      exact ⟨d, rfl, h1, h2, h3, h4, h5, h6, by omega⟩
    · rw [if_neg c2, if_neg c2]
      by_cases c3 : left = 0
      · rw [if_pos ⟨rfl, c3⟩, if_pos c3]
        exact ⟨d, rfl, h1, h2, h3, h4, h5, h6, by omega⟩
      · rw [if_neg (fun h => c3 h.2), if_neg c3, if_pos rfl]
        exact ⟨_, rfl, by simpa using h1, rfl, by show wrap64 (left - 1) = left - 1; unfold wrap64; omega, by show 0 ≤ left - 1; omega, by show left - 1 ≤ limit; omega, by simp; omega, by simp; omega⟩
end Go.Proofs.Ytfinlgckalbfoaa.PAll
