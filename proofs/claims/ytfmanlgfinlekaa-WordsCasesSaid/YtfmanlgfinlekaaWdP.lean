/- Fold: the program's runes come to the plain function. -/
import Derived.Test.YtfmanlgfinlekaaWd
import Derived.Test.YtfmanlgfinlekaaPAllx2
namespace Go.Proofs.Ytfmanlgfinlekaa.Wd
open Go.RowKit Go.Proofs.Ytfmanlgfinlekaa.PAll Go.Proofs.YtfmanlgfinlekaaW.PrintWords Go.Proofs.YtfmanlgfinlekaaW.PrintLast Go.Proofs.YtfmanlgfinlekaaW.PrintMore Go.Proofs.Ytfmanlgfinlekaa.Bas
set_option linter.unusedVariables false

/-! The program's. -/
theorem take_drop_bt {s : ByteArray} {a b : Int} (h0 : 0 ≤ a) (hab : a ≤ b) (h : b < (s.size : Int)) : ((bytesOf s).take (b + 1).toNat).drop a.toNat = ((bytesOf s).take b.toNat).drop a.toNat ++ [bt s b] := by
  have hb : (bytesOf s).take (b + 1).toNat = (bytesOf s).take b.toNat ++ [(bytesOf s).getD b.toNat 0] := take_at (l := bytesOf s) 0 (by omega) (by rw [len_bytes]; exact h)
  rw [hb, List.drop_append_of_le_length (by rw [List.length_take, bytesOf_length]; omega)]
  congr 1
  show [(bytesOf s).getD b.toNat 0] = [bt s b]
  have := rd_bytesOf s b
  unfold rd at this
  rw [this]
theorem cut3 (l : List Int) {a b c : Nat} (h1 : a ≤ b) (h2 : b ≤ c) : (l.take c).drop a = (l.take b).drop a ++ (l.take c).drop b := by
  rw [List.drop_take, List.drop_take, List.drop_take, show c - a = (b - a) + (c - b) by omega, List.take_add, List.drop_drop, show a + (b - a) = b by omega]
theorem self_nil (l : List Int) (a : Nat) : (l.take a).drop a = [] := List.drop_eq_nil_of_le (by rw [List.length_take]; omega)
theorem empty_nil : (⟨#[]⟩ : ByteArray).toList = ([] : List UInt8) := by decide +kernel
theorem pfold_l0 (s : ByteArray) (hs : (s.size : Int) ≤ 1000000) (n : Nat) : ∀ (i dn : Int) (A : List Int), 0 ≤ dn → dn ≤ i → i ≤ (s.size : Int) → (s.size : Int) - i ≤ n → (A.length : Int) ≤ dn →
    Ev (fun k => words_Fold.l0 k s A dn s i) (strOfNums (A ++ ((bytesOf s).take i.toNat).drop dn.toNat ++ fdl ((bytesOf s).drop i.toNat))) := by
  have fin : ∀ (i dn : Int) (A : List Int), 0 ≤ dn → dn ≤ i → (s.size : Int) = i → (A.length : Int) ≤ dn → Ev (fun k => words_Fold.l0 k s A dn s i) (strOfNums (A ++ ((bytesOf s).take i.toNat).drop dn.toNat ++ fdl ((bytesOf s).drop i.toNat))) := fun i dn A h0 h1 h2 hA => by
    refine Ev_round (fun k => by rw [words_Fold.l0]) ?_
    refine Ev_neg (by omega) ?_
    have e := ext_size s (a := dn.toNat) (b := s.size) (Nat.le_refl _)
    refine Ev_pos h0 (Ev_pos (by omega) (Ev_pos (by omega) ?_))
    rw [drop_end (l := bytesOf s) (i := i) (by rw [len_bytes]; omega), fdl, List.append_nil, ext_bytes, show i.toNat = s.size by omega]
    exact Ev.now _
  induction n with
  | zero =>
    intro i dn A h0 h1 h2 hn hA
    exact fin i dn A h0 h1 (by omega) hA
  | succ n ih =>
    intro i dn A h0 h1 h2 hn hA
    by_cases hi : i < (s.size : Int)
    · have h0i : 0 ≤ i := by omega
      obtain ⟨c, w, hdec, hw, cases_⟩ := dec_cases s i.toNat (by omega)
      rw [show ((i.toNat : Nat) : Int) = i by omega] at cases_
      have e1 : ((i.toNat + 1 : Nat) : Int) = i + 1 := by omega
      have e2 : ((i.toNat + 2 : Nat) : Int) = i + 2 := by omega
      have e3 : ((i.toNat + 3 : Nat) : Int) = i + 3 := by omega
      rw [e1, e2, e3] at cases_
      have hrn : words_rn s i = (c : Int) := by unfold words_rn; rw [hdec]
      have hwd : words_wd s i = (w : Int) := by unfold words_wd; rw [hdec]
      have hd := drop_bt h0i hi
      have br := byte_range s i
      have exs := ext_size s (a := dn.toNat) (b := i.toNat) (by omega)
      have c0 : 0 ≤ (c : Int) := by omega
      -- nothing is replaced: so many bytes stand as they are
      have skip : ∀ (m : Nat), 1 ≤ m → m ≤ 4 → i + m ≤ (s.size : Int) → fdl ((bytesOf s).drop i.toNat) = ((bytesOf s).take (i + m).toNat).drop i.toNat ++ fdl ((bytesOf s).drop (i + m).toNat) → Ev (fun k => words_Fold.l0 k s A dn s (i + m)) (strOfNums (A ++ ((bytesOf s).take i.toNat).drop dn.toNat ++ fdl ((bytesOf s).drop i.toNat))) := fun m m0 m4 hm hp => by
        have := ih (i + m) dn A h0 (by omega) hm (by omega) hA
        refine Ev_eq ?_ this
        rw [hp, cut3 (bytesOf s) (show dn.toNat ≤ i.toNat by omega) (show i.toNat ≤ (i + (m : Int)).toNat by omega)]
        simp only [List.append_assoc]
      -- a replacement
      have put : ∀ (m : Int) (R : List Int), (m = 1 ∨ m = 2) → i + m ≤ (s.size : Int) → (R.length : Int) ≤ m → fdl ((bytesOf s).drop i.toNat) = R ++ fdl ((bytesOf s).drop (i + m).toNat) → Ev (fun k => words_Fold.l0 k s ((A ++ bytesOf (s.extract dn.toNat i.toNat)) ++ R) (i + m) s (i + m)) (strOfNums (A ++ ((bytesOf s).take i.toNat).drop dn.toNat ++ fdl ((bytesOf s).drop i.toNat))) := fun m R m0 hm hR hp => by
        have := ih (i + m) (i + m) ((A ++ bytesOf (s.extract dn.toNat i.toNat)) ++ R) (by omega) (by omega) hm (by omega) (by rw [List.length_append, List.length_append, bytesOf_length, exs]; omega)
        refine Ev_eq ?_ this
        have z : ((bytesOf s).take (i + m).toNat).drop (i + m).toNat = [] := List.drop_eq_nil_of_le (by rw [List.length_take]; omega)
        rw [hp, ext_bytes, z, List.append_nil]
        simp only [List.append_assoc]
      refine Ev_round (fun k => by rw [words_Fold.l0, hrn, hwd]) ?_
      refine Ev_pos hi (Ev_pos h0i ?_)
      rcases cases_ with ⟨k1, k2, k3⟩ | ⟨k1, k2, k3, k4, k5, k6⟩ | ⟨k1, k2, k3, k4, k5, k6, k7, k8, k9, k10⟩
      · -- a byte of ASCII
        rw [k3]
        have plain : ¬ (65 ≤ bt s i ∧ bt s i ≤ 90) → Ev (fun k => words_Fold.j1 k s A dn i (c : Int) (⟨#[]⟩ : ByteArray) 0 s (i + ((1 : Nat) : Int)) false) (strOfNums (A ++ ((bytesOf s).take i.toNat).drop dn.toNat ++ fdl ((bytesOf s).drop i.toNat))) := fun hc => by
          refine Ev_round (fun k => by rw [words_Fold.j1]) ?_
          refine Ev_neg (by decide) (Ev_neg (by omega) ?_)
          refine Ev_round (fun k => by rw [words_Fold.j2]) ?_
          refine Ev_neg (by decide) (Ev_pos empty_nil ?_)
          refine skip 1 (by omega) (by omega) (by omega) ?_
          rw [show (i + ((1 : Nat) : Int)).toNat = (i + 1).toNat by omega, take_drop_bt h0i (Int.le_refl _) hi, self_nil, List.nil_append, hd, fdl_one hc (by omega)]
          rfl
        by_cases c1 : (c : Int) ≥ 65
        · refine Ev_pos c1 ?_
          by_cases c2 : (c : Int) ≤ 90
          · rw [decide_eq_true c2]
            have cx : (((((c : Int) % 256) + 97) % 256) - 65) % 256 = bt s i + 32 := by omega
            refine Ev_round (fun k => by rw [words_Fold.j1]) ?_
            refine Ev_pos rfl (Ev.congr (fun k => by rw [Option.bind_some]) ?_)
            rw [cx]
            clear cx
            refine Ev_neg (one_ne (by omega) (by omega)) (Ev_pos h0 (Ev_pos h1 (Ev_pos h2 (Ev_pos (by omega) (Ev.congr (fun k => by rw [Option.bind_some]) (Ev_pos (by rw [List.length_append, bytesOf_length, strOfNums_size]; simp; omega) ?_))))))
            rw [wrap_in (x := i + 1) ⟨by omega, by omega⟩, show bytesOf (strOfNums [bt s i + 32]) = [bt s i + 32] from num_one (by omega) (by omega)]
            exact put 1 [bt s i + 32] (Or.inl rfl) (by omega) (by simp) (by rw [hd, fdl_cap ⟨by omega, by omega⟩]; rfl)
          · rw [decide_eq_false c2]
            exact plain (by omega)
        · exact Ev_neg c1 (plain (by omega))
      · -- a letter with a mark
        subst k6
        refine Ev_pos (by omega) ?_
        rw [decide_eq_false (by omega)]
        refine Ev_round (fun k => by rw [words_Fold.j1]) ?_
        refine Ev_neg (by decide) (Ev_pos (by omega) ?_)
        rw [decide_eq_true (by omega)]
        have d2 := drop_bt (show 0 ≤ i + 1 by omega) (show i + 1 < (s.size : Int) by omega)
        have cx : wrap64 (wrap64 (c : Int) - 192) = bt s (i + 1) - 128 := by
          rw [wrap_in (x := (c : Int)) ⟨by omega, by omega⟩, wrap_in ⟨by omega, by omega⟩]
          omega
        refine Ev_round (fun k => by rw [words_Fold.j2, cx]) ?_
        clear cx
        refine Ev_pos rfl (Ev.bind (plain_ev (by omega) (by omega)) ?_)
        rw [show bt s (i + 1) - 128 + 128 = bt s (i + 1) by omega]
        by_cases he : fw (bt s (i + 1)) = []
        · refine Ev_pos ((empty_iff (by omega) (by omega)).2 he) ?_
          refine skip 2 (by omega) (by omega) (by omega) ?_
          rw [show (i + ((2 : Nat) : Int)).toNat = (i + 1 + 1).toNat by omega, take_drop_bt h0i (by omega) (by omega), take_drop_bt h0i (Int.le_refl _) hi, self_nil, List.nil_append, hd, k1, d2, fdl_not he, fdl_one (by omega) (by omega)]
          rfl
        · have fl := fw_length (bt s (i + 1))
          refine Ev_neg (fun k => he ((empty_iff (by omega) (by omega)).1 k)) (Ev_pos h0 (Ev_pos h1 (Ev_pos h2 (Ev_pos (by omega) (Ev.congr (fun k => by rw [Option.bind_some]) (Ev_pos (by rw [List.length_append, bytesOf_length, strOfNums_size]; omega) ?_))))))
          rw [wrap_in (x := i + 2) ⟨by omega, by omega⟩, show bytesOf (strOfNums (fw (bt s (i + 1)))) = fw (bt s (i + 1)) from fw_bytes (by omega) (by omega)]
          exact put 2 (fw (bt s (i + 1))) (Or.inr rfl) (by omega) (by omega) (by rw [hd, k1, d2, fdl_two he, show (i + 1 + 1).toNat = (i + 2).toNat by omega])
      · -- other runes
        refine Ev_pos (by omega) ?_
        rw [decide_eq_false (by omega)]
        refine Ev_round (fun k => by rw [words_Fold.j1]) ?_
        refine Ev_neg (by decide) ?_
        have f0 : fdl ((bytesOf s).drop i.toNat) = bt s i :: fdl ((bytesOf s).drop (i + 1).toNat) := by
          rw [hd]
          by_cases h195 : bt s i = 195
          · by_cases hl : i + 1 < (s.size : Int)
            · have he : fw (bt s (i + 1)) = [] := by
                by_cases he : fw (bt s (i + 1)) = []
                · exact he
                · have := fw_small he
                  exact absurd ⟨by omega, this.1, this.2⟩ (k10 h195)
              rw [h195, drop_bt (by omega) hl, fdl_not he]
            · rw [h195, drop_end (by rw [len_bytes]; omega), fdl_end, fdl]
          · exact fdl_one (by omega) h195 _
        have go : Ev (fun k => words_Fold.l0 k s A dn s (i + (w : Int))) (strOfNums (A ++ ((bytesOf s).take i.toNat).drop dn.toNat ++ fdl ((bytesOf s).drop i.toNat))) := by
          have z : ((bytesOf s).take i.toNat).drop i.toNat = [] := List.drop_eq_nil_of_le (by rw [List.length_take]; omega)
          have st : ∀ j : Int, 0 ≤ j → j < (s.size : Int) → (128 ≤ bt s j ∧ bt s j ≤ 191) → fdl ((bytesOf s).drop j.toNat) = bt s j :: fdl ((bytesOf s).drop (j + 1).toNat) := fun j j0 j1 jb => by
            rw [drop_bt j0 j1, fdl_one (by omega) (by omega)]
          have hw4 : w = 1 ∨ w = 2 ∨ w = 3 ∨ w = 4 := by omega
          rcases hw4 with hh | hh | hh | hh <;> subst hh
          · refine skip 1 (by omega) (by omega) (by omega) ?_
            rw [show (i + ((1 : Nat) : Int)).toNat = (i + 1).toNat by omega, take_drop_bt h0i (Int.le_refl _) hi, z, f0]
            rfl
          · refine skip 2 (by omega) (by omega) (by omega) ?_
            rw [show (i + ((2 : Nat) : Int)).toNat = (i + 1 + 1).toNat by omega, take_drop_bt h0i (by omega) (by omega), take_drop_bt h0i (Int.le_refl _) hi, z, f0, st (i + 1) (by omega) (by omega) (k7 (by omega))]
            rfl
          · refine skip 3 (by omega) (by omega) (by omega) ?_
            rw [show (i + ((3 : Nat) : Int)).toNat = (i + 1 + 1 + 1).toNat by omega, take_drop_bt h0i (by omega) (by omega), take_drop_bt h0i (by omega) (by omega), take_drop_bt h0i (Int.le_refl _) hi, z, f0, st (i + 1) (by omega) (by omega) (k7 (by omega)), st (i + 1 + 1) (by omega) (by omega) (by rw [show i + 1 + 1 = i + 2 by omega]; exact k8 (by omega))]
            rfl
          · refine skip 4 (by omega) (by omega) (by omega) ?_
            rw [show (i + ((4 : Nat) : Int)).toNat = (i + 1 + 1 + 1 + 1).toNat by omega, take_drop_bt h0i (by omega) (by omega), take_drop_bt h0i (by omega) (by omega), take_drop_bt h0i (by omega) (by omega), take_drop_bt h0i (Int.le_refl _) hi, z, f0, st (i + 1) (by omega) (by omega) (k7 (by omega)), st (i + 1 + 1) (by omega) (by omega) (by rw [show i + 1 + 1 = i + 2 by omega]; exact k8 (by omega)), st (i + 1 + 1 + 1) (by omega) (by omega) (by rw [show i + 1 + 1 + 1 = i + 3 by omega]; exact k9 (by omega))]
            rfl
        have j2 : Ev (fun k => words_Fold.j2 k s A dn i (c : Int) (⟨#[]⟩ : ByteArray) 0 s (i + (w : Int)) false) (strOfNums (A ++ ((bytesOf s).take i.toNat).drop dn.toNat ++ fdl ((bytesOf s).drop i.toNat))) := by
          refine Ev_round (fun k => by rw [words_Fold.j2]) ?_
          refine Ev_neg (by decide) (Ev_pos empty_nil go)
        by_cases c4 : (c : Int) ≥ 192
        · refine Ev_pos c4 ?_
          rw [decide_eq_false (by omega)]
          exact j2
        · exact Ev_neg c4 j2
    · exact fin i dn A h0 h1 (by omega) hA
theorem pfold_ev (s : ByteArray) (hs : (s.size : Int) ≤ 1000000) : Ev (fun k => words_Fold.f k s) (strOfNums (fdl (bytesOf s))) := by
  refine Ev.congr (fun k => by rw [words_Fold.f]) ?_
  have := pfold_l0 s hs s.size 0 0 [] (by omega) (by omega) (by omega) (by omega) (by simp)
  simpa using this
end Go.Proofs.Ytfmanlgfinlekaa.Wd
