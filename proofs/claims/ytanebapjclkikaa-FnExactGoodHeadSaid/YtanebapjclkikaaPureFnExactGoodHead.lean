/-
The pure statement of FnExactGoodHead is proved: for every head the program's GoodHead and the reference's GoodHead give one answer.
Conditions: the head's strings are strings that Go can hold. None besides.
-/
import Derived.Test.YtanebapjclkikaaPFnExactGoodHeadx1
import Derived.Test.YtanebapjclkikaaPreFnExactGoodHead
set_option linter.unusedVariables false
set_option linter.unusedSimpArgs false
namespace Go.Proofs.Ytanebapjclkikaa.Pure
open Go.RowKit Go.Proofs.Ytanebapjclkikaa.PFnExactGoodHead Go.Proofs.YtanebapjclkikaaW.PrintWords Go.Proofs.YtanebapjclkikaaW.PrintLast Go.Proofs.YtanebapjclkikaaW.PrintMore

theorem w64 {n : Int} (h0 : -9223372036854775808 ≤ n) (h1 : n ≤ 9223372036854775807) : wrap64 n = n := by unfold wrap64; omega
theorem rd_set (l : List Int) (i j v : Int) (h0 : 0 ≤ i) (h1 : i < l.length) (hj : 0 ≤ j) : rd (l.set i.toNat v) j = if j = i then v else rd l j := by
  unfold rd
  rw [List.getD_eq_getElem?_getD, List.getD_eq_getElem?_getD, List.getElem?_set]
  by_cases e : j = i
  · subst e; rw [if_pos rfl, if_pos (by omega), if_pos rfl]; rfl
  · rw [if_neg (by omega), if_neg e]
theorem rdOf_set {α : Type} (d : α) (l : List α) (i j : Int) (v : α) (h0 : 0 ≤ i) (h1 : i < l.length) (hj : 0 ≤ j) : rdOf d (l.set i.toNat v) j = if j = i then v else rdOf d l j := by
  unfold rdOf
  rw [List.getD_eq_getElem?_getD, List.getD_eq_getElem?_getD, List.getElem?_set]
  by_cases e : j = i
  · subst e; rw [if_pos rfl, if_pos (by omega), if_pos rfl]; rfl
  · rw [if_neg (by omega), if_neg e]

/-- Both loops over a name give one answer. -/
theorem origin_l0 (s : ByteArray) (hs : s.size ≤ 140737488351232) (d : Nat) : ∀ (k : Nat) (i : Int), 0 ≤ i → i ≤ s.size → (s.size : Int) - i = d → d < k →
    ∃ r : Bool, spec_l14Origin.l0 k s i = some r ∧ impl_isOrigin.l0 k s (s.size : Int) i = some r := by
  induction d with
  | zero =>
    intro k i h0 hi hd hk
    obtain ⟨k, rfl⟩ : ∃ m, k = m + 1 := ⟨k - 1, by omega⟩
    simp only [spec_l14Origin.l0, impl_isOrigin.l0]
    rw [if_neg (by omega), if_neg (by omega)]
    unfold spec_l1In.f impl_within.f
    by_cases h : (s.size : Int) ≥ 1
    · simp only [h, if_true, Option.bind_some]; exact ⟨_, rfl, rfl⟩
    · simp only [h, if_false, Option.bind_some]; exact ⟨_, rfl, rfl⟩
  | succ d ih =>
    intro k i h0 hi hd hk
    obtain ⟨k, rfl⟩ : ∃ m, k = m + 1 := ⟨k - 1, by omega⟩
    simp only [spec_l14Origin.l0, impl_isOrigin.l0]
    have hlt : i < (s.size : Int) := by omega
    simp only [if_pos hlt, if_pos h0]
    rw [w64 (by omega) (by omega)]
    by_cases ha : bt s i < 97
    · simp only [ha, if_true]; exact ⟨_, rfl, rfl⟩
    · by_cases hb : bt s i > 122
      · simp only [ha, hb, if_true, if_false]; exact ⟨_, rfl, rfl⟩
      · simp only [ha, hb, if_false]
        exact ih k (i + 1) (by omega) (by omega) (by omega) (by omega)

theorem FnExactGoodHead : laws_FnExactGoodHead.Pure := by
  intro s n r ⟨hs, _, hr⟩
  replace hs : s.size ≤ 140737488351232 := hs
  replace hr : r.size ≤ 140737488351232 := hr
  obtain ⟨b, h1, h2⟩ := origin_l0 s hs s.size (s.size + 1) 0 (by omega) (by omega) (by omega) (by omega)
  refine ⟨s.size + 1, ?_⟩
  have h1' : spec_l14Origin.f (s.size + 1) s = some b := h1
  have h2' : impl_isOrigin.f (s.size + 1) s = some b := h2
  have e : impl_GoodHead.f (s.size + 1) s n r = spec_GoodHead.f (s.size + 1) s n r := by
    unfold impl_GoodHead.f spec_GoodHead.f impl_isHead.f
    rw [h1', h2']
    unfold spec_l1In.f impl_within.f impl_isDigest.f
    cases b with
    | false => simp
    | true => by_cases h : n ≥ 0 <;> by_cases h' : n ≤ 1000000 <;> simp [h, h']
  have hsome : ∃ c, spec_GoodHead.f (s.size + 1) s n r = some c := by
    unfold spec_GoodHead.f
    rw [h1']
    unfold spec_l1In.f
    cases b with
    | false => exact ⟨_, rfl⟩
    | true =>
      simp only [Option.bind_some, if_true]
      split
      · simp only [Option.bind_some]
        split
        · exact ⟨_, rfl⟩
        · exact ⟨_, rfl⟩
      · exact ⟨_, rfl⟩
  obtain ⟨c, hc⟩ := hsome
  rw [hc] at e
  simp only [laws_FnExactGoodHead.f, laws_szHead.f, laws_toHead.f]
  rw [w64 (n := 1048576 - (s.size : Int)) (by omega) (by omega)]
  by_cases h3 : 1048576 - (s.size : Int) < 0
  · simp [h3]
  rw [if_neg h3, w64 (n := 1048576 - (s.size : Int) - (r.size : Int)) (by omega) (by omega)]
  by_cases h4 : 1048576 - (s.size : Int) - (r.size : Int) < 0
  · simp [h4]
  rw [if_neg h4]
  simp only [Option.bind_some, if_neg h4, hc, e, bne_self_eq_false, Bool.false_eq_true, if_false]

end Go.Proofs.Ytanebapjclkikaa.Pure
