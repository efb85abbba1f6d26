/-
The pure statement of FnExactMessageOf is proved: for every kind and body the program's MessageOf and the reference's MessageOf give one answer.
Conditions: each string is one that Go can hold. None besides.
-/
import Derived.Test.YtanebapjclkikaaPFnExactMessageOfx2
set_option linter.unusedVariables false
set_option linter.unusedSimpArgs false
namespace Go.Proofs.Ytanebapjclkikaa.Pure
open Go.RowKit Go.Proofs.Ytanebapjclkikaa.PFnExactMessageOf Go.Proofs.YtanebapjclkikaaW.PrintWords Go.Proofs.YtanebapjclkikaaW.PrintLast Go.Proofs.YtanebapjclkikaaW.PrintMore

theorem w64 {n : Int} (h0 : -9223372036854775808 ≤ n) (h1 : n ≤ 9223372036854775807) : wrap64 n = n := by unfold wrap64; omega
theorem rd_set (l : List Int) (i j v : Int) (h0 : 0 ≤ i) (h1 : i < l.length) (hj : 0 ≤ j) : rd (l.set i.toNat v) j = if j = i then v else rd l j := by
  unfold rd
  rw [List.getD_eq_getElem?_getD, List.getD_eq_getElem?_getD, List.getElem?_set]
  by_cases e : j = i
  · subst e; rw [if_pos rfl, if_pos (by omega), if_pos rfl]; rfl
  · rw [if_neg (by omega), if_neg e]
theorem rdOf_set {α : Type} (d : α) (l : List α) (i j : Int) (v : α) (h0 : 0 ≤ i) (h1 : i < l.length) (hj : 0 ≤ j) : rdOf d (l.set i.toNat v) j = if j = i then v else rdOf d l j := by
  unfold rdOf
  rw [List.getD_eq_getElem?_getD, List.getD_eq_getElem?_getD, List.getElem?_set]
  by_cases e : j = i
  · subst e; rw [if_pos rfl, if_pos (by omega), if_pos rfl]; rfl
  · rw [if_neg (by omega), if_neg e]

/-- The letters of a note. -/
def noteOk (b : Int) : Prop := (48 ≤ b ∧ b ≤ 57) ∨ (97 ≤ b ∧ b ≤ 122) ∨ b = 32
def hashOk (b : Int) : Prop := (48 ≤ b ∧ b ≤ 57) ∨ (97 ≤ b ∧ b ≤ 102)
theorem note_index : ∀ n : Nat, n < 256 → (Lib.indexByte ([97, 98, 99, 100, 101, 102, 103, 104, 105, 106, 107, 108, 109, 110, 111, 112, 113, 114, 115, 116, 117, 118, 119, 120, 121, 122, 48, 49, 50, 51, 52, 53, 54, 55, 56, 57, 32] : List UInt8) n.toUInt8 < 0 ↔ ¬ ((48 ≤ n ∧ n ≤ 57) ∨ (97 ≤ n ∧ n ≤ 122) ∨ n = 32)) := by decide +kernel
theorem hash_index : ∀ n : Nat, n < 256 → (Lib.indexByte ([48, 49, 50, 51, 52, 53, 54, 55, 56, 57, 97, 98, 99, 100, 101, 102] : List UInt8) n.toUInt8 < 0 ↔ ¬ ((48 ≤ n ∧ n ≤ 57) ∨ (97 ≤ n ∧ n ≤ 102))) := by decide +kernel
theorem note_l0 (a s : ByteArray) (ha : a.toList = [110, 111, 116, 101]) (hs : s.size ≤ 140737488351232) (d : Nat) : ∀ (k : Nat) (i : Int), 0 ≤ i → i ≤ s.size → (s.size : Int) - i = d → d < k →
    ∃ r : Bool, spec_IsBody.l0 k a s i = some r ∧ impl_isBody.l0 k s (⟨#[97, 98, 99, 100, 101, 102, 103, 104, 105, 106, 107, 108, 109, 110, 111, 112, 113, 114, 115, 116, 117, 118, 119, 120, 121, 122, 48, 49, 50, 51, 52, 53, 54, 55, 56, 57, 32]⟩ : ByteArray) 1 30 (s.size : Int) i = some r := by
  induction d with
  | zero =>
    intro k i h0 hi hd hk
    obtain ⟨k, rfl⟩ : ∃ m, k = m + 1 := ⟨k - 1, by omega⟩
    have hlt : ¬ i < (s.size : Int) := by omega
    simp only [spec_IsBody.l0, impl_isBody.l0, spec_l1In.f, impl_within.f, ha, hlt, if_false, if_true]
    by_cases h1 : (s.size : Int) ≥ 1
    · by_cases h2 : (s.size : Int) ≤ 30
      · exact ⟨true, by simp [h1, h2], by simp [h1, h2]⟩
      · exact ⟨false, by simp [h1, h2], by simp [h1, h2]⟩
    · exact ⟨false, by simp [h1], by simp [h1]⟩
  | succ d ih =>
    intro k i h0 hi hd hk
    obtain ⟨k, rfl⟩ : ∃ m, k = m + 1 := ⟨k - 1, by omega⟩
    obtain ⟨r, h1, h2⟩ := ih k (i + 1) (by omega) (by omega) (by omega) (by omega)
    have hb := bt_range s i
    have hx := note_index (bt s i).toNat (by omega)
    have hlt : i < (s.size : Int) := by omega
    have hw : wrap64 (i + 1) = i + 1 := w64 (by omega) (by omega)
    simp only [spec_IsBody.l0, impl_isBody.l0, strings_IndexByte.f, Option.bind_some, ha, hlt, h0, if_true, hw, h1, h2]
    generalize bt s i = b at hb hx
    by_cases hok : noteOk b
    · refine ⟨r, ?_, ?_⟩
      · unfold noteOk at hok
        by_cases c1 : b ≥ 48 <;> by_cases c2 : b ≤ 57 <;> by_cases c3 : b ≥ 97 <;> by_cases c4 : b ≤ 122 <;> by_cases c5 : b = 32 <;> first | omega | simp [c1, c2, c3, c4, c5]
      · rw [if_neg (fun h => absurd (hx.1 h) (by unfold noteOk at hok; omega))]
    · refine ⟨false, ?_, ?_⟩
      · unfold noteOk at hok
        by_cases c1 : b ≥ 48 <;> by_cases c2 : b ≤ 57 <;> by_cases c3 : b ≥ 97 <;> by_cases c4 : b ≤ 122 <;> by_cases c5 : b = 32 <;> first | omega | simp [c1, c2, c3, c4, c5]
      · rw [if_pos (hx.2 (by unfold noteOk at hok; omega))]
theorem hash_l0 (a s : ByteArray) (ha : a.toList = [104, 97, 115, 104]) (hs : s.size ≤ 140737488351232) (d : Nat) : ∀ (k : Nat) (i : Int), 0 ≤ i → i ≤ s.size → (s.size : Int) - i = d → d < k →
    ∃ r : Bool, spec_IsBody.l0 k a s i = some r ∧ impl_isBody.l0 k s (⟨#[48, 49, 50, 51, 52, 53, 54, 55, 56, 57, 97, 98, 99, 100, 101, 102]⟩ : ByteArray) 16 16 (s.size : Int) i = some r := by
  induction d with
  | zero =>
    intro k i h0 hi hd hk
    obtain ⟨k, rfl⟩ : ∃ m, k = m + 1 := ⟨k - 1, by omega⟩
    have hlt : ¬ i < (s.size : Int) := by omega
    simp only [spec_IsBody.l0, impl_isBody.l0, impl_within.f, ha, hlt, if_false, if_true, show ¬ ([104, 97, 115, 104] : List UInt8) = [110, 111, 116, 101] by decide]
    by_cases h1 : (s.size : Int) = 16
    · exact ⟨true, by simp [h1], by simp [h1]⟩
    · refine ⟨false, by simp [h1], ?_⟩
      split
      · rw [decide_eq_false (by omega)]; rfl
      · rfl
  | succ d ih =>
    intro k i h0 hi hd hk
    obtain ⟨k, rfl⟩ : ∃ m, k = m + 1 := ⟨k - 1, by omega⟩
    obtain ⟨r, h1, h2⟩ := ih k (i + 1) (by omega) (by omega) (by omega) (by omega)
    have hb := bt_range s i
    have hx := hash_index (bt s i).toNat (by omega)
    have hlt : i < (s.size : Int) := by omega
    have hw : wrap64 (i + 1) = i + 1 := w64 (by omega) (by omega)
    simp only [spec_IsBody.l0, impl_isBody.l0, strings_IndexByte.f, Option.bind_some, ha, hlt, h0, if_true, hw, h1, h2]
    generalize bt s i = b at hb hx
    by_cases hok : hashOk b
    · refine ⟨r, ?_, ?_⟩
      · unfold hashOk at hok
        by_cases c1 : b ≥ 48 <;> by_cases c2 : b ≤ 57 <;> by_cases c3 : b ≥ 97 <;> by_cases c4 : b ≤ 102 <;> first | omega | simp [c1, c2, c3, c4]
      · rw [if_neg (fun h => absurd (hx.1 h) (by unfold hashOk at hok; omega))]
    · refine ⟨false, ?_, ?_⟩
      · unfold hashOk at hok
        by_cases c1 : b ≥ 48 <;> by_cases c2 : b ≤ 57 <;> by_cases c3 : b ≥ 97 <;> by_cases c4 : b ≤ 102 <;> first | omega | simp [c1, c2, c3, c4]
      · rw [if_pos (hx.2 (by unfold hashOk at hok; omega))]
theorem other_l0 (a s : ByteArray) (ha : ¬ a.toList = [104, 97, 115, 104]) (hb : ¬ a.toList = [110, 111, 116, 101]) (hs : s.size ≤ 140737488351232) (d : Nat) : ∀ (k : Nat) (i : Int), 0 ≤ i → i ≤ s.size → (s.size : Int) - i = d → d < k → spec_IsBody.l0 k a s i = some false := by
  induction d with
  | zero =>
    intro k i h0 hi hd hk
    obtain ⟨k, rfl⟩ : ∃ m, k = m + 1 := ⟨k - 1, by omega⟩
    have hlt : ¬ i < (s.size : Int) := by omega
    simp only [spec_IsBody.l0, ha, hb, hlt, if_false]
  | succ d ih =>
    intro k i h0 hi hd hk
    obtain ⟨k, rfl⟩ : ∃ m, k = m + 1 := ⟨k - 1, by omega⟩
    have hlt : i < (s.size : Int) := by omega
    have hw : wrap64 (i + 1) = i + 1 := w64 (by omega) (by omega)
    simp only [spec_IsBody.l0, ha, hb, hlt, h0, hw, ih k (i + 1) (by omega) (by omega) (by omega) (by omega), if_true, if_false]
    split <;> rfl
/-- Both give one answer. -/
theorem isBody (a s : ByteArray) (hs : s.size ≤ 140737488351232) : ∃ b : Bool, Ev (fun k => spec_IsBody.f k a s) b ∧ Ev (fun k => impl_isBody.f k a s) b := by
  by_cases h1 : a.toList = [110, 111, 116, 101]
  · obtain ⟨r, h2, h3⟩ := note_l0 a s h1 hs s.size (s.size + 1) 0 (by omega) (by omega) (by omega) (by omega)
    refine ⟨r, Ev.of (fun k => spec_IsBody.mono a s k) h2, Ev.of (fun k => impl_isBody.mono a s k) (k := s.size + 2) ?_⟩
    unfold impl_isBody.f; rw [if_pos h1, impl_isBody.j0]; exact h3
  · by_cases h4 : a.toList = [104, 97, 115, 104]
    · obtain ⟨r, h2, h3⟩ := hash_l0 a s h4 hs s.size (s.size + 1) 0 (by omega) (by omega) (by omega) (by omega)
      refine ⟨r, Ev.of (fun k => spec_IsBody.mono a s k) h2, Ev.of (fun k => impl_isBody.mono a s k) (k := s.size + 2) ?_⟩
      unfold impl_isBody.f; rw [if_neg h1, if_pos h4, impl_isBody.j0]; exact h3
    · refine ⟨false, Ev.of (fun k => spec_IsBody.mono a s k) (other_l0 a s h4 h1 hs s.size (s.size + 1) 0 (by omega) (by omega) (by omega) (by omega)), ?_⟩
      unfold impl_isBody.f; simp only [if_neg h1, if_neg h4]; exact Ev.now _

theorem FnExactMessageOf : laws_FnExactMessageOf.Pure := by
  intro a s ha hs
  obtain ⟨b, h1, h2⟩ := isBody a s hs
  have hz : ∀ x y : ByteArray, (x ++ y).size = x.size + y.size := fun x y => by simp
  have hz1 : (⟨#[58]⟩ : ByteArray).size = 1 := rfl
  apply Ev.rounds (g := fun k => laws_FnExactMessageOf.f k a s)
  obtain ⟨m, c, h3, h4⟩ : ∃ (m : ByteArray) (c : Bool), Ev (fun k => spec_MessageOf.f k a s) (m, c) ∧ Ev (fun k => impl_MessageOf.f k a s) (m, c) := by
    unfold spec_MessageOf.f impl_MessageOf.f spec_l13Message.f
    cases b with
    | false => exact ⟨_, _, Ev.bind h1 (by simp only [Bool.false_eq_true, if_false]; exact Ev.now _), Ev.bind h2 (by simp only [Bool.false_eq_true, if_false]; exact Ev.now _)⟩
    | true =>
      refine ⟨(a ++ (⟨#[58]⟩ : ByteArray)) ++ s, true, Ev.bind h1 ?_, Ev.bind h2 ?_⟩
      · simp only [if_true]; rw [if_pos (by omega), if_pos (by rw [hz, hz1]; omega)]; exact Ev.now _
      · simp only [if_true]; rw [if_pos (by omega), if_pos (by rw [hz, hz1]; omega)]; exact Ev.now _
  unfold laws_FnExactMessageOf.f
  by_cases c1 : (a.size : Int) > 1048576
  · simp only [c1, if_true]; exact Ev.now _
  by_cases c2 : (s.size : Int) > 1048576
  · simp only [c1, c2, if_true, if_false]; exact Ev.now _
  simp only [c1, c2, if_false]
  refine Ev.bind h3 (Ev.bind h4 ?_)
  simp only [if_true, bne_self_eq_false, Bool.false_eq_true, if_false]; exact Ev.now _

end Go.Proofs.Ytanebapjclkikaa.Pure
