/-
The pure statement of FnExactPartsFor is proved: for every whole number the program's PartsFor and the reference's PartsFor give one list, and the list that is handed back is the caller's own.
Conditions: the argument is a number of Go's kind int64. None besides.
-/
import Derived.Test.YtanebapjclkikaaPFnExactPartsForx2
set_option linter.unusedVariables false
set_option linter.unusedSimpArgs false
namespace Go.Proofs.Ytanebapjclkikaa.Pure
open Go.RowKit Go.Proofs.Ytanebapjclkikaa.PFnExactPartsFor Go.Proofs.YtanebapjclkikaaW.PrintWords Go.Proofs.YtanebapjclkikaaW.PrintLast Go.Proofs.YtanebapjclkikaaW.PrintMore

theorem w64 {n : Int} (h0 : -9223372036854775808 ≤ n) (h1 : n ≤ 9223372036854775807) : wrap64 n = n := by unfold wrap64; omega
theorem rd_set (l : List Int) (i j v : Int) (h0 : 0 ≤ i) (h1 : i < l.length) (hj : 0 ≤ j) : rd (l.set i.toNat v) j = if j = i then v else rd l j := by
  unfold rd
  rw [List.getD_eq_getElem?_getD, List.getD_eq_getElem?_getD, List.getElem?_set]
  by_cases e : j = i
  · subst e; rw [if_pos rfl, if_pos (by omega), if_pos rfl]; rfl
  · rw [if_neg (by omega), if_neg e]
theorem rdOf_set {α : Type} (d : α) (l : List α) (i j : Int) (v : α) (h0 : 0 ≤ i) (h1 : i < l.length) (hj : 0 ≤ j) : rdOf d (l.set i.toNat v) j = if j = i then v else rdOf d l j := by
  unfold rdOf
  rw [List.getD_eq_getElem?_getD, List.getD_eq_getElem?_getD, List.getElem?_set]
  by_cases e : j = i
  · subst e; rw [if_pos rfl, if_pos (by omega), if_pos rfl]; rfl
  · rw [if_neg (by omega), if_neg e]

theorem eqInts_l0 (l : List Int) (hl : l.length < 4611686018427387904) (d : Nat) : ∀ (k : Nat) (i : Int), 0 ≤ i → (l.length : Int) - i = d → d < k → laws_eqIntS.l0 k l l i = some true := by
  induction d with
  | zero => intro k i h0 hd hk; obtain ⟨k, rfl⟩ : ∃ m, k = m + 1 := ⟨k - 1, by omega⟩; simp only [laws_eqIntS.l0]; rw [if_neg (by omega)]
  | succ d ih =>
    intro k i h0 hd hk
    obtain ⟨k, rfl⟩ : ∃ m, k = m + 1 := ⟨k - 1, by omega⟩
    simp only [laws_eqIntS.l0, if_true]
    rw [if_pos (by omega), if_pos h0, if_pos (by omega), w64 (by omega) (by omega)]
    exact ih k (i + 1) (by omega) (by omega) (by omega)
theorem eqInts (l : List Int) (hl : l.length < 4611686018427387904) : Ev (fun k => laws_eqIntS.f k l l) true :=
  ⟨l.length + 1, fun k hk => by simp only [laws_eqIntS.f, if_true]; exact eqInts_l0 l hl l.length k 0 (by omega) (by omega) (by omega)⟩

theorem markInts_l0 (d : Nat) : ∀ (k : Nat) (l : List Int) (m i : Int), 0 ≤ i → i ≤ l.length → (l.length : Int) - i = d → l.length < 4611686018427387904 → 0 ≤ m → m + d < 4611686018427387904 → d < k →
    ∃ l', laws_markIntS.l0 k l m i = some (m + d, l') ∧ l'.length = l.length ∧ (∀ j, 0 ≤ j → j < i → rd l' j = rd l j) ∧ ∀ j, i ≤ j → j < l.length → rd l' j = m + (j - i) := by
  induction d with
  | zero =>
    intro k l m i h0 hi hd hl hm hb hk
    obtain ⟨k, rfl⟩ : ∃ m, k = m + 1 := ⟨k - 1, by omega⟩
    exact ⟨l, by simp only [laws_markIntS.l0]; rw [if_neg (by omega)]; simp, rfl, fun _ _ _ => rfl, fun j _ _ => by omega⟩
  | succ d ih =>
    intro k l m i h0 hi hd hl hm hb hk
    obtain ⟨k, rfl⟩ : ∃ m, k = m + 1 := ⟨k - 1, by omega⟩
    obtain ⟨l', h1, h2, h3, h4⟩ := ih k (l.set i.toNat m) (m + 1) (i + 1) (by omega) (by simp; omega) (by simp; omega) (by simpa using hl) (by omega) (by omega) (by omega)
    refine ⟨l', ?_, by simpa using h2, ?_, ?_⟩
    · simp only [laws_markIntS.l0]
      rw [if_pos (by omega), if_pos h0, w64 (by omega) (by omega), w64 (by omega) (by omega), h1]
      congr 2; omega
    · intro j hj hji; rw [h3 j hj (by omega), rd_set _ _ _ _ h0 (by omega) hj, if_neg (by omega)]
    · intro j hij hjl
      by_cases e : j = i
      · subst e; rw [h3 j h0 (by omega), rd_set _ _ _ _ h0 (by omega) h0, if_pos rfl]; omega
      · rw [h4 j (by omega) (by simpa using hjl)]; omega
theorem heldInts_l0 (l : List Int) (hl : l.length < 4611686018427387904) (d : Nat) : ∀ (k : Nat) (m i : Int), 0 ≤ i → (l.length : Int) - i = d → 0 ≤ m → m + d < 4611686018427387904 → d < k →
    (∀ j, i ≤ j → j < l.length → rd l j = m + (j - i)) → laws_heldIntS.l0 k l m i = some (m + d) := by
  induction d with
  | zero =>
    intro k m i h0 hd hm hb hk hj
    obtain ⟨k, rfl⟩ : ∃ m, k = m + 1 := ⟨k - 1, by omega⟩
    simp only [laws_heldIntS.l0]; rw [if_neg (by omega)]; simp
  | succ d ih =>
    intro k m i h0 hd hm hb hk hj
    obtain ⟨k, rfl⟩ : ∃ m, k = m + 1 := ⟨k - 1, by omega⟩
    simp only [laws_heldIntS.l0]
    rw [if_pos (by omega), if_pos h0, if_pos (by rw [hj i (by omega) (by omega)]; omega), w64 (by omega) (by omega), w64 (by omega) (by omega), ih k (m + 1) (i + 1) (by omega) (by omega) (by omega) (by omega) (by omega) (fun j h1 h2 => by rw [hj j (by omega) h2]; omega)]
    congr 1; omega
theorem markInts (l : List Int) (hl : l.length < 2305843009213693952) (m : Int) (hm : 0 ≤ m) (hm2 : m < 2305843009213693952) :
    ∃ l', Ev (fun k => laws_markIntS.f k l m) (m + l.length, l') ∧ l'.length = l.length ∧ Ev (fun k => laws_heldIntS.f k l' m) (m + l.length) := by
  obtain ⟨l', h1, h2, h3, h4⟩ := markInts_l0 l.length (l.length + 1) l m 0 (by omega) (by omega) (by omega) (by omega) hm (by omega) (by omega)
  refine ⟨l', Ev.of (fun k => laws_markIntS.mono l m k) h1, h2, l'.length + 1, fun k hk => ?_⟩
  have := heldInts_l0 l' (by omega) l'.length k m 0 (by omega) (by omega) hm (by omega) (by omega) (fun j a b => h4 j a (by omega))
  rw [h2] at this; exact this

theorem and_high (a : Int) (h0 : 0 ≤ a) (h1 : a ≤ 1000000) : Go.bits .and .i64 a 1048576 = 0 := by
  have h := (bits_nat .i64 40 (by decide) (fun n h₀ h₁ => by rw [IntKind.wrap_i64]; omega) a.toNat 1048576 (by omega) (by decide)).1
  rw [show ((a.toNat : Nat) : Int) = a by omega] at h
  have e : a.toNat &&& 1048576 = 0 := by
    apply Nat.eq_of_testBit_eq
    intro i
    rw [Nat.testBit_and, show (1048576 : Nat) = 2 ^ 20 by rfl, Nat.testBit_two_pow]
    by_cases hi : 20 = i
    · subst hi; rw [Nat.testBit_lt_two_pow (by omega)]; simp
    · simp [hi]
  rw [e] at h; exact h

/-- Both loops find one list, of at most d parts more. -/
theorem parts_l0 (a : Int) (d : Nat) : ∀ (k : Nat) (l : List Int) (x : Int), 0 ≤ x → x < 2 ^ d → x < 1099511627776 → d < k → l.length + d < 100 →
    ∃ r : List Int, spec_l9Parts.l0 k a l x = some r ∧ impl_PartsFor.l0 k a l x = some (r, true) ∧ r.length < 100 := by
  induction d with
  | zero =>
    intro k l x h0 h1 _ hk hl
    obtain ⟨k, rfl⟩ : ∃ m, k = m + 1 := ⟨k - 1, by omega⟩
    exact ⟨l, by simp only [spec_l9Parts.l0]; rw [if_neg (by omega)], by simp only [impl_PartsFor.l0]; rw [if_neg (by omega)], by omega⟩
  | succ d ih =>
    intro k l x h0 h1 hd hk hl
    obtain ⟨k, rfl⟩ : ∃ m, k = m + 1 := ⟨k - 1, by omega⟩
    simp only [spec_l9Parts.l0, impl_PartsFor.l0]
    by_cases hp : x > 0
    · have e : wrap64 (Int.tdiv x 2) = x / 2 := by rw [Int.tdiv_eq_ediv_of_nonneg h0]; exact w64 (by omega) (by omega)
      have h2 : x / 2 < 2 ^ d := by rw [Int.pow_succ] at h1; omega
      rw [if_pos hp, if_pos hp, e]
      split
      · exact ih k l (x / 2) (by omega) h2 (by omega) (by omega) (by omega)
      · rw [if_pos (by omega), if_pos (by omega)]
        exact ih k (l ++ [x]) (x / 2) (by omega) h2 (by omega) (by omega) (by simp; omega)
    · exact ⟨l, by rw [if_neg hp], by rw [if_neg hp], by omega⟩

set_option maxRecDepth 4000 in
theorem parts (a : Int) (h0 : 0 ≤ a) (h1 : a ≤ 1000000) : ∃ r : List Int, r.length < 100 ∧ Ev (fun k => spec_l9Parts.f k a) r ∧ Ev (fun k => impl_PartsFor.l0 k a [] 524288) (r, true) := by
  obtain ⟨r, h2, h3, h4⟩ := parts_l0 a 20 30 [] 524288 (by omega) (by decide) (by omega) (by omega) (by simp)
  refine ⟨r, h4, Ev.of (fun k => spec_l9Parts.mono a k) (k := 31) ?_, Ev.of (fun k => impl_PartsFor.mono_l k a [] 524288) h3⟩
  show spec_l9Parts.l0 (30 + 1) a [] 1048576 = some r
  rw [spec_l9Parts.l0, if_pos (by decide), if_pos (and_high a h0 h1), show wrap64 (Int.tdiv 1048576 2) = 524288 by unfold wrap64; decide]
  exact h2

theorem equal_lists (a : Int) : ∃ (r : List Int) (b : Bool), r.length < 100 ∧ Ev (fun k => spec_PartsFor.f k a) (r, b) ∧ Ev (fun k => impl_PartsFor.f k a) (r, b) := by
  unfold spec_PartsFor.f impl_PartsFor.f spec_l1In.f impl_within.f
  by_cases h2 : a ≥ 0
  · by_cases h20 : a ≤ 1000000
    · obtain ⟨r, hr, h3, h4⟩ := parts a h2 h20
      simp only [h2, h20, if_true, decide_true, Option.bind_some]
      exact ⟨r, true, hr, Ev.bind h3 (Ev.now _), h4⟩
    · simp only [h2, h20, if_true, decide_false, Option.bind_some, Bool.false_eq_true, if_false]
      exact ⟨[], false, by simp, Ev.now _, Ev.now _⟩
  · simp only [h2, if_false, Option.bind_some, Bool.false_eq_true]
    exact ⟨[], false, by simp, Ev.now _, Ev.now _⟩

theorem FnExactPartsFor : laws_FnExactPartsFor.Pure := by
  intro a _
  obtain ⟨r, b, hr, hs, hi⟩ := equal_lists a
  have he := eqInts r (by omega)
  obtain ⟨l', hm, hl', hh⟩ := markInts r (by omega) 1 (by omega) (by omega)
  apply Ev.rounds (g := fun k => laws_FnExactPartsFor.f k a)
  unfold laws_FnExactPartsFor.f
  refine Ev.bind hs (Ev.bind hi (Ev.bind he ?_))
  simp only [if_true, bne_self_eq_false]
  refine Ev.step (fun k => by rw [laws_FnExactPartsFor.j0]) ?_
  simp only [Bool.false_eq_true, if_false]
  refine Ev.bind hm (Ev.bind hh ?_)
  simp only [if_true, if_neg (show ¬ (1 + (r.length : Int) < 0) by omega)]
  refine Ev.bind hi (Ev.bind he ?_)
  simp only [if_true, bne_self_eq_false]
  refine Ev.step (fun k => by rw [laws_FnExactPartsFor.j1]) ?_
  simp only [Bool.false_eq_true, if_false]
  refine Ev.bind hh ?_
  simp only [if_true, if_neg (show ¬ (1 + (r.length : Int) < 0) by omega)]
  exact Ev.now _

end Go.Proofs.Ytanebapjclkikaa.Pure
