/-
The pure statement of FnExactNewEdge is proved: for every number and string the program's NewEdge and the reference's NewEdge give one edge, and the list in it is the caller's own.
Conditions: the number is one of Go's kind int64, the string one that Go can hold. None besides.
-/
import Derived.Test.YtanebapjclkikaaPFnExactNewEdgex2
set_option linter.unusedVariables false
set_option linter.unusedSimpArgs false
namespace Go.Proofs.Ytanebapjclkikaa.Pure
open Go.RowKit Go.Proofs.Ytanebapjclkikaa.PFnExactNewEdge Go.Proofs.YtanebapjclkikaaW.PrintWords Go.Proofs.YtanebapjclkikaaW.PrintLast Go.Proofs.YtanebapjclkikaaW.PrintMore

theorem w64 {n : Int} (h0 : -9223372036854775808 ≤ n) (h1 : n ≤ 9223372036854775807) : wrap64 n = n := by unfold wrap64; omega
theorem rd_set (l : List Int) (i j v : Int) (h0 : 0 ≤ i) (h1 : i < l.length) (hj : 0 ≤ j) : rd (l.set i.toNat v) j = if j = i then v else rd l j := by
  unfold rd
  rw [List.getD_eq_getElem?_getD, List.getD_eq_getElem?_getD, List.getElem?_set]
  by_cases e : j = i
  · subst e; rw [if_pos rfl, if_pos (by omega), if_pos rfl]; rfl
  · rw [if_neg (by omega), if_neg e]
theorem rdOf_set {α : Type} (d : α) (l : List α) (i j : Int) (v : α) (h0 : 0 ≤ i) (h1 : i < l.length) (hj : 0 ≤ j) : rdOf d (l.set i.toNat v) j = if j = i then v else rdOf d l j := by
  unfold rdOf
  rw [List.getD_eq_getElem?_getD, List.getD_eq_getElem?_getD, List.getElem?_set]
  by_cases e : j = i
  · subst e; rw [if_pos rfl, if_pos (by omega), if_pos rfl]; rfl
  · rw [if_neg (by omega), if_neg e]

theorem eqStrs_l0 (l : List ByteArray) (hl : l.length < 4611686018427387904) (d : Nat) : ∀ (k : Nat) (i : Int), 0 ≤ i → (l.length : Int) - i = d → d < k → laws_eqStringS.l0 k l l i = some true := by
  induction d with
  | zero => intro k i h0 hd hk; obtain ⟨k, rfl⟩ : ∃ m, k = m + 1 := ⟨k - 1, by omega⟩; simp only [laws_eqStringS.l0]; rw [if_neg (by omega)]
  | succ d ih =>
    intro k i h0 hd hk
    obtain ⟨k, rfl⟩ : ∃ m, k = m + 1 := ⟨k - 1, by omega⟩
    simp only [laws_eqStringS.l0, if_true]
    rw [if_pos (by omega), if_pos h0, if_pos (by omega), w64 (by omega) (by omega)]
    exact ih k (i + 1) (by omega) (by omega) (by omega)
theorem eqStrs (l : List ByteArray) (hl : l.length < 4611686018427387904) : Ev (fun k => laws_eqStringS.f k l l) true :=
  ⟨l.length + 1, fun k hk => by simp only [laws_eqStringS.f, if_true]; exact eqStrs_l0 l hl l.length k 0 (by omega) (by omega) (by omega)⟩

theorem size_append (a b : ByteArray) : (a ++ b).size = a.size + b.size := by simp
theorem size_nums (l : List Int) : (strOfNums l).size = l.length := by simp [strOfNums, ByteArray.size]
theorem markText_l0 (d : Nat) : ∀ (k : Nat) (n : Int) (s : ByteArray), 0 ≤ n → n < 10 ^ d → n < 4611686018427387904 → d < k → s.size + d < 1000 → ∃ t, laws_markText.l0 k n s = some t := by
  induction d with
  | zero =>
    intro k n s h0 h1 _ hk hs
    obtain ⟨k, rfl⟩ : ∃ m, k = m + 1 := ⟨k - 1, by omega⟩
    simp only [laws_markText.l0]
    rw [if_neg (by omega), if_pos (by omega)]
    exact ⟨_, rfl⟩
  | succ d ih =>
    intro k n s h0 h1 hn hk hs
    obtain ⟨k, rfl⟩ : ∃ m, k = m + 1 := ⟨k - 1, by omega⟩
    simp only [laws_markText.l0, Option.bind_some]
    by_cases hp : n > 0
    · have hz := size_nums [(wrap64 (48 + (Int.tmod n 10))) % 256]
      rw [List.length_singleton] at hz
      rw [if_pos hp, if_pos (by omega), w64 (n := Int.tdiv n 10) (by rw [Int.tdiv_eq_ediv_of_nonneg h0]; omega) (by rw [Int.tdiv_eq_ediv_of_nonneg h0]; omega), Int.tdiv_eq_ediv_of_nonneg h0]
      exact ih k _ _ (by omega) (by rw [Int.pow_succ] at h1; omega) (by omega) (by omega) (by rw [size_append]; omega)
    · rw [if_neg hp, if_pos (by omega)]
      exact ⟨_, rfl⟩
theorem markText_some (n : Int) (h0 : 0 ≤ n) (h1 : n < 4611686018427387904) : ∃ t, ∀ k, 25 ≤ k → laws_markText.f k n = some t := by
  obtain ⟨t, ht⟩ : ∃ t, laws_markText.f 25 n = some t := by
    unfold laws_markText.f
    split
    · exact ⟨_, rfl⟩
    · exact markText_l0 19 25 n _ h0 (by omega) h1 (by omega) (by decide)
  exact ⟨t, fun k hk => at_rounds (fun k => laws_markText.mono n k) hk ht⟩
/-- The text of a mark. -/
def mText (n : Int) : ByteArray := (laws_markText.f 25 n).getD ByteArray.empty
theorem mText_is (n : Int) (h0 : 0 ≤ n) (h1 : n < 4611686018427387904) (k : Nat) (hk : 25 ≤ k) : laws_markText.f k n = some (mText n) := by
  obtain ⟨t, ht⟩ := markText_some n h0 h1
  rw [ht k hk]; unfold mText; rw [ht 25 (by omega)]; rfl

theorem markStrs_l0 (d : Nat) : ∀ (k : Nat) (l : List ByteArray) (m i : Int), 0 ≤ i → i ≤ l.length → (l.length : Int) - i = d → l.length < 2305843009213693952 → 0 ≤ m → m + d < 4611686018427387904 → d + 25 < k →
    ∃ l', laws_markStringS.l0 k l m i = some (m + d, l') ∧ l'.length = l.length ∧ (∀ j, 0 ≤ j → j < i → rdOf ByteArray.empty l' j = rdOf ByteArray.empty l j) ∧ ∀ j, i ≤ j → j < l.length → rdOf ByteArray.empty l' j = mText (m + (j - i)) := by
  induction d with
  | zero =>
    intro k l m i h0 hi hd hl hm hb hk
    obtain ⟨k, rfl⟩ : ∃ m, k = m + 1 := ⟨k - 1, by omega⟩
    exact ⟨l, by simp only [laws_markStringS.l0]; rw [if_neg (by omega)]; simp, rfl, fun _ _ _ => rfl, fun j _ _ => by omega⟩
  | succ d ih =>
    intro k l m i h0 hi hd hl hm hb hk
    obtain ⟨k, rfl⟩ : ∃ m, k = m + 1 := ⟨k - 1, by omega⟩
    obtain ⟨l', h1, h2, h3, h4⟩ := ih k (l.set i.toNat (mText m)) (m + 1) (i + 1) (by omega) (by simp; omega) (by simp; omega) (by simpa using hl) (by omega) (by omega) (by omega)
    refine ⟨l', ?_, by simpa using h2, ?_, ?_⟩
    · simp only [laws_markStringS.l0]
      rw [if_pos (by omega), mText_is m hm (by omega) k (by omega), Option.bind_some, if_pos h0, w64 (by omega) (by omega), w64 (by omega) (by omega), h1]
      congr 2; omega
    · intro j hj hji; rw [h3 j hj (by omega), rdOf_set _ _ _ _ _ h0 (by omega) hj, if_neg (by omega)]
    · intro j hij hjl
      by_cases e : j = i
      · subst e; rw [h3 j h0 (by omega), rdOf_set _ _ _ _ _ h0 (by omega) h0, if_pos rfl]; congr 1; omega
      · rw [h4 j (by omega) (by simpa using hjl)]; congr 1; omega
theorem heldStrs_l0 (l : List ByteArray) (hl : l.length < 2305843009213693952) (d : Nat) : ∀ (k : Nat) (m i : Int), 0 ≤ i → (l.length : Int) - i = d → 0 ≤ m → m + d < 4611686018427387904 → d + 25 < k →
    (∀ j, i ≤ j → j < l.length → rdOf ByteArray.empty l j = mText (m + (j - i))) → laws_heldStringS.l0 k l m i = some (m + d) := by
  induction d with
  | zero =>
    intro k m i h0 hd hm hb hk hj
    obtain ⟨k, rfl⟩ : ∃ m, k = m + 1 := ⟨k - 1, by omega⟩
    simp only [laws_heldStringS.l0]; rw [if_neg (by omega)]; simp
  | succ d ih =>
    intro k m i h0 hd hm hb hk hj
    obtain ⟨k, rfl⟩ : ∃ m, k = m + 1 := ⟨k - 1, by omega⟩
    simp only [laws_heldStringS.l0]
    rw [if_pos (by omega), if_pos h0, mText_is m hm (by omega) k (by omega), Option.bind_some, if_pos (by rw [hj i (by omega) (by omega)]; congr 2; omega), w64 (by omega) (by omega), w64 (by omega) (by omega), ih k (m + 1) (i + 1) (by omega) (by omega) (by omega) (by omega) (by omega) (fun j h1 h2 => by rw [hj j (by omega) h2]; congr 1; omega)]
    congr 1; omega
theorem markStrs (l : List ByteArray) (hl : l.length < 2305843009213693952) (m : Int) (hm : 0 ≤ m) (hm2 : m < 2305843009213693952) :
    ∃ l', Ev (fun k => laws_markStringS.f k l m) (m + l.length, l') ∧ l'.length = l.length ∧ Ev (fun k => laws_heldStringS.f k l' m) (m + l.length) := by
  obtain ⟨l', h1, h2, h3, h4⟩ := markStrs_l0 l.length (l.length + 26) l m 0 (by omega) (by omega) (by omega) (by omega) hm (by omega) (by omega)
  refine ⟨l', Ev.of (fun k => laws_markStringS.mono l m k) h1, h2, l'.length + 26, fun k hk => ?_⟩
  have := heldStrs_l0 l' (by omega) l'.length k m 0 (by omega) (by omega) hm (by omega) (by omega) (fun j a b => h4 j a (by omega))
  rw [h2] at this; exact this

theorem newEdge_j0 (a : Int) (s : ByteArray) (b : Bool) : ∀ k, impl_NewEdge.j0 k a s b = spec_NewEdge.j0 k a s b
  | 0 => rfl
  | k + 1 => by simp only [impl_NewEdge.j0, spec_NewEdge.j0]

theorem newEdge_same (a : Int) (s : ByteArray) (k : Nat) : impl_NewEdge.f k a s = spec_NewEdge.f k a s := by
  unfold impl_NewEdge.f spec_NewEdge.f spec_l1In.f impl_within.f impl_isDigest.f
  simp only [newEdge_j0, Option.bind_some, bne]

theorem newEdge_some (a : Int) (s : ByteArray) : ∃ (x : Int) (l : List ByteArray) (b : Bool), l.length < 2 ∧ Ev (fun k => spec_NewEdge.f k a s) (x, l, b) := by
  have hj : ∀ c, ∃ (x : Int) (l : List ByteArray) (b : Bool), l.length < 2 ∧ Ev (fun k => spec_NewEdge.j0 k a s c) (x, l, b) := by
    intro c
    cases c with
    | true => exact ⟨0, [], false, by simp, Ev.step (fun k => by rw [spec_NewEdge.j0, if_pos rfl]) (Ev.now _)⟩
    | false =>
      by_cases h : a = 0
      · exact ⟨0, [], true, by simp, Ev.step (fun k => by rw [spec_NewEdge.j0, if_neg (by simp), if_pos h]) (Ev.now _)⟩
      · exact ⟨a, [s], true, by simp, Ev.step (fun k => by rw [spec_NewEdge.j0, if_neg (by simp), if_neg h]) (Ev.now _)⟩
  unfold spec_NewEdge.f spec_l1In.f
  by_cases h2 : a ≥ 0
  · by_cases h20 : a ≤ 524288
    · simp only [h2, h20, if_true, decide_true, Option.bind_some]
      by_cases h3 : (Go.bits .and .i64 a (wrap64 (a - 1))) = 0
      · simp only [h3, if_true]; exact hj _
      · simp only [h3, if_false]; exact hj _
    · simp only [h2, h20, if_true, decide_false, Option.bind_some, Bool.false_eq_true, if_false]; exact hj _
  · simp only [h2, if_false, Option.bind_some, Bool.false_eq_true]; exact hj _

theorem eqEdge_refl (x : Int) (l : List ByteArray) (hl : l.length < 2) : Ev (fun k => laws_eqEdge.f k x l x l) true := by
  unfold laws_eqEdge.f
  simp only [if_true]
  refine Ev.bind (eqStrs l (by omega)) ?_
  simp only [if_true]
  exact Ev.now _

theorem FnExactNewEdge : laws_FnExactNewEdge.Pure := by
  intro a s _ _
  obtain ⟨x, l, b, hl, hs⟩ := newEdge_some a s
  have hi : Ev (fun k => impl_NewEdge.f k a s) (x, l, b) := by simpa only [newEdge_same] using hs
  have he := eqEdge_refl x l hl
  obtain ⟨l', hm, hl', hh⟩ := markStrs l (by omega) 1 (by omega) (by omega)
  have hm2 : Ev (fun k => laws_markEdge.f k x l 1) (1 + l.length, l') := by unfold laws_markEdge.f; exact Ev.bind hm (Ev.now _)
  have hh2 : Ev (fun k => laws_heldEdge.f k x l' 1) (1 + l.length) := by
    unfold laws_heldEdge.f
    refine Ev.bind hh ?_
    simp only [if_neg (show ¬ (1 + (l.length : Int) < 0) by omega)]
    exact Ev.now _
  apply Ev.rounds (g := fun k => laws_FnExactNewEdge.f k a s)
  unfold laws_FnExactNewEdge.f
  by_cases hz : (s.size : Int) > 1048576
  · simp only [hz, if_true]; exact Ev.now _
  simp only [hz, if_false]
  refine Ev.bind hs (Ev.bind hi (Ev.bind he ?_))
  simp only [if_true, bne_self_eq_false]
  refine Ev.step (fun k => by rw [laws_FnExactNewEdge.j0]) ?_
  simp only [Bool.false_eq_true, if_false]
  refine Ev.bind hm2 (Ev.bind hh2 ?_)
  simp only [if_true, if_neg (show ¬ (1 + (l.length : Int) < 0) by omega)]
  refine Ev.bind hi (Ev.bind he ?_)
  simp only [if_true, bne_self_eq_false]
  refine Ev.step (fun k => by rw [laws_FnExactNewEdge.j1]) ?_
  simp only [Bool.false_eq_true, if_false]
  refine Ev.bind hh2 ?_
  simp only [if_true, if_neg (show ¬ (1 + (l.length : Int) < 0) by omega)]
  exact Ev.now _

end Go.Proofs.Ytanebapjclkikaa.Pure
