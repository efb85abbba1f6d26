/-
The pure statement of FnExactGoodPairs is proved: for every list of pairs the program's GoodPairs and the reference's GoodPairs give one answer, and the list is not changed.
Conditions: the list and its strings are ones that Go can hold. None besides.
-/
import Derived.Test.YtanebapjclkikaaPFnExactGoodPairsx5
import Derived.Test.YtanebapjclkikaaPreFnExactGoodPairs
set_option linter.unusedVariables false
set_option linter.unusedSimpArgs false
namespace Go.Proofs.Ytanebapjclkikaa.Pure
open Go.RowKit Go.Proofs.Ytanebapjclkikaa.PFnExactGoodPairs Go.Proofs.YtanebapjclkikaaW.PrintWords Go.Proofs.YtanebapjclkikaaW.PrintLast Go.Proofs.YtanebapjclkikaaW.PrintMore

theorem w64 {n : Int} (h0 : -9223372036854775808 ≤ n) (h1 : n ≤ 9223372036854775807) : wrap64 n = n := by unfold wrap64; omega
theorem rd_set (l : List Int) (i j v : Int) (h0 : 0 ≤ i) (h1 : i < l.length) (hj : 0 ≤ j) : rd (l.set i.toNat v) j = if j = i then v else rd l j := by
  unfold rd
  rw [List.getD_eq_getElem?_getD, List.getD_eq_getElem?_getD, List.getElem?_set]
  by_cases e : j = i
  · subst e; rw [if_pos rfl, if_pos (by omega), if_pos rfl]; rfl
  · rw [if_neg (by omega), if_neg e]
theorem rdOf_set {α : Type} (d : α) (l : List α) (i j : Int) (v : α) (h0 : 0 ≤ i) (h1 : i < l.length) (hj : 0 ≤ j) : rdOf d (l.set i.toNat v) j = if j = i then v else rdOf d l j := by
  unfold rdOf
  rw [List.getD_eq_getElem?_getD, List.getD_eq_getElem?_getD, List.getElem?_set]
  by_cases e : j = i
  · subst e; rw [if_pos rfl, if_pos (by omega), if_pos rfl]; rfl
  · rw [if_neg (by omega), if_neg e]

theorem less_eq : ∀ (x y : List UInt8), Op.bytesLess x y = decide (x < y)
  | [], [] => by simp [Op.bytesLess]
  | _ :: _, [] => by simp [Op.bytesLess]
  | [], _ :: _ => by simp [Op.bytesLess]
  | a :: x, b :: y => by
    rw [Op.bytesLess, less_eq x y]
    simp only [List.cons_lt_cons_iff]
    by_cases h1 : a < b <;> by_cases h2 : a = b <;> by_cases h3 : x < y <;> simp [h1, h2, h3]
theorem lex_lt_of {a b : List UInt8} (h : ¬ a < b) (hne : ¬ a = b) : b < a := by
  rcases List.le_total a b with h1 | h1
  · exact absurd (Std.lt_of_le_of_ne h1 hne) h
  · exact Std.lt_of_le_of_ne h1 (Ne.symm hne)
/-- The texts of a list of strings. -/
def tl (l : List ByteArray) : List (List UInt8) := l.map ByteArray.toList
theorem tl_rd (l : List ByteArray) (i : Int) (h0 : 0 ≤ i) (h1 : i < l.length) : (tl l)[i.toNat]? = some (rdOf ByteArray.empty l i).toList := by
  have hi : i.toNat < l.length := by omega
  simp [tl, rdOf, List.getD_eq_getElem?_getD, hi]

theorem insert_sorted (L : List (List UInt8)) (i : Nat) (s : List UInt8) (hs : L.Pairwise (· < ·)) (hlt : ∀ a ∈ L.take i, a < s) (hgt : ∀ a ∈ L.drop i, s < a) :
    (L.take i ++ [s] ++ L.drop i).Pairwise (· < ·) ∧ s ∉ L ∧ (L.take i ++ [s] ++ L.drop i).Perm (s :: L) := by
  have hsplit : L.take i ++ L.drop i = L := List.take_append_drop i L
  refine ⟨?_, ?_, ?_⟩
  · rw [← hsplit, List.pairwise_append] at hs
    rw [List.append_assoc, List.pairwise_append]
    refine ⟨hs.1, ?_, ?_⟩
    · rw [List.singleton_append, List.pairwise_cons]; exact ⟨hgt, hs.2.1⟩
    · intro a ha b hb
      rw [List.singleton_append, List.mem_cons] at hb
      rcases hb with rfl | hb
      · exact hlt a ha
      · exact hs.2.2 a ha b hb
  · intro hm
    rw [← hsplit, List.mem_append] at hm
    rcases hm with hm | hm
    · exact List.lt_irrefl s (hlt s hm)
    · exact List.lt_irrefl s (hgt s hm)
  · rw [List.append_assoc, List.singleton_append]
    refine List.perm_middle.trans ?_
    rw [hsplit]
/-- Putting a text to its place in a rising list. -/
theorem put_l0 (x : List ByteArray) (s : ByteArray) (hx : x.length < 4000000000) (hs : (tl x).Pairwise (· < ·)) (d : Nat) : ∀ (k : Nat) (i : Int), 0 ≤ i → i ≤ x.length → (x.length : Int) - i = d → d < k → (∀ a ∈ (tl x).take i.toNat, a < s.toList) →
    ∃ r, spec_l10Put.l0 k x s i = some r ∧ (tl r).Pairwise (· < ·) ∧ (s.toList ∈ tl x → tl r = tl x) ∧ (s.toList ∉ tl x → (tl r).Perm (s.toList :: tl x)) := by
  have build : ∀ i : Int, 0 ≤ i → i ≤ x.length → (∀ a ∈ (tl x).take i.toNat, a < s.toList) → (∀ a ∈ (tl x).drop i.toNat, s.toList < a) →
      (tl (([] ++ x.take i.toNat ++ [s]) ++ x.drop i.toNat)).Pairwise (· < ·) ∧ (s.toList ∈ tl x → tl (([] ++ x.take i.toNat ++ [s]) ++ x.drop i.toNat) = tl x) ∧ (s.toList ∉ tl x → (tl (([] ++ x.take i.toNat ++ [s]) ++ x.drop i.toNat)).Perm (s.toList :: tl x)) := by
    intro i h0 hi hlt hgt
    have e : tl (([] ++ x.take i.toNat ++ [s]) ++ x.drop i.toNat) = (tl x).take i.toNat ++ [s.toList] ++ (tl x).drop i.toNat := by simp [tl, List.map_take, List.map_drop]
    rw [e]
    obtain ⟨h1, h2, h3⟩ := insert_sorted (tl x) i.toNat s.toList hs hlt hgt
    exact ⟨h1, fun h => absurd h h2, fun _ => h3⟩
  induction d with
  | zero =>
    intro k i h0 hi hd hk hlt
    obtain ⟨k, rfl⟩ : ∃ m, k = m + 1 := ⟨k - 1, by omega⟩
    have hgt : ∀ a ∈ (tl x).drop i.toNat, s.toList < a := by
      rw [List.drop_of_length_le (by simp [tl]; omega)]; intro a ha; cases ha
    obtain ⟨h1, h2, h3⟩ := build i h0 hi hlt hgt
    refine ⟨_, ?_, h1, h2, h3⟩
    simp only [spec_l10Put.l0, Option.bind_some]
    rw [if_neg (by omega), if_pos h0, if_pos hi, if_pos (by simp; omega), if_pos (by simp; omega), if_pos (by simp; omega)]
  | succ d ih =>
    intro k i h0 hi hd hk hlt
    obtain ⟨k, rfl⟩ : ∃ m, k = m + 1 := ⟨k - 1, by omega⟩
    have hrd := tl_rd x i h0 (by omega)
    simp only [spec_l10Put.l0, Option.bind_some]
    rw [if_pos (by omega), if_pos h0, w64 (by omega) (by omega), less_eq]
    by_cases h1 : (rdOf ByteArray.empty x i).toList < s.toList
    · rw [if_pos (by simpa using h1)]
      refine ih k (i + 1) (by omega) (by omega) (by omega) (by omega) (fun a ha => ?_)
      rw [show (i + 1).toNat = i.toNat + 1 by omega, List.take_add_one, hrd] at ha
      rcases List.mem_append.1 ha with ha | ha
      · exact hlt a ha
      · simp at ha; rw [ha]; exact h1
    · rw [if_neg (by simpa using h1)]
      by_cases h2 : (rdOf ByteArray.empty x i).toList = s.toList
      · rw [if_pos h2]
        have hm : s.toList ∈ tl x := by rw [← h2]; exact List.mem_of_getElem? hrd
        exact ⟨x, rfl, hs, fun _ => rfl, fun h => absurd hm h⟩
      · rw [if_neg h2]
        have hlt2 := lex_lt_of h1 h2
        have hgt : ∀ a ∈ (tl x).drop i.toNat, s.toList < a := by
          have hd2 : (tl x).drop i.toNat = (rdOf ByteArray.empty x i).toList :: (tl x).drop (i.toNat + 1) := by
            obtain ⟨hlt3, he⟩ := List.getElem?_eq_some_iff.1 hrd
            rw [← he]; exact List.drop_eq_getElem_cons hlt3
          intro a ha
          have hp : ((tl x).drop i.toNat).Pairwise (· < ·) := hs.sublist (List.drop_sublist _ _)
          rw [hd2] at ha hp
          rcases List.mem_cons.1 ha with rfl | ha
          · exact hlt2
          · exact List.lt_trans hlt2 ((List.pairwise_cons.1 hp).1 a ha)
        obtain ⟨h3, h4, h5⟩ := build i h0 hi hlt hgt
        refine ⟨_, ?_, h3, h4, h5⟩
        rw [if_pos hi, if_pos (by simp; omega), if_pos (by simp; omega), if_pos (by simp; omega)]
theorem put (x : List ByteArray) (s : ByteArray) (hx : x.length < 4000000000) (hs : (tl x).Pairwise (· < ·)) :
    ∃ r, Ev (fun k => spec_l10Put.f k x s) r ∧ (tl r).Pairwise (· < ·) ∧ (s.toList ∈ tl x → tl r = tl x) ∧ (s.toList ∉ tl x → (tl r).Perm (s.toList :: tl x)) := by
  obtain ⟨r, h1, h2⟩ := put_l0 x s hx hs x.length (x.length + 1) 0 (by omega) (by omega) (by omega) (by omega) (by simp)
  exact ⟨r, Ev.of (fun k => spec_l10Put.mono x s k) h1, h2⟩

theorem contains_l0 (x : List ByteArray) (s : ByteArray) (hx : x.length < 4000000000) (d : Nat) : ∀ (k : Nat) (i : Int), 0 ≤ i → i ≤ x.length → (x.length : Int) - i = d → d < k →
    ∃ r : Int, slices_Index_string_string.l0 k x s x.length i = some r ∧ (decide (r ≥ 0) = decide (s.toList ∈ (tl x).drop i.toNat)) := by
  induction d with
  | zero =>
    intro k i h0 hi hd hk
    obtain ⟨k, rfl⟩ : ∃ m, k = m + 1 := ⟨k - 1, by omega⟩
    refine ⟨-1, by simp only [slices_Index_string_string.l0]; rw [if_neg (by omega)], ?_⟩
    rw [List.drop_of_length_le (by simp [tl]; omega)]; simp
  | succ d ih =>
    intro k i h0 hi hd hk
    obtain ⟨k, rfl⟩ : ∃ m, k = m + 1 := ⟨k - 1, by omega⟩
    have hrd := tl_rd x i h0 (by omega)
    have hd2 : (tl x).drop i.toNat = (rdOf ByteArray.empty x i).toList :: (tl x).drop (i.toNat + 1) := by
      obtain ⟨hlt3, he⟩ := List.getElem?_eq_some_iff.1 hrd
      rw [← he]; exact List.drop_eq_getElem_cons hlt3
    simp only [slices_Index_string_string.l0]
    rw [if_pos (by omega), if_pos h0, if_pos (by omega), w64 (by omega) (by omega), hd2]
    by_cases h : s.toList = (rdOf ByteArray.empty x i).toList
    · exact ⟨i, by rw [if_pos h], by rw [h]; simp; omega⟩
    · rw [if_neg h]
      obtain ⟨r, h1, h2⟩ := ih k (i + 1) (by omega) (by omega) (by omega) (by omega)
      refine ⟨r, h1, ?_⟩
      rw [h2, show (i + 1).toNat = i.toNat + 1 by omega]
      simp [h]
theorem contains (x : List ByteArray) (s : ByteArray) (hx : x.length < 4000000000) : Ev (fun k => slices_Contains_string_string.f k x s) (decide (s.toList ∈ tl x)) := by
  obtain ⟨r, h1, h2⟩ := contains_l0 x s hx x.length (x.length + 1) 0 (by omega) (by omega) (by omega) (by omega)
  rw [show (tl x).drop (0 : Int).toNat = tl x by simp] at h2
  unfold slices_Contains_string_string.f
  rw [← h2]
  exact Ev.bind (Ev.of (fun k => slices_Index_string_string.mono x s k) h1) (Ev.now _)
/-- Is a pair among others? -/
def among (m : List S95) (a : ByteArray) (b : Int) : Bool := m.any fun y => a.toList == y.f0.toList && b == y.f1
theorem among_drop (m : List S95) (a : ByteArray) (b : Int) (i : Int) (h0 : 0 ≤ i) (h1 : i < m.length) : among (m.drop i.toNat) a b = (((a.toList == (rd_T95 m i).f0.toList) && (b == (rd_T95 m i).f1)) || among (m.drop (i + 1).toNat) a b) := by
  have hi : i.toNat < m.length := by omega
  have e : rd_T95 m i = m[i.toNat] := by simp [rd_T95, List.getD_eq_getElem?_getD, hi]
  unfold among
  rw [List.drop_eq_getElem_cons hi, show (i + 1).toNat = i.toNat + 1 by omega, List.any_cons, e]
theorem pairIn_l0 (m : List S95) (a : ByteArray) (b : Int) (hm : m.length < 4000000000) (d : Nat) : ∀ (k : Nat) (i : Int), 0 ≤ i → i ≤ m.length → (m.length : Int) - i = d → d < k →
    ∃ r : Int, impl_Pair_111.l0 k m m.length i a b = some r ∧ decide (r ≥ 0) = among (m.drop i.toNat) a b := by
  induction d with
  | zero =>
    intro k i h0 hi hd hk
    obtain ⟨k, rfl⟩ : ∃ m, k = m + 1 := ⟨k - 1, by omega⟩
    refine ⟨-1, by simp only [impl_Pair_111.l0]; rw [if_neg (by omega)], ?_⟩
    rw [List.drop_of_length_le (by omega)]; simp [among]
  | succ d ih =>
    intro k i h0 hi hd hk
    obtain ⟨k, rfl⟩ : ∃ m, k = m + 1 := ⟨k - 1, by omega⟩
    simp only [impl_Pair_111.l0]
    rw [if_pos (by omega), if_pos h0, if_pos (by omega), w64 (by omega) (by omega), among_drop m a b i h0 (by omega)]
    by_cases h : ((a.toList == (rd_T95 m i).f0.toList) && (b == (rd_T95 m i).f1)) = true
    · exact ⟨i, by rw [if_pos h], by rw [h]; simp; omega⟩
    · rw [if_neg h]
      obtain ⟨r, h1, h2⟩ := ih k (i + 1) (by omega) (by omega) (by omega) (by omega)
      refine ⟨r, h1, ?_⟩
      rw [h2]
      simp only [Bool.not_eq_true] at h
      rw [h]; simp
theorem pairIn (m : List S95) (a : ByteArray) (b : Int) (hm : m.length < 4000000000) : Ev (fun k => impl_Pair_99.f k m a b) (among m a b) := by
  obtain ⟨r, h1, h2⟩ := pairIn_l0 m a b hm m.length (m.length + 1) 0 (by omega) (by omega) (by omega) (by omega)
  rw [show m.drop (0 : Int).toNat = m by simp] at h2
  unfold impl_Pair_99.f
  rw [← h2]
  exact Ev.bind (Ev.of (fun k => impl_Pair_111.mono m a b k) h1) (Ev.now _)
/-- The reference's inner loop. -/
theorem inner (l : List S95) (kt : List ByteArray) (i : Int) (m : List S95) (a : ByteArray) (b : Int) (hm : m.length < 4000000000) (r : Bool)
    (hr : among m a b = true → r = false) (hn : among m a b = false → Ev (fun k => (spec_l10Put.f k kt a).bind fun t => spec_GoodPairs.l0 k l t l l.length (wrap64 (i + 1))) r) (d : Nat) :
    ∀ j : Int, 0 ≤ j → j ≤ m.length → (m.length : Int) - j = d → among (m.take j.toNat) a b = false → Ev (fun k => spec_GoodPairs.l1 k l kt l l.length i m m.length j a b) r := by
  have hsplit : ∀ n : Nat, among m a b = (among (m.take n) a b || among (m.drop n) a b) := fun n => by
    unfold among; rw [← List.any_append, List.take_append_drop]
  induction d with
  | zero =>
    intro j h0 hj hd hno
    refine Ev.step (fun k => by rw [spec_GoodPairs.l1, if_neg (by omega)]) (hn ?_)
    rw [hsplit j.toNat, hno, List.drop_of_length_le (by omega)]; rfl
  | succ d ih =>
    intro j h0 hj hd hno
    have had := among_drop m a b j h0 (by omega)
    by_cases h : ((a.toList == (rd_T95 m j).f0.toList) && (b == (rd_T95 m j).f1)) = true
    · have hf : among m a b = true := by rw [hsplit j.toNat, had, h]; simp
      rw [hr hf]
      exact Ev.step (fun k => by rw [spec_GoodPairs.l1, if_pos (by omega), if_pos h0, if_pos (by omega), if_pos h]) (Ev.now _)
    · have hw : wrap64 (j + 1) = j + 1 := w64 (by omega) (by omega)
      refine Ev.step (fun k => by rw [spec_GoodPairs.l1, if_pos (by omega), if_pos h0, if_pos (by omega), if_neg h, hw]) (ih (j + 1) (by omega) (by omega) (by omega) ?_)
      have hi : j.toNat < m.length := by omega
      rw [show (j + 1).toNat = j.toNat + 1 by omega, List.take_add_one]
      unfold among at hno ⊢
      rw [List.any_append, hno]
      simp only [Bool.not_eq_true] at h
      simpa [rd_T95, List.getD_eq_getElem?_getD, hi] using h
/-- Both checks of a list of pairs give one answer. -/
theorem pairs_l0 (l : List S95) (hl : l.length < 2000000000) (d : Nat) : ∀ (i : Int) (kt ks : List ByteArray), 0 ≤ i → i ≤ l.length → (l.length : Int) - i = d → (tl kt).Pairwise (· < ·) → (tl ks).Perm (tl kt) → (kt.length : Int) ≤ i →
    ∃ b : Bool, Ev (fun k => spec_GoodPairs.l0 k l kt l l.length i) b ∧ Ev (fun k => impl_arePairs.l0 k l ks l l.length i) b := by
  induction d with
  | zero =>
    intro i kt ks h0 hi hd hs hp hkl
    have hlen : ks.length = kt.length := by have := hp.length_eq; simpa [tl] using this
    by_cases h : (l.length : Int) ≤ 60
    · refine ⟨decide ((kt.length : Int) ≤ 20), Ev.step (fun k => by rw [spec_GoodPairs.l0, if_neg (by omega), if_pos h]) (Ev.now _), Ev.step (fun k => by rw [impl_arePairs.l0, if_neg (by omega), if_pos h, hlen]) (Ev.now _)⟩
    · exact ⟨false, Ev.step (fun k => by rw [spec_GoodPairs.l0, if_neg (by omega), if_neg h]) (Ev.now _), Ev.step (fun k => by rw [impl_arePairs.l0, if_neg (by omega), if_neg h]) (Ev.now _)⟩
  | succ d ih =>
    intro i kt ks h0 hi hd hs hp hkl
    have hlen : ks.length = kt.length := by have := hp.length_eq; simpa [tl] using this
    have hw : wrap64 (i + 1) = i + 1 := w64 (by omega) (by omega)
    generalize hq : rd_T95 l i = q
    have badS : Ev (fun k => spec_GoodPairs.j1 k l kt i l l.length i true q.f0 q.f1) false := Ev.step (fun k => by rw [spec_GoodPairs.j1, if_pos rfl]) (Ev.now _)
    have badI : Ev (fun k => impl_arePairs.j1 k l ks l l.length i true q.f0 q.f1) false := Ev.step (fun k => by rw [impl_arePairs.j1, if_pos rfl]) (Ev.now _)
    by_cases h4 : (q.f0.size : Int) = 4
    · by_cases ha : q.f1 ≥ 0 ∧ q.f1 ≤ 10000
      · have hsS : ∀ b, Ev (fun k => spec_GoodPairs.j1 k l kt i l l.length i false q.f0 q.f1) b → Ev (fun k => spec_GoodPairs.l0 k l kt l l.length i) b := by
          intro b hb
          refine Ev.step (fun k => by rw [spec_GoodPairs.l0, if_pos (by omega), if_pos h0, if_pos (by omega), hq, if_pos h4, spec_l1In.f, if_pos ha.1, decide_eq_true ha.2]; rfl) hb
        have hsI : ∀ b, Ev (fun k => impl_arePairs.j1 k l ks l l.length i (among (l.take i.toNat) q.f0 q.f1) q.f0 q.f1) b → Ev (fun k => impl_arePairs.l0 k l ks l l.length i) b := by
          intro b hb
          refine Ev.step (fun k => by rw [impl_arePairs.l0, if_pos (by omega), if_pos h0, if_pos (by omega), hq, if_pos h4, impl_within.f, if_pos ha.1, decide_eq_true ha.2]) ?_
          simp only [Option.bind_some, if_true, if_pos hi]
          exact Ev.bind (pairIn (l.take i.toNat) q.f0 q.f1 (by simp; omega)) hb
        have hj1 : ∀ r : Bool, (among (l.take i.toNat) q.f0 q.f1 = true → r = false) → (among (l.take i.toNat) q.f0 q.f1 = false → Ev (fun k => (spec_l10Put.f k kt q.f0).bind fun t => spec_GoodPairs.l0 k l t l l.length (wrap64 (i + 1))) r) →
            Ev (fun k => spec_GoodPairs.j1 k l kt i l l.length i false q.f0 q.f1) r := by
          intro r hr hn
          refine Ev.step (fun k => by rw [spec_GoodPairs.j1, if_neg (by simp), if_pos h0, if_pos hi]) ?_
          simp only [Option.bind_some]
          exact inner l kt i (l.take i.toNat) q.f0 q.f1 (by simp; omega) r hr hn (l.take i.toNat).length 0 (by omega) (by omega) (by omega) (by simp [among])
        cases hin : among (l.take i.toNat) q.f0 q.f1 with
        | true => exact ⟨false, hsS _ (hj1 false (fun _ => rfl) (fun h => by rw [hin] at h; cases h)), hsI _ (by rw [hin]; exact badI)⟩
        | false =>
          obtain ⟨kt', hput, hs', hmem, hnew⟩ := put kt q.f0 (by omega) hs
          have hc := contains ks q.f0 (by omega)
          have hmi : q.f0.toList ∈ tl ks ↔ q.f0.toList ∈ tl kt := hp.mem_iff
          by_cases hk : q.f0.toList ∈ tl kt
          · have hkt' : kt'.length = kt.length := by have := congrArg List.length (hmem hk); simpa [tl] using this
            obtain ⟨b, h1, h2⟩ := ih (i + 1) kt' ks (by omega) (by omega) (by omega) hs' (by rw [hmem hk]; exact hp) (by omega)
            refine ⟨b, hsS _ (hj1 b (fun h => by rw [hin] at h; cases h) (fun _ => Ev.bind hput (by rw [hw]; exact h1))), hsI _ ?_⟩
            rw [hin]
            refine Ev.step (fun k => by rw [impl_arePairs.j1, if_neg (by simp)]) (Ev.bind hc ?_)
            simp only [decide_eq_true (hmi.2 hk), if_true, hw]
            exact h2
          · have hkt' : kt'.length = kt.length + 1 := by have := (hnew hk).length_eq; simpa [tl] using this
            obtain ⟨b, h1, h2⟩ := ih (i + 1) kt' (ks ++ [q.f0]) (by omega) (by omega) (by omega) hs' (by
              have e : tl (ks ++ [q.f0]) = tl ks ++ [q.f0.toList] := by simp [tl]
              rw [e]
              exact (List.perm_append_singleton _ _).trans ((hp.cons _).trans (hnew hk).symm)) (by omega)
            refine ⟨b, hsS _ (hj1 b (fun h => by rw [hin] at h; cases h) (fun _ => Ev.bind hput (by rw [hw]; exact h1))), hsI _ ?_⟩
            rw [hin]
            refine Ev.step (fun k => by rw [impl_arePairs.j1, if_neg (by simp)]) (Ev.bind hc ?_)
            simp only [decide_eq_false (fun h => hk (hmi.1 h)), Bool.false_eq_true, if_false, hw]
            simp only [if_pos (show ks.length < 8796093022208 by omega)]
            exact h2
      · have hf : (if q.f1 ≥ 0 then some (decide (q.f1 ≤ 10000)) else some false) = some false := by
          split
          · rw [decide_eq_false (fun h => ha ⟨by assumption, h⟩)]
          · rfl
        refine ⟨false, Ev.step (fun k => by rw [spec_GoodPairs.l0, if_pos (by omega), if_pos h0, if_pos (by omega), hq, if_pos h4, spec_l1In.f, hf]; rfl) badS, Ev.step (fun k => by rw [impl_arePairs.l0, if_pos (by omega), if_pos h0, if_pos (by omega), hq, if_pos h4, impl_within.f, hf, Option.bind_some, if_neg (by simp)]) badI⟩
    · exact ⟨false, Ev.step (fun k => by rw [spec_GoodPairs.l0, if_pos (by omega), if_pos h0, if_pos (by omega), hq, if_neg h4]) badS, Ev.step (fun k => by rw [impl_arePairs.l0, if_pos (by omega), if_pos h0, if_pos (by omega), hq, if_neg h4]) badI⟩
theorem goodPairs (l : List S95) (hl : l.length < 2000000000) : ∃ b, Ev (fun k => spec_GoodPairs.f k l) b ∧ Ev (fun k => impl_arePairs.f k l) b :=
  pairs_l0 l hl l.length 0 [] [] (by omega) (by omega) (by omega) (by simp [tl]) (by simp [tl]) (by simp)

/-- A pair of the law's own type, as one of the program's. -/
def toP (x : S94) : S95 := ⟨x.f0, x.f1⟩
theorem szPairs_l0 (l : List S94) (hl : l.length < 4000000000) (hs : ∀ x ∈ l, x.f0.size ≤ 140737488351232) (d : Nat) : ∀ (k : Nat) (n i : Int), 0 ≤ n → n ≤ 1048576 → 0 ≤ i → i ≤ l.length → (l.length : Int) - i = d → d < k → ∃ r, laws_szPairS.l0 k l n i = some r ∧ r ≤ n := by
  induction d with
  | zero =>
    intro k n i hn hn2 h0 hi hd hk
    obtain ⟨k, rfl⟩ : ∃ m, k = m + 1 := ⟨k - 1, by omega⟩
    exact ⟨n, by simp only [laws_szPairS.l0]; rw [if_neg (by omega)], by omega⟩
  | succ d ih =>
    intro k n i hn hn2 h0 hi hd hk
    obtain ⟨k, rfl⟩ : ∃ m, k = m + 1 := ⟨k - 1, by omega⟩
    have hm : rd_T94 l i ∈ l := by
      have hi' : i.toNat < l.length := by omega
      simp [rd_T94, List.getD_eq_getElem?_getD, hi']
    have hz := hs _ hm
    simp only [laws_szPairS.l0, laws_szPair.f]
    rw [if_pos (by omega), if_pos h0, w64 (n := i + 1) (by omega) (by omega), w64 (n := n - _) (by omega) (by omega)]
    split
    · exact ⟨-1, by simp, by omega⟩
    · simp only [Option.bind_some]
      split
      · exact ⟨_, rfl, by omega⟩
      · obtain ⟨r, h1, h2⟩ := ih k (n - ((rd_T94 l i).f0.size : Int)) (i + 1) (by omega) (by omega) (by omega) (by omega) (by omega) (by omega)
        exact ⟨r, h1, by omega⟩
theorem szPairs (l : List S94) (hl : l.length * 24 ≤ 140737488351232) (hs : ∀ x ∈ l, x.f0.size ≤ 140737488351232) (m : Int) (hm0 : 0 ≤ m) (hm : m ≤ 1048576) :
    ∃ r, Ev (fun k => laws_szPairS.f k l m) r ∧ r ≤ m ∧ (¬ r < 0 → l.length ≤ 1048576) := by
  unfold laws_szPairS.f
  have hw : wrap64 (m - (l.length : Int)) = m - l.length := w64 (by omega) (by omega)
  rw [hw]
  by_cases h : m - (l.length : Int) < 0
  · simp only [h, if_true]; exact ⟨-1, Ev.now _, by omega, fun h => absurd (by decide) h⟩
  · simp only [h, if_false]
    obtain ⟨r, hr, hr2⟩ := szPairs_l0 l (by omega) hs l.length (l.length + 1) (m - l.length) 0 (by omega) (by omega) (by omega) (by omega) (by omega) (by omega)
    exact ⟨r, Ev.of (fun k => laws_szPairS.mono_l k l _ 0) hr, by omega, fun _ => by omega⟩
theorem toPairs_l0 (l : List S94) (hl : l.length < 4611686018427387904) (d : Nat) : ∀ (k : Nat) (m : List S95) (i : Int), 0 ≤ i → i ≤ l.length → (l.length : Int) - i = d → d < k → m.length = l.length → m.take i.toNat = (l.map toP).take i.toNat → laws_toPairS.l0 k l m i = some (l.map toP) := by
  induction d with
  | zero =>
    intro k m i h0 hi hd hk hm hj
    obtain ⟨k, rfl⟩ : ∃ m, k = m + 1 := ⟨k - 1, by omega⟩
    simp only [laws_toPairS.l0]
    rw [List.take_of_length_le (by omega), List.take_of_length_le (by simp; omega)] at hj
    rw [if_neg (by omega), hj]
  | succ d ih =>
    intro k m i h0 hi hd hk hm hj
    obtain ⟨k, rfl⟩ : ∃ m, k = m + 1 := ⟨k - 1, by omega⟩
    simp only [laws_toPairS.l0, laws_toPair.f, Option.bind_some]
    rw [if_pos (by omega), if_pos h0, if_pos (by omega), w64 (by omega) (by omega)]
    have hi' : i.toNat < l.length := by omega
    refine ih k _ (i + 1) (by omega) (by omega) (by omega) (by omega) (by simpa using hm) ?_
    rw [show (i + 1).toNat = i.toNat + 1 by omega, List.take_add_one, List.take_add_one, List.take_set_of_le (Nat.le_refl _), hj]
    simp [rd_T94, toP, List.getD_eq_getElem?_getD, hi', show i.toNat < m.length by omega]
theorem toPairs (l : List S94) (hl : l.length ≤ 5864062014805) : Ev (fun k => laws_toPairS.f k l) (l.map toP) :=
  ⟨l.length + 1, fun k hk => by
    simp only [laws_toPairS.f]
    rw [if_pos (by omega), if_pos (by omega)]
    exact toPairs_l0 l (by omega) l.length k _ 0 (by omega) (by omega) (by omega) (by omega) (by simp) (by simp)⟩
theorem eqPairs_l0 (l : List S95) (hl : l.length < 4611686018427387904) (d : Nat) : ∀ (k : Nat) (i : Int), 0 ≤ i → (l.length : Int) - i = d → d < k → laws_eqPairS.l0 k l l i = some true := by
  induction d with
  | zero => intro k i h0 hd hk; obtain ⟨k, rfl⟩ : ∃ m, k = m + 1 := ⟨k - 1, by omega⟩; simp only [laws_eqPairS.l0]; rw [if_neg (by omega)]
  | succ d ih =>
    intro k i h0 hd hk
    obtain ⟨k, rfl⟩ : ∃ m, k = m + 1 := ⟨k - 1, by omega⟩
    simp only [laws_eqPairS.l0, laws_eqPair.f, if_true, Option.bind_some]
    rw [if_pos (by omega), if_pos h0, if_pos (by omega), w64 (by omega) (by omega)]
    exact ih k (i + 1) (by omega) (by omega) (by omega)
theorem eqPairs (l : List S95) (hl : l.length < 4611686018427387904) : Ev (fun k => laws_eqPairS.f k l l) true :=
  ⟨l.length + 1, fun k hk => by simp only [laws_eqPairS.f, if_true]; exact eqPairs_l0 l hl l.length k 0 (by omega) (by omega) (by omega)⟩

theorem FnExactGoodPairs : laws_FnExactGoodPairs.Pure := by
  intro l ⟨hl, hf⟩
  obtain ⟨n, hn, _, hlen⟩ := szPairs l hl (fun x hx => (hf x hx).1) 1048576 (by omega) (by omega)
  apply Ev.rounds (g := fun k => laws_FnExactGoodPairs.f k l)
  unfold laws_FnExactGoodPairs.f
  refine Ev.bind hn ?_
  by_cases h : n < 0
  · simp only [h, if_true]; exact Ev.now _
  have hlen := hlen h
  obtain ⟨b, hs, hi⟩ := goodPairs (l.map toP) (by simp; omega)
  have ht := toPairs l (by omega)
  have he := eqPairs (l.map toP) (by simp; omega)
  have hg : Ev (fun k => impl_GoodPairs.f k (l.map toP)) b := by unfold impl_GoodPairs.f; exact Ev.bind hi (Ev.now _)
  simp only [h, if_false]
  refine Ev.bind ht (Ev.bind hs (Ev.bind ht (Ev.bind hg ?_)))
  simp only [bne_self_eq_false, Bool.false_eq_true, if_false]
  refine Ev.bind ht (Ev.bind he ?_)
  simp only [if_true]; exact Ev.now _

end Go.Proofs.Ytanebapjclkikaa.Pure
