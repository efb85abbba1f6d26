/-
The pure statement of FnExactWithField is proved: for all rows and keys that Go can hold, the program's WithField and the reference's answer alike, the rows read afterwards as before, and the answer lies in memory of its own.
Conditions: the arguments are two slices and a text that Go can hold. None besides.
-/
import Derived.Test.YtkfbdopfeacnfaaDoorPFnExactWithFieldx14
import Derived.Test.YtkfbdopfeacnfaaDoorPreFnExactWithField
set_option linter.unusedVariables false
set_option linter.unusedSimpArgs false
namespace Go.Proofs.YtkfbdopfeacnfaaDoor.Pure
open Go.RowKit Go.Proofs.YtkfbdopfeacnfaaDoor.PFnExactWithField Go.Proofs.YtkfbdopfeacnfaaDoorW.PrintWords Go.Proofs.YtkfbdopfeacnfaaDoorW.PrintLast Go.Proofs.YtkfbdopfeacnfaaDoorW.PrintMore

theorem w64 {n : Int} (h0 : -9223372036854775808 ≤ n) (h1 : n ≤ 9223372036854775807) : wrap64 n = n := by unfold wrap64; omega
def toN (x : S64) : S61 := ⟨x.f0, x.f1, x.f2, x.f3, x.f4⟩
theorem szNodes_l0 (l : List S64) (hl : l.length < 4000000000) (hs : ∀ x ∈ l, x.f0.size ≤ 140737488351232 ∧ x.f3.size ≤ 140737488351232) (d : Nat) : ∀ (k : Nat) (n i : Int), 0 ≤ n → n ≤ 1048576 → 0 ≤ i → i ≤ l.length → (l.length : Int) - i = d → d < k →
  ∃ r, laws_szNodeS.l0 k l n i = some r ∧ r ≤ n ∧ (¬ r < 0 → ∀ x ∈ l.drop i.toNat, x.f0.size ≤ 1048576 ∧ x.f3.size ≤ 1048576) := by
 induction d with
 | zero =>
  intro k n i hn hn2 h0 hi hd hk
  obtain ⟨k, rfl⟩ : ∃ m, k = m + 1 := ⟨k - 1, by omega⟩
  refine ⟨n, by simp only [laws_szNodeS.l0]; rw [if_neg (by omega)], Int.le_refl _, fun _ => ?_⟩
  rw [List.drop_of_length_le (by omega)]
  intro x hx; cases hx
 | succ d ih =>
  intro k n i hn hn2 h0 hi hd hk
  obtain ⟨k, rfl⟩ : ∃ m, k = m + 1 := ⟨k - 1, by omega⟩
  have hi' : i.toNat < l.length := by omega
  have he : rd_T64 l i = l[i.toNat] := by simp [rd_T64, List.getD_eq_getElem?_getD, hi']
  have hz := hs _ (List.getElem_mem hi')
  simp only [laws_szNodeS.l0, laws_szNode.f, he]
  rw [if_pos (by omega), if_pos h0, w64 (n := i + 1) (by omega) (by omega), w64 (n := n - (l[i.toNat].f0.size : Int)) (by omega) (by omega)]
  by_cases h1 : n - (l[i.toNat].f0.size : Int) < 0
  ·rw [if_pos h1]; exact ⟨-1, rfl, by omega, fun h => absurd (by decide) h⟩
  rw [if_neg h1, w64 (n := n - (l[i.toNat].f0.size : Int) - (l[i.toNat].f3.size : Int)) (by omega) (by omega)]
  by_cases h2 : n - (l[i.toNat].f0.size : Int) - (l[i.toNat].f3.size : Int) < 0
  ·rw [if_pos h2]; exact ⟨-1, rfl, by omega, fun h => absurd (by decide) h⟩
  rw [if_neg h2]
  simp only [Option.bind_some, h2, if_false]
  obtain ⟨r, e1, e3, e2⟩ := ih k (n - (l[i.toNat].f0.size : Int) - (l[i.toNat].f3.size : Int)) (i + 1) (by omega) (by omega) (by omega) (by omega) (by omega) (by omega)
  refine ⟨r, e1, by omega, fun h => ?_⟩
  have := e2 h
  rw [show (i + 1).toNat = i.toNat + 1 by omega] at this
  rw [List.drop_eq_getElem_cons hi']
  intro x hx
  rcases List.mem_cons.1 hx with rfl | hx
  ·omega
  ·exact this x hx
theorem z103 (l : List S64) (hl : l.length * 56 ≤ 140737488351232) (hs : ∀ x ∈ l, x.f0.size ≤ 140737488351232 ∧ x.f3.size ≤ 140737488351232) (m : Int) (hm0 : 0 ≤ m) (hm : m ≤ 1048576) :
  ∃ r, Ev (fun k => laws_szNodeS.f k l m) r ∧ r ≤ m ∧ (¬ r < 0 → l.length ≤ 1048576 ∧ ∀ x ∈ l, x.f0.size ≤ 1048576 ∧ x.f3.size ≤ 1048576) := by
 unfold laws_szNodeS.f
 have hw : wrap64 (m - (l.length : Int)) = m - l.length := w64 (by omega) (by omega)
 rw [hw]
 by_cases h : m - (l.length : Int) < 0
 ·simp only [h, if_true]; exact ⟨-1, Ev.now _, by omega, fun h => absurd (by decide) h⟩
 ·simp only [h, if_false]
  obtain ⟨r, hr, hr3, hr2⟩ := szNodes_l0 l (by omega) hs l.length (l.length + 1) (m - l.length) 0 (by omega) (by omega) (by omega) (by omega) (by omega) (by omega)
  refine ⟨r, Ev.of (fun k => laws_szNodeS.mono_l k l _ 0) hr, by omega, fun h2 => ⟨by omega, ?_⟩⟩
  have := hr2 h2
  simpa using this
theorem szNodes (l : List S64) (hl : l.length * 56 ≤ 140737488351232) (hs : ∀ x ∈ l, x.f0.size ≤ 140737488351232 ∧ x.f3.size ≤ 140737488351232) (m : Int) (hm0 : 0 ≤ m) (hm : m ≤ 1048576) :
  ∃ r, Ev (fun k => laws_szNodeS.f k l m) r ∧ (¬ r < 0 → l.length ≤ 1048576 ∧ ∀ x ∈ l, x.f0.size ≤ 1048576 ∧ x.f3.size ≤ 1048576) :=
 let ⟨r, h1, _, h2⟩ := z103 l hl hs m hm0 hm; ⟨r, h1, h2⟩
theorem toNodes_l0 (l : List S64) (hl : l.length < 4611686018427387904) (d : Nat) : ∀ (k : Nat) (m : List S61) (i : Int), 0 ≤ i → i ≤ l.length → (l.length : Int) - i = d → d < k → m.length = l.length → m.take i.toNat = (l.map toN).take i.toNat → laws_toNodeS.l0 k l m i = some (l.map toN) := by
 induction d with
 | zero =>
  intro k m i h0 hi hd hk hm hj
  obtain ⟨k, rfl⟩ : ∃ m, k = m + 1 := ⟨k - 1, by omega⟩
  simp only [laws_toNodeS.l0]
  rw [List.take_of_length_le (by omega), List.take_of_length_le (by simp; omega)] at hj
  rw [if_neg (by omega), hj]
 | succ d ih =>
  intro k m i h0 hi hd hk hm hj
  obtain ⟨k, rfl⟩ : ∃ m, k = m + 1 := ⟨k - 1, by omega⟩
  have hi' : i.toNat < l.length := by omega
  have he : rd_T64 l i = l[i.toNat] := by simp [rd_T64, List.getD_eq_getElem?_getD, hi']
  simp only [laws_toNodeS.l0, laws_toNode.f, he, Option.bind_some]
  rw [if_pos (by omega), if_pos h0, if_pos (by omega), w64 (by omega) (by omega)]
  refine ih k _ (i + 1) (by omega) (by omega) (by omega) (by omega) (by simpa using hm) ?_
  rw [show (i + 1).toNat = i.toNat + 1 by omega, List.take_add_one, List.take_add_one, List.take_set_of_le (Nat.le_refl _), hj]
  simp [toN, hi', show i.toNat < m.length by omega]
theorem toNodes (l : List S64) (hl : l.length ≤ 1048576) : Ev (fun k => laws_toNodeS.f k l) (l.map toN) :=
 ⟨l.length + 1, fun k hk => by
  simp only [laws_toNodeS.f]
  rw [if_pos (by omega), if_pos (by omega)]
  exact toNodes_l0 l (by omega) l.length k _ 0 (by omega) (by omega) (by omega) (by omega) (by simp) (by simp)⟩
theorem eqNodes_l0 (l : List S61) (hl : l.length < 4611686018427387904) (d : Nat) : ∀ (k : Nat) (i : Int), 0 ≤ i → i ≤ l.length → (l.length : Int) - i = d → d < k → laws_eqNodeS.l0 k l l i = some true := by
 induction d with
 | zero =>
  intro k i h0 hi hd hk
  obtain ⟨k, rfl⟩ : ∃ m, k = m + 1 := ⟨k - 1, by omega⟩
  simp only [laws_eqNodeS.l0]
  rw [if_neg (by omega)]
 | succ d ih =>
  intro k i h0 hi hd hk
  obtain ⟨k, rfl⟩ : ∃ m, k = m + 1 := ⟨k - 1, by omega⟩
  simp only [laws_eqNodeS.l0, laws_eqNode.f, if_true, Option.bind_some]
  rw [if_pos (by omega), if_pos h0, if_pos (by omega), w64 (by omega) (by omega)]
  exact ih k (i + 1) (by omega) (by omega) (by omega) (by omega)
theorem z95 (l : List S61) (hl : l.length ≤ 1048576) : Ev (fun k => laws_eqNodeS.f k l l) true :=
 ⟨l.length + 1, fun k hk => by
  simp only [laws_eqNodeS.f, if_true]
  exact eqNodes_l0 l (by omega) l.length k 0 (by omega) (by omega) (by omega) (by omega)⟩
theorem z55 (a b : ByteArray) : (a ++ b).size = a.size + b.size := by simp
theorem z81 (l : List Int) : (strOfNums l).size = l.length := by simp [strOfNums, ByteArray.size]
theorem z94 (d : Nat) : ∀ (k : Nat) (n : Int) (s : ByteArray), 0 ≤ n → n < 10 ^ d → n < 4611686018427387904 → d < k → s.size + d < 1000 → ∃ t, laws_markText.l0 k n s = some t := by
 induction d with
 | zero =>
  intro k n s h0 h1 _ hk hs
  obtain ⟨k, rfl⟩ : ∃ m, k = m + 1 := ⟨k - 1, by omega⟩
  simp only [laws_markText.l0]
  rw [if_neg (by omega), if_pos (by omega)]
  exact ⟨_, rfl⟩
 | succ d ih =>
  intro k n s h0 h1 hn hk hs
  obtain ⟨k, rfl⟩ : ∃ m, k = m + 1 := ⟨k - 1, by omega⟩
  simp only [laws_markText.l0, Option.bind_some]
  by_cases hp : n > 0
  ·have hz := z81 [(wrap64 (48 + (Int.tmod n 10))) % 256]
   rw [List.length_singleton] at hz
   rw [if_pos hp, if_pos (by omega), w64 (n := Int.tdiv n 10) (by rw [Int.tdiv_eq_ediv_of_nonneg h0]; omega) (by rw [Int.tdiv_eq_ediv_of_nonneg h0]; omega), Int.tdiv_eq_ediv_of_nonneg h0]
   exact ih k _ _ (by omega) (by rw [Int.pow_succ] at h1; omega) (by omega) (by omega) (by rw [z55]; omega)
  ·rw [if_neg hp, if_pos (by omega)]
   exact ⟨_, rfl⟩
theorem z71 (n : Int) (h0 : 0 ≤ n) (h1 : n < 4611686018427387904) : ∃ t, ∀ k, 25 ≤ k → laws_markText.f k n = some t := by
 obtain ⟨t, ht⟩ : ∃ t, laws_markText.f 25 n = some t := by
  unfold laws_markText.f
  split
  ·exact ⟨_, rfl⟩
  ·exact z94 19 25 n _ h0 (by omega) h1 (by omega) (by decide)
 exact ⟨t, fun k hk => at_rounds (fun k => laws_markText.mono n k) hk ht⟩
def mText (n : Int) : ByteArray := (laws_markText.f 25 n).getD ByteArray.empty
theorem z45 (n : Int) (h0 : 0 ≤ n) (h1 : n < 4611686018427387904) (k : Nat) (hk : 25 ≤ k) : laws_markText.f k n = some (mText n) := by
 obtain ⟨t, ht⟩ := z71 n h0 h1
 rw [ht k hk]; unfold mText; rw [ht 25 (by omega)]; rfl
def z82 (m : Int) : S61 := ⟨mText m, m + 1, m + 2, mText (m + 3), m + 4⟩
theorem rdN_set (l : List S61) (i j : Int) (v : S61) (h0 : 0 ≤ i) (h1 : i < l.length) (hj : 0 ≤ j) : rd_T61 (l.set i.toNat v) j = if j = i then v else rd_T61 l j := by
 unfold rd_T61
 rw [List.getD_eq_getElem?_getD, List.getD_eq_getElem?_getD, List.getElem?_set]
 by_cases e : j = i
 ·subst e; rw [if_pos rfl, if_pos (by omega), if_pos rfl]; rfl
 ·rw [if_neg (by omega), if_neg e]
theorem z40 (d : Nat) : ∀ (k : Nat) (l : List S61) (m i : Int), 0 ≤ i → i ≤ l.length → (l.length : Int) - i = d → l.length < 1152921504606846 → 0 ≤ m → m + 5 * d < 2305843009213693 → d + 25 < k →
  ∃ l', laws_markNodeS.l0 k l m i = some (m + 5 * d, l') ∧ l'.length = l.length ∧ (∀ j, 0 ≤ j → j < i → rd_T61 l' j = rd_T61 l j) ∧ ∀ j, i ≤ j → j < l.length → rd_T61 l' j = z82 (m + 5 * (j - i)) := by
 induction d with
 | zero =>
  intro k l m i h0 hi hd hl hm hb hk
  obtain ⟨k, rfl⟩ : ∃ m, k = m + 1 := ⟨k - 1, by omega⟩
  exact ⟨l, by simp only [laws_markNodeS.l0]; rw [if_neg (by omega)]; simp, rfl, fun _ _ _ => rfl, fun j _ _ => by omega⟩
 | succ d ih =>
  intro k l m i h0 hi hd hl hm hb hk
  obtain ⟨k, rfl⟩ : ∃ m, k = m + 1 := ⟨k - 1, by omega⟩
  obtain ⟨l', h1, h2, h3, h4⟩ := ih k (l.set i.toNat (z82 m)) (m + 5) (i + 1) (by omega) (by simp; omega) (by simp; omega) (by simpa using hl) (by omega) (by omega) (by omega)
  have hs : ∀ v, rd_T61 (l.set i.toNat v) i = v := fun v => by rw [rdN_set l i i v h0 (by omega) h0, if_pos rfl]
  refine ⟨l', ?_, by simpa using h2, ?_, ?_⟩
  ·simp only [laws_markNodeS.l0]
   rw [if_pos (by omega), w64 (n := m + 1) (by omega) (by omega), w64 (n := m + 1 + 1) (by omega) (by omega), w64 (n := m + 1 + 1 + 1) (by omega) (by omega), w64 (n := m + 1 + 1 + 1 + 1) (by omega) (by omega), w64 (n := m + 1 + 1 + 1 + 1 + 1) (by omega) (by omega), w64 (n := i + 1) (by omega) (by omega), z45 m hm (by omega) k (by omega), Option.bind_some, if_pos h0]
   simp only [Option.bind_some]
   rw [z45 (m + 1 + 1 + 1) (by omega) (by omega) k (by omega)]
   simp only [Option.bind_some, List.set_set, hs]
   rw [show (⟨mText m, m + 1, m + 1 + 1, mText (m + 1 + 1 + 1), m + 1 + 1 + 1 + 1⟩ : S61) = z82 m by
    unfold z82; rw [show m + 1 + 1 = m + 2 by omega, show m + 2 + 1 = m + 3 by omega, show m + 3 + 1 = m + 4 by omega], show m + 1 + 1 + 1 + 1 + 1 = m + 5 by omega, h1]
   congr 2; omega
  ·intro j hj hji; rw [h3 j hj (by omega), rdN_set _ _ _ _ h0 (by omega) hj, if_neg (by omega)]
  ·intro j hij hjl
   by_cases e : j = i
   ·subst e; rw [h3 j h0 (by omega), hs]; congr 1; omega
   ·rw [h4 j (by omega) (by simpa using hjl)]; congr 1; omega
theorem markNodes (l : List S61) (hl : l.length < 100000000000000) :
  ∃ l', Ev (fun k => laws_markNodeS.f k l 1) (1 + 5 * (l.length : Int), l') ∧ l'.length = l.length ∧ ∀ j : Int, 0 ≤ j → j < l'.length → rd_T61 l' j = z82 (1 + 5 * j) := by
 obtain ⟨l', h1, h2, h3, h4⟩ := z40 l.length (l.length + 26) l 1 0 (by omega) (by omega) (by omega) (by omega) (by omega) (by omega) (by omega)
 refine ⟨l', Ev.of (fun k => laws_markNodeS.mono l 1 k) h1, h2, fun j a b => ?_⟩
 rw [h4 j a (by omega)]
 congr 1; omega
theorem z36 (l : List S61) (hl : l.length < 100000000) (m : Int) (h0 : 0 ≤ m) (hm : m < 1000000000000) :
  ∃ l', Ev (fun k => laws_markNodeS.f k l m) (m + 5 * (l.length : Int), l') := by
 obtain ⟨l', h1, _⟩ := z40 l.length (l.length + 26) l m 0 (by omega) (by omega) (by omega) (by omega) (by omega) (by omega) (by omega)
 exact ⟨l', Ev.of (fun k => laws_markNodeS.mono l m k) h1⟩
theorem z85 (l : List S61) (hl : l.length < 100000000000000) (hj : ∀ j : Int, 0 ≤ j → j < l.length → rd_T61 l j = z82 (1 + 5 * j)) (d : Nat) : ∀ (k : Nat) (i : Int), 0 ≤ i → (l.length : Int) - i = d → d + 25 < k →
  laws_heldNodeS.l0 k l (1 + 5 * i) i = some (1 + 5 * (l.length : Int)) := by
 induction d with
 | zero =>
  intro k i h0 hd hk
  obtain ⟨k, rfl⟩ : ∃ m, k = m + 1 := ⟨k - 1, by omega⟩
  simp only [laws_heldNodeS.l0]; rw [if_neg (by omega)]; congr 1; omega
 | succ d ih =>
  intro k i h0 hd hk
  obtain ⟨k, rfl⟩ : ∃ m, k = m + 1 := ⟨k - 1, by omega⟩
  obtain ⟨m, hm⟩ : ∃ m, m = 1 + 5 * i := ⟨_, rfl⟩
  simp only [laws_heldNodeS.l0]
  rw [if_pos (by omega), if_pos h0, hj i h0 (by omega), ← hm, w64 (n := m + 1) (by omega) (by omega), w64 (n := m + 1 + 1) (by omega) (by omega), w64 (n := m + 1 + 1 + 1) (by omega) (by omega), w64 (n := m + 1 + 1 + 1 + 1) (by omega) (by omega), w64 (n := m + 1 + 1 + 1 + 1 + 1) (by omega) (by omega), w64 (n := i + 1) (by omega) (by omega), z45 m (by omega) (by omega) k (by omega), Option.bind_some]
  rw [show m + 1 + 1 = m + 2 by omega, show m + 2 + 1 = m + 3 by omega, show m + 3 + 1 = m + 4 by omega, show m + 4 + 1 = m + 5 by omega, z45 (m + 3) (by omega) (by omega) k (by omega), Option.bind_some]
  unfold z82
  simp only [if_true]
  have := ih k (i + 1) (by omega) (by omega) (by omega)
  rwa [show 1 + 5 * (i + 1) = m + 5 by omega] at this
theorem heldNodes (l : List S61) (hl : l.length < 100000000000000) (hj : ∀ j : Int, 0 ≤ j → j < l.length → rd_T61 l j = z82 (1 + 5 * j)) : Ev (fun k => laws_heldNodeS.f k l 1) (1 + 5 * (l.length : Int)) :=
 Ev.of (fun k => laws_heldNodeS.mono l 1 k) (k := l.length + 26) (z85 l hl hj l.length (l.length + 26) 0 (by omega) (by omega) (by omega))
def Good (n : Int) : Prop := 0 ≤ n ∧ n ≤ 1114111 ∧ ¬ (55296 ≤ n ∧ n ≤ 57343)
instance (n : Int) : Decidable (Good n) := by unfold Good; infer_instance
def eb (n : Nat) : List Nat :=
 if n < 128 then [n] else if n < 2048 then [192 + n / 64, 128 + n % 64]
 else if n < 65536 then [224 + n / 4096, 128 + n / 64 % 64, 128 + n % 64]
 else [240 + n / 262144, 128 + n / 4096 % 64, 128 + n / 64 % 64, 128 + n % 64]
def nb (s : ByteArray) : List Nat := s.data.toList.map UInt8.toNat
theorem z1 (s : ByteArray) : (nb s).length = s.size := by rw [nb, List.length_map, Array.length_toList]; rfl
theorem toNat_inj : ∀ {a b : List UInt8}, a.map UInt8.toNat = b.map UInt8.toNat → a = b
 | [], [], _ => rfl
 | [], _ :: _, h => by simp at h
 | _ :: _, [], h => by simp at h
 | x :: a, y :: b, h => by
  simp only [List.map_cons, List.cons.injEq] at h
  rw [toNat_inj h.2, UInt8.toNat_inj.1 h.1]
theorem nb_inj {a b : ByteArray} (h : nb a = nb b) : a = b := by
 cases a; cases b
 simp only [nb] at h
 have := toNat_inj h
 congr 1
 exact Array.ext' this
theorem nb_lt {s : ByteArray} {x : Nat} (h : x ∈ nb s) : x < 256 := by
 obtain ⟨y, _, rfl⟩ := List.mem_map.1 h
 exact y.toNat_lt
theorem z24 (n : Nat) : 1 ≤ (eb n).length ∧ (eb n).length ≤ 4 := by
 unfold eb; split
 ·simp
 split
 ·simp
 split <;> simp
theorem z80 (n : Int) (h : Good n) : nb (Utf8.encode n) = eb n.toNat := by
 obtain ⟨m, rfl⟩ := Int.eq_ofNat_of_zero_le h.1
 have hv : Utf8.valid (m : Int) = true := by
  unfold Utf8.valid
  have := h.2.1; have := h.2.2
  simp only [Bool.or_eq_true, Bool.and_eq_true, decide_eq_true_eq]
  omega
 have hm : m ≤ 1114111 := by have := h.2.1; omega
 unfold Utf8.encode eb nb
 rw [if_pos hv]
 simp only [Int.toNat_natCast]
 split
 ·simp; omega
 split
 ·simp; omega
 split <;> (simp; omega)
def dl (l : List Nat) : Nat × Nat := Lib.decodeN l.length (l.getD 0 0) (l.getD 1 0) (l.getD 2 0) (l.getD 3 0)
theorem dl_eb (n : Nat) (h : Good n) (t : List Nat) : dl (eb n ++ t) = (n, (eb n).length) := by
 have h1 := h.2.1
 have h2 := h.2.2
 unfold eb
 split
 ·simp [dl, Lib.decodeN, *]
 rename_i g1
 split
 ·rename_i g2
  simp only [dl, List.length_append, List.length_cons, List.length_nil, List.cons_append, List.nil_append, List.getD_cons_zero, List.getD_cons_succ, Lib.decodeN]
  rw [if_neg (by omega), if_pos (by omega), if_pos (by omega)]
  simp; omega
 rename_i g2
 split
 ·rename_i g3
  simp only [dl, List.length_append, List.length_cons, List.length_nil, List.cons_append, List.nil_append, List.getD_cons_zero, List.getD_cons_succ, Lib.decodeN]
  rw [if_neg (by omega), if_neg (by omega), if_pos (by omega), if_pos (by omega)]
  simp; omega
 ·rename_i g3
  simp only [dl, List.length_append, List.length_cons, List.length_nil, List.cons_append, List.nil_append, List.getD_cons_zero, List.getD_cons_succ, Lib.decodeN]
  rw [if_neg (by omega), if_neg (by omega), if_neg (by omega), if_pos (by omega), if_pos (by omega)]
  simp; omega
theorem eb1 {n : Nat} (h : n < 128) : eb n = [n] := by unfold eb; rw [if_pos h]
theorem eb2 {n : Nat} (h : ¬ n < 128) (h2 : n < 2048) : eb n = [192 + n / 64, 128 + n % 64] := by unfold eb; rw [if_neg h, if_pos h2]
theorem eb3 {n : Nat} (h : ¬ n < 2048) (h2 : n < 65536) : eb n = [224 + n / 4096, 128 + n / 64 % 64, 128 + n % 64] := by unfold eb; rw [if_neg (by omega), if_neg h, if_pos h2]
theorem eb4 {n : Nat} (h : ¬ n < 65536) : eb n = [240 + n / 262144, 128 + n / 4096 % 64, 128 + n / 64 % 64, 128 + n % 64] := by unfold eb; rw [if_neg (by omega), if_neg (by omega), if_neg h]
theorem front1 {l : List Nat} (h : 1 ≤ l.length) : l = l.getD 0 0 :: l.drop 1 := by
 cases l with
 | nil => simp at h
 | cons a t => simp
theorem front2 {l : List Nat} (h : 2 ≤ l.length) : l = l.getD 0 0 :: l.getD 1 0 :: l.drop 2 := by
 match l, h with
 | a :: b :: t, _ => simp
theorem front3 {l : List Nat} (h : 3 ≤ l.length) : l = l.getD 0 0 :: l.getD 1 0 :: l.getD 2 0 :: l.drop 3 := by
 match l, h with
 | a :: b :: c :: t, _ => simp
theorem front4 {l : List Nat} (h : 4 ≤ l.length) : l = l.getD 0 0 :: l.getD 1 0 :: l.getD 2 0 :: l.getD 3 0 :: l.drop 4 := by
 match l, h with
 | a :: b :: c :: d :: t, _ => simp
theorem z20 {l : List Nat} (h : ∀ x ∈ l, x < 256) (i : Nat) : l.getD i 0 < 256 := by
 rw [List.getD_eq_getElem?_getD]
 by_cases hi : i < l.length
 ·rw [List.getElem?_eq_getElem hi]; exact h _ (List.getElem_mem hi)
 ·rw [List.getElem?_eq_none (by omega)]; decide
theorem dl_ok (l : List Nat) (hl : ∀ x ∈ l, x < 256) (h0 : l ≠ []) (h : ¬ ((dl l).1 = 65533 ∧ (dl l).2 < 2)) :
  Good (dl l).1 ∧ l = eb (dl l).1 ++ l.drop (dl l).2 ∧ (dl l).2 = (eb (dl l).1).length := by
 have hlen : 1 ≤ l.length := by cases l with | nil => exact absurd rfl h0 | cons => simp
 have b0 := z20 hl 0
 have b1 := z20 hl 1
 have b2 := z20 hl 2
 have b3 := z20 hl 3
 have f1 := front1 hlen
 unfold dl Lib.decodeN at h ⊢
 generalize hb0 : l.getD 0 0 = x0 at *
 generalize hb1 : l.getD 1 0 = x1 at *
 generalize hb2 : l.getD 2 0 = x2 at *
 generalize hb3 : l.getD 3 0 = x3 at *
 split
 ·rename_i g
  refine ⟨⟨by omega, by simp only; omega, by simp only; omega⟩, ?_, ?_⟩
  ·rw [eb1 (by simpa using g)]; exact f1
  ·rw [eb1 (by simpa using g)]; rfl
 rename_i g1
 rw [if_neg g1] at h
 split
 ·rename_i g2
  rw [if_pos g2] at h
  split
  ·rename_i g3
   have f2 := front2 (l := l) (by omega)
   rw [hb0, hb1] at f2
   have e := eb2 (n := x0 % 32 * 64 + x1 % 64) (by omega) (by omega)
   refine ⟨⟨by simp only; omega, by simp only; omega, by simp only; omega⟩, ?_, ?_⟩
   ·simp only; rw [e]; rw [f2]; simp; omega
   ·simp only; rw [e]; rfl
  ·rename_i g3
   rw [if_neg g3] at h
   exact absurd ⟨rfl, by decide⟩ h
 rename_i g2
 rw [if_neg g2] at h
 split
 ·rename_i g3
  rw [if_pos g3] at h
  split
  ·rename_i g4
   have f2 := front3 (l := l) (by omega)
   rw [hb0, hb1, hb2] at f2
   have e := eb3 (n := x0 % 16 * 4096 + x1 % 64 * 64 + x2 % 64) (by omega) (by omega)
   refine ⟨⟨by simp only; omega, by simp only; omega, by simp only; omega⟩, ?_, ?_⟩
   ·simp only; rw [e]; rw [f2]; simp; omega
   ·simp only; rw [e]; rfl
  ·rename_i g4
   rw [if_neg g4] at h
   exact absurd ⟨rfl, by decide⟩ h
 rename_i g3
 rw [if_neg g3] at h
 split
 ·rename_i g4
  rw [if_pos g4] at h
  split
  ·rename_i g5
   have f2 := front4 (l := l) (by omega)
   rw [hb0, hb1, hb2, hb3] at f2
   have e := eb4 (n := x0 % 8 * 262144 + x1 % 64 * 4096 + x2 % 64 * 64 + x3 % 64) (by omega)
   refine ⟨⟨by simp only; omega, by simp only; omega, by simp only; omega⟩, ?_, ?_⟩
   ·simp only; rw [e]; rw [f2]; simp; omega
   ·simp only; rw [e]; rfl
  ·rename_i g5
   rw [if_neg g5] at h
   exact absurd ⟨rfl, by decide⟩ h
 ·rename_i g4
  rw [if_neg g4] at h
  exact absurd ⟨rfl, by decide⟩ h
theorem get_nb (s : ByteArray) (k : Nat) : (s.get! k).toNat = (nb s).getD k 0 := by
 rw [List.getD_eq_getElem?_getD]
 by_cases h : k < s.size
 ·rw [Utf8W.get!_of_lt s k h, List.getElem?_eq_getElem (by rw [z1]; exact h)]
  simp [nb]; rfl
 ·rw [List.getElem?_eq_none (by rw [z1]; omega)]
  cases s with
  | mk d =>
   have : d[k]! = default := getElem!_neg d k (by simpa [ByteArray.size] using h)
   show (d[k]!).toNat = _
   rw [this]; rfl
theorem z59 (s : ByteArray) (i j : Nat) : nb (s.extract i j) = ((nb s).take j).drop i := by
 unfold nb
 rw [← List.map_take, ← List.map_drop]
 congr 1
 simp [ByteArray.data_extract, List.drop_take]
theorem z97 (s : ByteArray) : Lib.decodeGo s = if nb s = [] then (65533, 0) else dl (nb s) := by
 unfold Lib.decodeGo
 by_cases h : s.size = 0
 ·rw [if_pos h, if_pos (by rw [← z1] at h; exact List.eq_nil_of_length_eq_zero h)]
 ·rw [if_neg h, if_neg (fun e => h (by rw [← z1, e]; rfl)), Lib.decode_at]
  simp only [get_nb, dl, Nat.sub_zero, z1, Nat.zero_add]
theorem bt_nb (s : ByteArray) (i : Int) (h : i.toNat < s.size) : bt s i = ((nb s).getD i.toNat 0 : Nat) := by
 unfold bt
 rw [dif_pos h, List.getD_eq_getElem?_getD, List.getElem?_eq_getElem (by rw [z1]; exact h)]
 simp [nb]; rfl
theorem toList_nb (a b : ByteArray) : a.toList = b.toList ↔ nb a = nb b := by
 rw [ByteArray.toList_eq, ByteArray.toList_eq] 
 constructor
 ·intro h; unfold nb; rw [h]
 ·intro h; exact toNat_inj h
def encs (l : List Int) : List Nat := l.flatMap fun n => eb n.toNat
def z26 (l : List Int) : Prop := ∀ n ∈ l, Good n
theorem goods_cons {n : Int} {l : List Int} : z26 (n :: l) ↔ Good n ∧ z26 l := by simp [z26]
theorem z52 (n : Int) (l : List Int) : encs (n :: l) = eb n.toNat ++ encs l := rfl
theorem z56 (l : List Int) : (encs l).length ≤ 4 * l.length := by
 induction l with
 | nil => simp [encs]
 | cons n l ih => have := (z24 n.toNat).2; rw [z52]; simp; omega
def z9 : Nat → List Nat → Option (List Int)
 | 0, _ => none
 | f + 1, d => if d = [] then some [] else if (dl d).1 = 65533 ∧ (dl d).2 < 2 then none else (z9 f (d.drop (dl d).2)).map (fun r => ((dl d).1 : Int) :: r)
theorem dl_pos (l : List Nat) : 1 ≤ (dl l).2 := by
 unfold dl Lib.decodeN
 repeat' split
 all_goals simp
theorem z98 {f : Nat} : ∀ {d : List Nat} {l : List Int}, (∀ x ∈ d, x < 256) → z9 f d = some l → z26 l ∧ d = encs l := by
 induction f with
 | zero => intro d l hd h; cases h
 | succ f ih =>
  intro d l hd h
  unfold z9 at h
  by_cases e : d = []
  ·rw [if_pos e] at h; obtain rfl := Option.some.inj h; exact ⟨fun n hn => by simp at hn, e⟩
  rw [if_neg e] at h
  by_cases b : (dl d).1 = 65533 ∧ (dl d).2 < 2
  ·rw [if_pos b] at h; cases h
  rw [if_neg b] at h
  obtain ⟨r, hr, rfl⟩ := Option.map_eq_some_iff.1 h
  obtain ⟨g1, g2, g3⟩ := dl_ok d hd e b
  obtain ⟨i1, i2⟩ := ih (fun x hx => hd x (List.mem_of_mem_drop hx)) hr
  refine ⟨fun n hn => ?_, ?_⟩
  ·rcases List.mem_cons.1 hn with rfl | hn
   ·exact g1
   ·exact i1 n hn
  ·rw [z52, ← i2]; exact g2
theorem z99 {l : List Int} (hg : z26 l) : ∀ {f : Nat}, (encs l).length < f → z9 f (encs l) = some l := by
 induction l with
 | nil => intro f hf; obtain ⟨f, rfl⟩ : ∃ m, f = m + 1 := ⟨f - 1, by omega⟩; simp [z9, encs]
 | cons n l ih =>
  intro f hf
  obtain ⟨f, rfl⟩ : ∃ m, f = m + 1 := ⟨f - 1, by omega⟩
  have hn := hg n (List.mem_cons_self ..)
  obtain ⟨m, rfl⟩ := Int.eq_ofNat_of_zero_le hn.1
  have e := dl_eb m hn (encs l)
  have hp := z24 m
  rw [z52] at hf ⊢
  simp only [Int.toNat_natCast, List.length_append] at hf ⊢
  unfold z9
  rw [if_neg (by intro h; have := congrArg List.length h; rw [List.length_append, List.length_nil] at this; omega), e]
  have hbad : ¬ (m = 65533 ∧ (eb m).length < 2) := by
   rintro ⟨rfl, h⟩; revert h; decide
  rw [if_neg hbad, List.drop_left, ih (fun x hx => hg x (List.mem_cons_of_mem _ hx)) (by omega)]
  rfl
def z2 : List Int → List Int → Bool
 | _, [] => false
 | [], _ :: _ => true
 | a :: x, b :: y => a < b || (a == b && z2 x y)
theorem z5 : ∀ (p x y : List Int), z2 (p ++ x) (p ++ y) = z2 x y
 | [], _, _ => rfl
 | a :: p, x, y => by simp [z2, z5 p x y]
theorem z58 (a : List Int) (n : Int) (b : List Int) : rd (a ++ n :: b) a.length = n := by simp [rd, List.getD_eq_getElem?_getD]
instance goodsDec (l : List Int) : Decidable (z26 l) := by unfold z26; infer_instance
def pr (n : Int) : List Int := if n < 65536 then [n] else [55296 + (n - 65536) / 1024, 56320 + (n - 65536) % 1024]
def prs (l : List Int) : List Int := l.flatMap pr
theorem z44 (n : Int) (l : List Int) : prs (n :: l) = pr n ++ prs l := rfl
theorem z49 (n : Int) : 1 ≤ (pr n).length ∧ (pr n).length ≤ 2 := by unfold pr; split <;> simp
theorem z27 (l : List Int) : l.length ≤ (prs l).length ∧ (prs l).length ≤ 2 * l.length := by
 induction l with
 | nil => simp [prs]
 | cons n l ih => have := z49 n; rw [z44, List.length_append, List.length_cons]; omega
def isHi (n : Int) : Prop := 55296 ≤ n ∧ n ≤ 56319
def isLo (n : Int) : Prop := 56320 ≤ n ∧ n ≤ 57343
instance (n : Int) : Decidable (isHi n) := inferInstanceAs (Decidable (55296 ≤ n ∧ n ≤ 56319))
instance (n : Int) : Decidable (isLo n) := inferInstanceAs (Decidable (56320 ≤ n ∧ n ≤ 57343))
def comb (a b : Int) : Int := 65536 + (a - 55296) * 1024 + b - 56320
def decP : List Int → Option (List Int)
 | [] => some []
 | [a] => if Good a ∧ a ≤ 65535 then some [a] else none
 | a :: b :: t => if isHi a ∧ isLo b then (decP t).map (comb a b :: ·) else if Good a ∧ a ≤ 65535 then (decP (b :: t)).map (a :: ·) else none
theorem z69 : ∀ (l : List Int), z26 l → decP (prs l) = some l
 | [], _ => rfl
 | n :: l, h => by
  have gn := h n (List.mem_cons_self ..)
  have ih := z69 l (fun x hx => h x (List.mem_cons_of_mem _ hx))
  rw [z44]
  unfold pr
  by_cases c : n < 65536
  ·rw [if_pos c]
   have hh : ¬ isHi n := by have := gn.2.2; unfold isHi; omega
   cases e : prs l with
   | nil =>
    rw [e] at ih
    have : l = [] := by simpa [decP] using ih.symm
    subst this
    show decP [n] = _
    unfold decP; rw [if_pos ⟨gn, by omega⟩]
   | cons b t =>
    rw [e] at ih
    show decP (n :: b :: t) = _
    unfold decP; rw [if_neg (fun q => hh q.1), if_pos ⟨gn, by omega⟩, ih]; rfl
  ·rw [if_neg c]
   have g2 := gn.2.1
   show decP (_ :: _ :: prs l) = _
   unfold decP
   rw [if_pos (by unfold isHi isLo; omega), ih]
   simp only [Option.map_some, Option.some.injEq, List.cons.injEq, and_true]
   unfold comb; omega
theorem prs_inj {a b : List Int} (ha : z26 a) (hb : z26 b) (h : prs a = prs b) : a = b := by
 have := z69 a ha
 rw [h, z69 b hb] at this
 exact (Option.some.inj this).symm
theorem z35 : ∀ (x y : List Int), z2 x y = true → z2 y x = false
 | _, [], h => by cases ‹List Int› <;> simp [z2] at h
 | [], _ :: _, _ => rfl
 | a :: x, b :: y, h => by
  simp only [z2, Bool.or_eq_true, decide_eq_true_eq, Bool.and_eq_true, beq_iff_eq] at h
  simp only [z2, Bool.or_eq_false_iff, decide_eq_false_iff_not, Bool.and_eq_false_iff, beq_eq_false_iff_ne]
  rcases h with h | ⟨rfl, h⟩
  ·exact ⟨by omega, .inl (by omega)⟩
  ·exact ⟨by omega, .inr (z35 x y h)⟩
theorem z19 : ∀ (x y : List Int), z2 x y = false → z2 y x = false → x = y
 | [], [], _, _ => rfl
 | _ :: _, [], _, h => by simp [z2] at h
 | [], _ :: _, h, _ => by simp [z2] at h
 | a :: x, b :: y, h1, h2 => by
  simp only [z2, Bool.or_eq_false_iff, decide_eq_false_iff_not, Bool.and_eq_false_iff, beq_eq_false_iff_ne] at h1 h2
  have e : a = b := by omega
  subst e
  rw [z19 x y (by simpa using h1.2) (by simpa using h2.2)]
theorem and1023 (x : Int) (h0 : 0 ≤ x) (h1 : x < 9223372036854775808) : Go.bits .and .i64 x 1023 = x % 1024 := by
 have h := bits_mask .i64 63 (by decide) (fun n h₀ h₁ => by rw [IntKind.wrap_i64]; omega) 10 (by decide) x h0 (by omega)
 simpa using h
theorem z54 (b : List Int) : ∀ (a acc : List Int), z26 b → (a ++ b).length < 100000000 → acc.length + 2 * b.length < 1000000000 →
  Ev (fun k => impl_pairsOf.l0 k acc (a ++ b) (a ++ b).length a.length) (acc ++ prs b) := by
 induction b with
 | nil =>
  intro a acc _ h1 h2
  refine Ev.step (f := fun _ => some (acc ++ prs [])) (fun k => ?_) (Ev.now _)
  rw [impl_pairsOf.l0, if_neg (by simp)]; simp [prs]
 | cons n b ih =>
  intro a acc hg h1 h2
  have hl : (a ++ n :: b).length = a.length + (b.length + 1) := by simp
  have gn := (goods_cons.1 hg).1
  have g0 := gn.1; have g1 := gn.2.1
  simp only [List.length_cons] at h2
  have hi := ih (a ++ [n]) (acc ++ pr n) (goods_cons.1 hg).2 (by simpa using h1) (by have := z49 n; rw [List.length_append]; omega)
  simp only [List.append_assoc, List.cons_append, List.nil_append, List.length_append, List.length_cons, List.length_nil, Nat.zero_add] at hi
  rw [z44]
  refine Ev.step (fun k => ?_) hi
  rw [impl_pairsOf.l0, if_pos (by omega), if_pos (by omega), if_pos (by omega), z58]
  unfold pr
  by_cases c : n < 65536
  ·rw [if_pos c, if_pos c, if_pos (by omega), w64 (by omega) (by omega), hl]; rfl
  ·rw [if_neg c, if_neg c]
   simp only [Option.bind_some]
   rw [if_pos (by simp; omega), w64 (n := n - 65536) (by omega) (by omega), and1023 _ (by omega) (by omega), w64 (n := 55296 + (n - 65536) / 1024) (by omega) (by omega), w64 (n := 56320 + (n - 65536) % 1024) (by omega) (by omega), w64 (by omega) (by omega), hl]; rfl
theorem z53 (b : List Int) : ∀ (a acc : List Int), z26 b → (a ++ b).length < 100000000 → acc.length + 2 * b.length < 1000000000 →
  Ev (fun k => spec_l2Pairs.l0 k acc (a ++ b) (a ++ b).length a.length) (acc ++ prs b) := by
 induction b with
 | nil =>
  intro a acc _ h1 h2
  refine Ev.step (f := fun _ => some (acc ++ prs [])) (fun k => ?_) (Ev.now _)
  rw [spec_l2Pairs.l0, if_neg (by simp)]; simp [prs]
 | cons n b ih =>
  intro a acc hg h1 h2
  have hl : (a ++ n :: b).length = a.length + (b.length + 1) := by simp
  have gn := (goods_cons.1 hg).1
  have g0 := gn.1; have g1 := gn.2.1
  simp only [List.length_cons] at h2
  have hi := ih (a ++ [n]) (acc ++ pr n) (goods_cons.1 hg).2 (by simpa using h1) (by have := z49 n; rw [List.length_append]; omega)
  simp only [List.append_assoc, List.cons_append, List.nil_append, List.length_append, List.length_cons, List.length_nil, Nat.zero_add] at hi
  rw [z44]
  refine Ev.step (fun k => ?_) hi
  rw [spec_l2Pairs.l0, if_pos (by omega), if_pos (by omega), if_pos (by omega), z58]
  unfold pr
  by_cases c : n < 65536
  ·rw [if_pos c, if_pos c, if_pos (by omega), w64 (by omega) (by omega), hl]; rfl
  ·rw [if_neg c, if_neg c]
   simp only [Option.bind_some]
   rw [if_pos (by simp; omega), w64 (n := n - 65536) (by omega) (by omega), and1023 _ (by omega) (by omega), w64 (n := 55296 + (n - 65536) / 1024) (by omega) (by omega), w64 (n := 56320 + (n - 65536) % 1024) (by omega) (by omega), w64 (by omega) (by omega), hl]; rfl
theorem z79 (l : List Int) (hg : z26 l) (hl : l.length < 10000000) : Ev (fun k => impl_pairsOf.f k l) (prs l) := by
 have := z54 l [] [] hg (by simp; omega) (by simp; omega)
 unfold impl_pairsOf.f
 simpa using this
theorem z78 (l : List Int) (hg : z26 l) (hl : l.length < 10000000) : Ev (fun k => spec_l2Pairs.f k l) (prs l) := by
 have := z53 l [] [] hg (by simp; omega) (by simp; omega)
 unfold spec_l2Pairs.f
 simpa using this
theorem cmpInt (a b : Int) : cmp_Compare_int.f a b = some (if a < b then -1 else if a > b then 1 else 0) := by
 unfold cmp_Compare_int.f cmp_isNaN_int.f
 simp only [Option.bind_some, bne_self_eq_false, Bool.false_eq_true, if_false]
 by_cases c : a < b
 ·rw [if_pos c, if_pos c]
 ·rw [if_neg c, if_neg c]
  by_cases d : a > b
  ·rw [if_pos d, if_pos d]
  ·rw [if_neg d, if_neg d]
theorem compare_l0 (x y : List Int) (hx : x.length < 100000000) (hy : y.length < 100000000) (x' : List Int) : ∀ (p y' : List Int), x = p ++ x' → y = p ++ y' →
  ∃ c, Ev (fun k => slices_Compare_int_int.l0 k x y x x.length p.length) c ∧ (c < 0 ↔ z2 x y = true) := by
 induction x' with
 | nil =>
  intro p y' e1 e2
  have n1 := congrArg List.length e1
  have n2 := congrArg List.length e2
  simp only [List.length_append, List.length_nil] at n1 n2
  cases y' with
  | nil =>
   simp only [List.length_nil] at n2
   refine ⟨0, Ev.step (f := fun _ => some 0) (fun k => ?_) (Ev.now _), ?_⟩
   ·rw [slices_Compare_int_int.l0, if_neg (by omega), if_neg (by omega)]
   ·rw [e1, e2, z5]; simp [z2]
  | cons b y' =>
   simp only [List.length_cons] at n2
   refine ⟨-1, Ev.step (f := fun _ => some (-1)) (fun k => ?_) (Ev.now _), ?_⟩
   ·rw [slices_Compare_int_int.l0, if_neg (by omega), if_pos (by omega)]
   ·rw [e1, e2, z5]; simp [z2]
 | cons a x' ih =>
  intro p y' e1 e2
  have n1 := congrArg List.length e1
  have n2 := congrArg List.length e2
  simp only [List.length_append, List.length_cons] at n1 n2
  have r1 : rd x p.length = a := by rw [e1]; exact z58 p a x'
  cases y' with
  | nil =>
   simp only [List.length_nil] at n2
   refine ⟨1, Ev.step (f := fun _ => some 1) (fun k => ?_) (Ev.now _), ?_⟩
   ·rw [slices_Compare_int_int.l0, if_pos (by omega), if_pos (by omega), if_pos (by omega), if_pos (by omega)]
   ·rw [e1, e2, z5]; simp [z2]
  | cons b y' =>
   simp only [List.length_cons] at n2
   have r2 : rd y p.length = b := by rw [e2]; exact z58 p b y'
   by_cases c : a = b
   ·subst c
    obtain ⟨c, h1, h2⟩ := ih (p ++ [a]) y' (by rw [e1]; simp) (by rw [e2]; simp)
    simp only [List.length_append, List.length_cons, List.length_nil] at h1
    refine ⟨c, Ev.step (fun k => ?_) h1, h2⟩
    rw [slices_Compare_int_int.l0, if_pos (by omega), if_pos (by omega), if_pos (by omega), if_neg (by omega), if_pos (by omega), r1, r2, cmpInt]
    simp only [Option.bind_some]
    simp only [Int.lt_irrefl, if_false, gt_iff_lt, if_true]
    rw [w64 (by omega) (by omega)]; rfl
   ·have hc := cmpInt a b
    refine ⟨if a < b then -1 else if a > b then 1 else 0, Ev.step (f := fun _ => some (if a < b then -1 else if a > b then 1 else 0)) (fun k => ?_) (Ev.now _), ?_⟩
    ·rw [slices_Compare_int_int.l0, if_pos (by omega), if_pos (by omega), if_pos (by omega), if_neg (by omega), if_pos (by omega), r1, r2, cmpInt]
     simp only [Option.bind_some]
     rw [if_neg]
     by_cases d : a < b
     ·rw [if_pos d]; decide
     ·rw [if_neg d, if_pos (by omega)]; decide
    ·rw [e1, e2, z5]
     by_cases d : a < b
     ·simp [z2, d]
     ·rw [if_neg d, if_pos (by omega)]; simp [z2, d, c]
theorem z100 (x y : List Int) (hx : x.length < 100000000) (hy : y.length < 100000000) : ∃ c, Ev (fun k => slices_Compare_int_int.f k x y) c ∧ decide (c < 0) = z2 x y := by
 obtain ⟨c, h1, h2⟩ := compare_l0 x y hx hy x [] y rfl rfl
 refine ⟨c, h1, ?_⟩
 by_cases d : z2 x y = true
 ·rw [d, decide_eq_true (h2.2 d)]
 ·rw [Bool.not_eq_true] at d
  rw [d, decide_eq_false (fun h => by have := h2.1 h; rw [d] at this; cases this)]
theorem l2Less_l0 (x y : List Int) (hx : x.length < 100000000) (hy : y.length < 100000000) (x' : List Int) : ∀ (p y' : List Int), x = p ++ x' → y = p ++ y' →
  Ev (fun k => spec_l2Less.l0 k x y x x.length p.length) (z2 x y) := by
 induction x' with
 | nil =>
  intro p y' e1 e2
  have n1 := congrArg List.length e1
  have n2 := congrArg List.length e2
  simp only [List.length_append, List.length_nil] at n1 n2
  have : decide (x.length < y.length) = z2 x y := by
   rw [e1, e2, z5]
   cases y' with
   | nil => simp [z2]
   | cons => simp [z2]
  rw [← this]
  refine Ev.step (f := fun _ => some (decide (x.length < y.length))) (fun k => ?_) (Ev.now _)
  rw [spec_l2Less.l0, if_neg (by omega)]
 | cons a x' ih =>
  intro p y' e1 e2
  have n1 := congrArg List.length e1
  have n2 := congrArg List.length e2
  simp only [List.length_append, List.length_cons] at n1 n2
  have r1 : rd x p.length = a := by rw [e1]; exact z58 p a x'
  cases y' with
  | nil =>
   simp only [List.length_nil] at n2
   have : z2 x y = false := by rw [e1, e2, z5]; simp [z2]
   rw [this]
   refine Ev.step (f := fun k => spec_l2Less.j1 k x y p.length a x x.length p.length true) (fun k => ?_) (Ev.step (f := fun _ => some false) (fun k => ?_) (Ev.now _))
   ·rw [spec_l2Less.l0, if_pos (by omega), if_pos (by omega), if_pos (by omega), if_pos (by omega), r1]
   ·rw [spec_l2Less.j1, if_pos rfl]
  | cons b y' =>
   simp only [List.length_cons] at n2
   have r2 : rd y p.length = b := by rw [e2]; exact z58 p b y'
   refine Ev.step (f := fun k => spec_l2Less.j1 k x y p.length a x x.length p.length (decide (a > b))) (fun k => ?_) ?_
   ·rw [spec_l2Less.l0, if_pos (by omega), if_pos (by omega), if_pos (by omega), if_neg (by omega), if_pos (by omega), r1, r2]
   rcases Int.lt_trichotomy a b with h | h | h
   ·have : z2 x y = true := by rw [e1, e2, z5]; simp [z2, h]
    rw [this]
    refine Ev.step (f := fun _ => some true) (fun k => ?_) (Ev.now _)
    rw [spec_l2Less.j1, decide_eq_false (by omega), if_neg (by decide), if_pos (by omega), if_pos (by omega), r2, if_pos h]
   ·subst h
    have := ih (p ++ [a]) y' (by rw [e1]; simp) (by rw [e2]; simp)
    simp only [List.length_append, List.length_cons, List.length_nil] at this
    refine Ev.step (fun k => ?_) this
    rw [spec_l2Less.j1, decide_eq_false (by omega), if_neg (by decide), if_pos (by omega), if_pos (by omega), r2, if_neg (by omega), w64 (by omega) (by omega)]; rfl
   ·have : z2 x y = false := by
     rw [e1, e2, z5]
     simp only [z2, List.cons_append, Bool.or_eq_false_iff, decide_eq_false_iff_not, Bool.and_eq_false_iff, beq_eq_false_iff_ne]; omega
    rw [this]
    refine Ev.step (f := fun _ => some false) (fun k => ?_) (Ev.now _)
    rw [spec_l2Less.j1, decide_eq_true h, if_pos rfl]
theorem l2Less (x y : List Int) (hx : x.length < 100000000) (hy : y.length < 100000000) : Ev (fun k => spec_l2Less.f k x y) (z2 x y) := l2Less_l0 x y hx hy x [] y rfl rfl
theorem z70 (xs : List Int) : nb (strOfNums xs) = xs.map fun x => x.toNat % 256 := by simp [nb, strOfNums]
theorem and63 (x : Int) (h0 : 0 ≤ x) (h1 : x < 9223372036854775808) : Go.bits .and .i64 x 63 = x % 64 := by
 have h := bits_mask .i64 63 (by decide) (fun n h₀ h₁ => by rw [IntKind.wrap_i64]; omega) 6 (by decide) x h0 (by omega)
 simpa using h
theorem l2Bytes (n : Int) (h : Good n) : spec_l2Bytes.f n = some (Utf8.encode n) := by
 have h0 := h.1
 have h1 := h.2.1
 have e : ∀ {x : ByteArray}, nb x = eb n.toNat → some x = some (Utf8.encode n) := fun {x} hx => by
  rw [nb_inj (hx.trans (z80 n h).symm)]
 unfold spec_l2Bytes.f
 by_cases a : n < 128
 ·rw [if_pos a]
  refine e ?_
  rw [eb1 (by omega), z70]
  simp; omega
 rw [if_neg a]
 by_cases b : n < 2048
 ·rw [if_pos b]
  refine e ?_
  rw [eb2 (by omega) (by omega), z70, and63 _ h0 (by omega), w64 (by omega) (by omega), w64 (by omega) (by omega)]
  simp; omega
 rw [if_neg b]
 by_cases c : n < 65536
 ·rw [if_pos c]
  refine e ?_
  rw [eb3 (by omega) (by omega), z70, and63 _ h0 (by omega), and63 _ (by omega) (by omega), w64 (by omega) (by omega), w64 (by omega) (by omega), w64 (by omega) (by omega)]
  simp; omega
 ·rw [if_neg c]
  refine e ?_
  rw [eb4 (by omega), z70, and63 _ h0 (by omega), and63 (n / 4096) (by omega) (by omega), and63 (n / 64) (by omega) (by omega), w64 (by omega) (by omega), w64 (by omega) (by omega), w64 (by omega) (by omega), w64 (by omega) (by omega)]
  simp; omega
def bad (d : List Nat) : Prop := (dl d).1 = 65533 ∧ (dl d).2 < 2
instance (d : List Nat) : Decidable (bad d) := by unfold bad; infer_instance
theorem z25 (s : ByteArray) (i : Nat) : ∀ x ∈ (nb s).drop i, x < 256 := fun x hx => nb_lt (List.mem_of_mem_drop hx)
theorem z96 (s : ByteArray) (i : Nat) (h : i < s.size) : (nb s).drop i ≠ [] := by
 intro e; have := congrArg List.length e; rw [List.length_drop, z1, List.length_nil] at this; omega
theorem dl_le (s : ByteArray) (i : Nat) (h : i < s.size) : (dl ((nb s).drop i)).1 ≤ 1114111 ∧ (dl ((nb s).drop i)).2 ≤ 4 ∧ i + (dl ((nb s).drop i)).2 ≤ s.size := by
 by_cases hb : bad ((nb s).drop i)
 ·refine ⟨by rw [hb.1]; decide, by have := hb.2; omega, by have := hb.2; omega⟩
 ·obtain ⟨g, e, w⟩ := dl_ok _ (z25 s i) (z96 s i h) hb
  have h4 := (z24 (dl ((nb s).drop i)).1).2
  have hl := congrArg List.length e
  rw [List.length_append, List.length_drop, List.length_drop, z1, ← w] at hl
  have := dl_pos ((nb s).drop i)
  refine ⟨by have := g.2.1; omega, by omega, ?_⟩
  have hw : (dl ((nb s).drop i)).2 ≤ ((nb s).drop i).length := by
   have h2 := congrArg List.length e
   rw [List.length_append, ← w] at h2; omega
  rw [List.length_drop, z1] at hw
  omega
theorem runeAtImpl (s : ByteArray) (at_ : Int) (h0 : 0 ≤ at_) (h1 : at_ < s.size) (hs : s.size < 1000000000000) :
  impl_runeAt.f s at_ = some (if bad ((nb s).drop at_.toNat) then (0, 0, false) else (((dl ((nb s).drop at_.toNat)).1 : Int), at_ + ((dl ((nb s).drop at_.toNat)).2 : Int), true)) := by
 have hle := dl_le s at_.toNat (by omega)
 unfold impl_runeAt.f utf8_DecodeRuneInString.f
 rw [if_pos h0, if_pos (by omega), z97, z59, List.take_of_length_le (by rw [z1]; omega), if_neg (z96 s _ (by omega))]
 simp only [Option.bind_some]
 rw [w64 (by omega) (by omega), w64 (by omega) (by omega)]
 by_cases c : ((dl ((nb s).drop at_.toNat)).1 : Int) = 65533
 ·rw [if_pos c]
  by_cases e : ((dl ((nb s).drop at_.toNat)).2 : Int) < 2
  ·rw [if_pos e, if_pos (show bad _ from ⟨by omega, by omega⟩)]
  ·rw [if_neg e, if_neg (fun hb : bad _ => e (by have := hb.2; omega))]
 ·rw [if_neg c, if_neg (fun hb : bad _ => c (by have := hb.1; omega))]
theorem goodRune (n : Int) : spec_GoodRune.f n = some (decide (Good n)) := by
 unfold spec_GoodRune.f spec_l1In.f Good
 by_cases a : n ≥ 0
 ·rw [if_pos a]
  simp only [Option.bind_some]
  by_cases b : n ≤ 1114111
  ·rw [decide_eq_true b, if_pos rfl]
   by_cases c : n ≥ 55296
   ·rw [if_pos c]; simp only [Option.bind_some]; congr 1
    by_cases d : n ≤ 57343 <;> simp [a, b, c, d] <;> omega
   ·rw [if_neg c]; simp only [Option.bind_some]; congr 1
    simp [b]; omega
  ·rw [decide_eq_false b, if_neg (by decide)]; congr 1
   simp [b]
 ·rw [if_neg a]
  simp only [Option.bind_some]
  rw [if_neg (by decide)]; congr 1
  simp; omega
theorem or_and (v b : Int) (h0 : 0 ≤ v) (h1 : v < 2147483648) (h2 : 0 ≤ b) (h3 : b < 256) : Go.bits .or .i64 (wrap64 (v * 64)) (wrap64 (Go.bits .and .u8 b 63)) = v * 64 + b % 64 := by
 rw [u8_and63 b h2 h3, w64 (by omega) (by omega), w64 (by omega) (by omega)]
 exact bits_join .i64 63 (by decide) (fun n h₀ h₁ => by rw [IntKind.wrap_i64]; omega) 6 _ _ (by omega) (by omega) (by omega) (by omega) (by omega) (by omega)
def fin2 (d : List Nat) (v : Nat) (many : Nat) : Int × Int := if Good v ∧ eb v = d.take many then ((v : Int), (many : Int)) else (0, 0)
theorem z46 (s : ByteArray) (at_ : Int) (h0 : 0 ≤ at_) (hs : s.size < 1000000000000) (v many : Nat) (hm : at_ + many ≤ s.size) : Ev (fun k => spec_l2At.l0 k s at_ v many many) (fin2 ((nb s).drop at_.toNat) v many) := by
 refine Ev.step (f := fun _ => some (fin2 ((nb s).drop at_.toNat) v many)) (fun k => ?_) (Ev.now _)
 rw [spec_l2At.l0, if_neg (by omega), goodRune]
 simp only [Option.bind_some]
 unfold fin2
 by_cases g : Good (v : Int)
 ·rw [decide_eq_true g, if_pos rfl, l2Bytes _ g]
  simp only [Option.bind_some]
  rw [if_pos h0, w64 (by omega) (by omega), if_pos (by omega), if_pos hm]
  have e : (Utf8.encode (v : Int)).toList = (s.extract at_.toNat (at_ + many).toNat).toList ↔ eb v = ((nb s).drop at_.toNat).take many := by
   rw [toList_nb, z80 _ g, z59, List.drop_take, Int.toNat_natCast, show (at_ + many).toNat - at_.toNat = many by omega]
  by_cases c : eb v = ((nb s).drop at_.toNat).take many
  ·rw [if_pos (e.2 c), if_pos ⟨g, c⟩]
  ·rw [if_neg (fun h => c (e.1 h)), if_neg (fun h => c h.2)]
 ·rw [decide_eq_false g, if_neg (by decide), if_neg (fun h => g h.1)]
theorem bt_drop (s : ByteArray) (at_ i : Int) (h0 : 0 ≤ at_) (hi : 0 ≤ i) (h : at_ + i < s.size) : bt s (at_ + i) = (((nb s).drop at_.toNat).getD i.toNat 0 : Nat) := by
 rw [bt_nb s _ (by omega), List.getD_eq_getElem?_getD, List.getD_eq_getElem?_getD, List.getElem?_drop, show at_.toNat + i.toNat = (at_ + i).toNat by omega]
theorem z16 (s : ByteArray) (at_ : Int) (h0 : 0 ≤ at_) (hs : s.size < 1000000000000) (v many i : Nat) (hv : v < 2147483648) (hi : i < many) (hm : at_ + many ≤ s.size) {r : Int × Int}
  (h : Ev (fun k => spec_l2At.l0 k s at_ ((v * 64 + ((nb s).drop at_.toNat).getD i 0 % 64 : Nat) : Int) many ((i + 1 : Nat) : Int)) r) : Ev (fun k => spec_l2At.l0 k s at_ v many i) r := by
 have hb := z20 (z25 s at_.toNat) i
 refine Ev.step (fun k => ?_) h
 rw [spec_l2At.l0, if_pos (by omega), w64 (n := at_ + i) (by omega) (by omega), if_pos (by omega), if_pos (by omega), bt_drop s at_ i h0 (by omega) (by omega), Int.toNat_natCast, or_and _ _ (by omega) (by omega) (by omega) (by omega), w64 (by omega) (by omega)]
 norm_cast
def val2 (d : List Nat) (n0 many : Nat) : Nat :=
 if many = 1 then n0 else if many = 2 then n0 * 64 + d.getD 1 0 % 64 else if many = 3 then (n0 * 64 + d.getD 1 0 % 64) * 64 + d.getD 2 0 % 64
 else ((n0 * 64 + d.getD 1 0 % 64) * 64 + d.getD 2 0 % 64) * 64 + d.getD 3 0 % 64
theorem l2At_j0 (s : ByteArray) (at_ : Int) (h0 : 0 ≤ at_) (h1 : at_ < s.size) (hs : s.size < 1000000000000) (n0 many : Nat) (hn : n0 < 256) (h2 : 1 ≤ many) (h3 : many ≤ 4) :
  Ev (fun k => spec_l2At.j0 k s at_ n0 many) (if ((nb s).drop at_.toNat).length < many then (0, 0) else fin2 ((nb s).drop at_.toNat) (val2 ((nb s).drop at_.toNat) n0 many) many) := by
 have hl : ((nb s).drop at_.toNat).length = s.size - at_.toNat := by rw [List.length_drop, z1]
 by_cases c : ((nb s).drop at_.toNat).length < many
 ·rw [if_pos c]
  refine Ev.step (f := fun _ => some (0, 0)) (fun k => ?_) (Ev.now _)
  rw [spec_l2At.j0, w64 (by omega) (by omega), if_pos (by omega)]
 rw [if_neg c]
 have hm : at_ + many ≤ s.size := by omega
 refine Ev.step (f := fun k => spec_l2At.l0 k s at_ n0 many ((1 : Nat) : Int)) (fun k => ?_) ?_
 ·rw [spec_l2At.j0, w64 (by omega) (by omega), if_neg (by omega)]; rfl
 have b1 := z20 (z25 s at_.toNat) 1
 have b2 := z20 (z25 s at_.toNat) 2
 have b3 := z20 (z25 s at_.toNat) 3
 unfold val2
 rcases (show many = 1 ∨ many = 2 ∨ many = 3 ∨ many = 4 by omega) with rfl | rfl | rfl | rfl
 ·rw [if_pos rfl]; exact z46 s at_ h0 hs n0 1 hm
 ·rw [if_neg (by decide), if_pos rfl]
  exact z16 s at_ h0 hs n0 2 1 (by omega) (by omega) hm (z46 s at_ h0 hs _ 2 hm)
 ·rw [if_neg (by decide), if_neg (by decide), if_pos rfl]
  exact z16 s at_ h0 hs n0 3 1 (by omega) (by omega) hm (z16 s at_ h0 hs _ 3 2 (by omega) (by omega) hm (z46 s at_ h0 hs _ 3 hm))
 ·rw [if_neg (by decide), if_neg (by decide), if_neg (by decide)]
  exact z16 s at_ h0 hs n0 4 1 (by omega) (by omega) hm (z16 s at_ h0 hs _ 4 2 (by omega) (by omega) hm (z16 s at_ h0 hs _ 4 3 (by omega) (by omega) hm (z46 s at_ h0 hs _ 4 hm)))
theorem z37 (n : Nat) : (eb n).length = if n < 128 then 1 else if n < 2048 then 2 else if n < 65536 then 3 else 4 := by
 unfold eb; repeat' split
 all_goals rfl
theorem eb_head (n : Nat) : (eb n).getD 0 0 = if n < 128 then n else if n < 2048 then 192 + n / 64 else if n < 65536 then 224 + n / 4096 else 240 + n / 262144 := by
 unfold eb; repeat' split
 all_goals rfl
theorem val2_eb (n : Nat) (t : List Nat) (hn : n ≤ 1114111) : val2 (eb n ++ t) ((eb n).getD 0 0 - if n < 128 then 0 else if n < 2048 then 192 else if n < 65536 then 224 else 240) (eb n).length = n := by
 by_cases a : n < 128
 ·rw [eb1 a, if_pos a]; simp [val2]
 by_cases b : n < 2048
 ·rw [eb2 a b, if_neg a, if_pos b]; simp [val2]; omega
 by_cases c : n < 65536
 ·rw [eb3 b c, if_neg a, if_neg b, if_pos c]; simp [val2]; omega
 ·rw [eb4 c, if_neg a, if_neg b, if_neg c]; simp [val2]; omega
theorem fin2_eq (d : List Nat) (hd : ∀ x ∈ d, x < 256) (h0 : d ≠ []) (n0 many : Nat) (h2 : 1 ≤ many)
  (hc : ∀ n, n ≤ 1114111 → (eb n).getD 0 0 = d.getD 0 0 → (eb n).length = many ∧ n0 = d.getD 0 0 - if n < 128 then 0 else if n < 2048 then 192 else if n < 65536 then 224 else 240) :
  (if d.length < many then (0, 0) else fin2 d (val2 d n0 many) many) = if bad d then (0, 0) else (((dl d).1 : Int), ((dl d).2 : Int)) := by
 by_cases hb : bad d
 ·rw [if_pos hb]
  by_cases hl : d.length < many
  ·rw [if_pos hl]
  rw [if_neg hl]
  unfold fin2
  rw [if_neg]
  rintro ⟨g, e⟩
  have h := dl_eb (val2 d n0 many) g (d.drop many)
  rw [e, List.take_append_drop] at h
  have hl2 : (d.take many).length = many := by rw [List.length_take]; omega
  rw [hl2] at h
  have e1 := hb.1
  have e2 := hb.2
  rw [h] at e1 e2
  simp only at e1 e2
  have e3 := congrArg List.length e
  rw [hl2, e1] at e3
  have : (eb 65533).length = 3 := by decide
  omega
 ·rw [if_neg hb]
  obtain ⟨g, e, w⟩ := dl_ok d hd h0 hb
  have hn : (dl d).1 ≤ 1114111 := by have := g.2.1; omega
  have hp := z24 (dl d).1
  have hh : (eb (dl d).1).getD 0 0 = d.getD 0 0 := by
   conv => rhs; rw [e]
   rw [List.getD_eq_getElem?_getD, List.getD_eq_getElem?_getD, List.getElem?_append_left (by omega)]
  obtain ⟨c1, c2⟩ := hc _ hn hh
  have hle : ¬ d.length < many := by
   have := congrArg List.length e
   rw [List.length_append] at this; omega
  rw [if_neg hle]
  generalize (dl d).1 = c at *
  generalize (dl d).2 = m at *
  generalize d.drop m = t at e
  subst e
  subst c1
  have hv : val2 (eb c ++ t) n0 (eb c).length = c := by rw [c2, ← hh]; exact val2_eb c t hn
  unfold fin2
  rw [hv, if_pos ⟨g, by rw [List.take_left]⟩, w]
theorem heads (n x : Nat) (hn : n ≤ 1114111) (he : (eb n).getD 0 0 = x) : (x < 128 ∧ n < 128) ∨ (192 ≤ x ∧ x ≤ 223 ∧ ¬ n < 128 ∧ n < 2048) ∨ (224 ≤ x ∧ x ≤ 239 ∧ ¬ n < 128 ∧ ¬ n < 2048 ∧ n < 65536) ∨ (240 ≤ x ∧ x ≤ 244 ∧ ¬ n < 128 ∧ ¬ n < 2048 ∧ ¬ n < 65536) := by
 rw [eb_head] at he
 by_cases a : n < 128
 ·rw [if_pos a] at he; omega
 rw [if_neg a] at he
 by_cases b : n < 2048
 ·rw [if_pos b] at he; omega
 rw [if_neg b] at he
 by_cases c : n < 65536
 ·rw [if_pos c] at he; omega
 rw [if_neg c] at he; omega
theorem l2At (s : ByteArray) (at_ : Int) (h0 : 0 ≤ at_) (h1 : at_ < s.size) (hs : s.size < 1000000000000) :
  Ev (fun k => spec_l2At.f k s at_) (if bad ((nb s).drop at_.toNat) then (0, 0) else (((dl ((nb s).drop at_.toNat)).1 : Int), ((dl ((nb s).drop at_.toNat)).2 : Int))) := by
 have hb := z20 (z25 s at_.toNat) 0
 have hne := z96 s at_.toNat (by omega)
 have hb0 := bt_drop s at_ 0 h0 (by omega) (by omega)
 rw [Int.add_zero] at hb0
 simp only [Int.toNat_zero] at hb0
 unfold spec_l2At.f spec_l1In.f
 simp only [if_pos h0, if_pos h1, hb0]
 generalize hx : ((nb s).drop at_.toNat).getD 0 0 = x at *
 rw [w64 (n := (x : Int)) (by omega) (by omega)]
 have key : ∀ (n0 many : Nat), n0 < 256 → 1 ≤ many → many ≤ 4 → (∀ n, n ≤ 1114111 → (eb n).getD 0 0 = x → (eb n).length = many ∧ n0 = x - if n < 128 then 0 else if n < 2048 then 192 else if n < 65536 then 224 else 240) →
   Ev (fun k => spec_l2At.j0 k s at_ n0 many) (if bad ((nb s).drop at_.toNat) then (0, 0) else (((dl ((nb s).drop at_.toNat)).1 : Int), ((dl ((nb s).drop at_.toNat)).2 : Int))) := by
  intro n0 many a1 a2 a3 a4
  rw [← fin2_eq _ (z25 s at_.toNat) hne n0 many a2 (by rw [hx]; exact a4)]
  exact l2At_j0 s at_ h0 h1 hs n0 many a1 a2 a3
 by_cases c1 : 192 ≤ x ∧ x ≤ 223
 ·have k := key (x - 192) 2 (by omega) (by omega) (by omega) (fun n hn he => by
   rcases heads n x hn he with h | ⟨_, _, g1, g2⟩ | h | h
   ·omega
   ·rw [z37, if_neg g1, if_pos g2, if_neg g1, if_pos g2]; exact ⟨rfl, rfl⟩
   ·omega
   ·omega)
  have e : ((x - 192 : Nat) : Int) = (x : Int) - 192 := by omega
  rw [e] at k
  simp only [ge_iff_le, show (192 : Int) ≤ x by omega, show (x : Int) ≤ 223 by omega, decide_true, if_true, Option.bind_some]
  rw [w64 (by omega) (by omega)]; exact k
 have n1 : (if (x : Int) ≥ 192 then some (decide ((x : Int) ≤ 223)) else some false) = some false := by
  by_cases q : (x : Int) ≥ 192
  ·rw [if_pos q, decide_eq_false (by omega)]
  ·rw [if_neg q]
 simp only [n1, Option.bind_some, Bool.false_eq_true, if_false]
 by_cases c2 : 224 ≤ x ∧ x ≤ 239
 ·have k := key (x - 224) 3 (by omega) (by omega) (by omega) (fun n hn he => by
   rcases heads n x hn he with h | h | ⟨_, _, g1, g2, g3⟩ | h
   ·omega
   ·omega
   ·rw [z37, if_neg g1, if_neg g2, if_pos g3, if_neg g1, if_neg g2, if_pos g3]; exact ⟨rfl, rfl⟩
   ·omega)
  have e : ((x - 224 : Nat) : Int) = (x : Int) - 224 := by omega
  rw [e] at k
  simp only [ge_iff_le, show (224 : Int) ≤ x by omega, show (x : Int) ≤ 239 by omega, decide_true, if_true, Option.bind_some]
  rw [w64 (by omega) (by omega)]; exact k
 have n2 : (if (x : Int) ≥ 224 then some (decide ((x : Int) ≤ 239)) else some false) = some false := by
  by_cases q : (x : Int) ≥ 224
  ·rw [if_pos q, decide_eq_false (by omega)]
  ·rw [if_neg q]
 simp only [n2, Option.bind_some, Bool.false_eq_true, if_false]
 by_cases c3 : 240 ≤ x ∧ x ≤ 247
 ·have k := key (x - 240) 4 (by omega) (by omega) (by omega) (fun n hn he => by
   rcases heads n x hn he with h | h | h | ⟨_, _, g1, g2, g3⟩
   ·omega
   ·omega
   ·omega
   ·rw [z37, if_neg g1, if_neg g2, if_neg g3, if_neg g1, if_neg g2, if_neg g3]; exact ⟨rfl, rfl⟩)
  have e : ((x - 240 : Nat) : Int) = (x : Int) - 240 := by omega
  rw [e] at k
  simp only [ge_iff_le, show (240 : Int) ≤ x by omega, show (x : Int) ≤ 247 by omega, decide_true, if_true, Option.bind_some]
  rw [w64 (by omega) (by omega)]; exact k
 have n3 : (if (x : Int) ≥ 240 then some (decide ((x : Int) ≤ 247)) else some false) = some false := by
  by_cases q : (x : Int) ≥ 240
  ·rw [if_pos q, decide_eq_false (by omega)]
  ·rw [if_neg q]
 simp only [n3, Option.bind_some, Bool.false_eq_true, if_false]
 by_cases c4 : (x : Int) ≥ 128
 ·simp only [c4, if_true]
  have hbad : bad ((nb s).drop at_.toNat) := by
   by_cases hb' : bad ((nb s).drop at_.toNat)
   ·exact hb'
   exfalso
   obtain ⟨g, e, w⟩ := dl_ok _ (z25 s at_.toNat) hne hb'
   have hp := (z24 (dl ((nb s).drop at_.toNat)).1).1
   have hh : (eb (dl ((nb s).drop at_.toNat)).1).getD 0 0 = x := by
    rw [← hx]
    conv => rhs; rw [e]
    rw [List.getD_eq_getElem?_getD, List.getD_eq_getElem?_getD, List.getElem?_append_left (by omega)]
   rcases heads _ x (by have := g.2.1; omega) hh with h | h | h | h <;> omega
  rw [if_pos hbad]; exact Ev.now _
 ·simp only [c4, if_false]
  have k := key x 1 (by omega) (by omega) (by omega) (fun n hn he => by
   rcases heads n x hn he with ⟨_, g1⟩ | h | h | h
   ·rw [z37, if_pos g1, if_pos g1]; exact ⟨rfl, rfl⟩
   ·omega
   ·omega
   ·omega)
  exact k
def rimp (acc : List Int) : Option (List Int) → List Int × Bool
 | some l => if acc.length + l.length ≤ 60 then (acc ++ l, true) else ([], false)
 | none => ([], false)
def z75 (acc : List Int) : Option (List Int) → List Int × Bool
 | some l => (acc ++ l, true)
 | none => ([], false)
theorem z47 (s : ByteArray) (at_ : Int) (h0 : 0 ≤ at_) : (nb s).drop at_.toNat = [] ↔ (s.size : Int) ≤ at_ := by
 rw [List.drop_eq_nil_iff, z1]; omega
theorem z41 (s : ByteArray) (at_ : Int) (h0 : 0 ≤ at_) (w : Nat) : ((nb s).drop at_.toNat).drop w = (nb s).drop (at_ + w).toNat := by
 rw [List.drop_drop]; congr 1; omega
theorem z28 (s : ByteArray) (hs : s.size < 1000000000000) (f : Nat) : ∀ (acc : List Int) (at_ : Int), 0 ≤ at_ → at_ ≤ s.size → ((nb s).drop at_.toNat).length < f → acc.length ≤ 60 →
  Ev (fun k => impl_runesOf.l0 k s acc at_) (rimp acc (z9 f ((nb s).drop at_.toNat))) := by
 induction f with
 | zero => intro acc at_ h0 h1 hf; omega
 | succ f ih =>
  intro acc at_ h0 h1 hf ha
  unfold z9
  by_cases c : (nb s).drop at_.toNat = []
  ·rw [if_pos c]
   have := (z47 s at_ h0).1 c
   refine Ev.step (f := fun _ => some (rimp acc (some []))) (fun k => ?_) (Ev.now _)
   rw [impl_runesOf.l0, if_neg (by omega)]
   simp [rimp]; omega
  ·rw [if_neg c]
   have hlt : at_ < s.size := by
    rcases Int.lt_or_le at_ s.size with h | h
    ·exact h
    ·exact absurd ((z47 s at_ h0).2 h) c
   have hr := runeAtImpl s at_ h0 hlt hs
   have hle := dl_le s at_.toNat (by omega)
   have hp := dl_pos ((nb s).drop at_.toNat)
   by_cases b : bad ((nb s).drop at_.toNat)
   ·rw [if_pos b] at hr
    rw [if_pos (show (dl ((nb s).drop at_.toNat)).1 = 65533 ∧ (dl ((nb s).drop at_.toNat)).2 < 2 from b)]
    refine Ev.step (f := fun _ => some (([] : List Int), false)) (fun k => ?_) (Ev.now _)
    rw [impl_runesOf.l0, if_pos hlt, hr]
    simp only [Option.bind_some]
    rw [if_neg (by decide)]
   ·rw [if_neg b] at hr
    rw [if_neg (show ¬ ((dl ((nb s).drop at_.toNat)).1 = 65533 ∧ (dl ((nb s).drop at_.toNat)).2 < 2) from b)]
    by_cases e : acc.length = 60
    ·have hres : rimp acc ((z9 f (((nb s).drop at_.toNat).drop (dl ((nb s).drop at_.toNat)).2)).map fun r => ((dl ((nb s).drop at_.toNat)).1 : Int) :: r) = ([], false) := by
      cases z9 f (((nb s).drop at_.toNat).drop (dl ((nb s).drop at_.toNat)).2) with
      | none => rfl
      | some l => simp [rimp, e]
     rw [hres]
     refine Ev.step (f := fun _ => some (([] : List Int), false)) (fun k => ?_) (Ev.now _)
     rw [impl_runesOf.l0, if_pos hlt, hr]
     simp only [Option.bind_some]
     rw [if_pos trivial, if_pos (by omega)]
    ·have hne : 1 ≤ ((nb s).drop at_.toNat).length := List.length_pos_iff.2 c
     have hl : (((nb s).drop at_.toNat).drop (dl ((nb s).drop at_.toNat)).2).length < f := by rw [List.length_drop]; omega
     rw [z41 s at_ h0] at hl ⊢
     have hi := ih (acc ++ [((dl ((nb s).drop at_.toNat)).1 : Int)]) (at_ + (dl ((nb s).drop at_.toNat)).2) (by omega) (by omega) hl (by simp; omega)
     have hres : ∀ o : Option (List Int), rimp (acc ++ [((dl ((nb s).drop at_.toNat)).1 : Int)]) o = rimp acc (o.map fun r => ((dl ((nb s).drop at_.toNat)).1 : Int) :: r) := by
      intro o
      cases o with
      | none => rfl
      | some l => simp only [rimp, Option.map_some, List.length_append, List.length_cons, List.length_nil, List.append_assoc, List.cons_append, List.nil_append, Nat.add_assoc, Nat.add_comm 1 l.length]
     rw [← hres]
     refine Ev.step (fun k => ?_) hi
     rw [impl_runesOf.l0, if_pos hlt, hr]
     simp only [Option.bind_some]
     rw [if_pos trivial, if_neg (by omega), if_pos (by omega)]
theorem z74 (s : ByteArray) (hs : s.size < 1000000000000) (f : Nat) : ∀ (acc : List Int) (at_ : Int), 0 ≤ at_ → at_ ≤ s.size → ((nb s).drop at_.toNat).length < f → acc.length + s.size < 10000000000000 + at_ →
  Ev (fun k => spec_l2Runes.l0 k s acc at_) (z75 acc (z9 f ((nb s).drop at_.toNat))) := by
 induction f with
 | zero => intro acc at_ h0 h1 hf; omega
 | succ f ih =>
  intro acc at_ h0 h1 hf ha
  unfold z9
  by_cases c : (nb s).drop at_.toNat = []
  ·rw [if_pos c]
   have := (z47 s at_ h0).1 c
   refine Ev.step (f := fun _ => some (z75 acc (some []))) (fun k => ?_) (Ev.now _)
   rw [spec_l2Runes.l0, if_neg (by omega)]
   simp [z75]
  ·rw [if_neg c]
   have hlt : at_ < s.size := by
    rcases Int.lt_or_le at_ s.size with h | h
    ·exact h
    ·exact absurd ((z47 s at_ h0).2 h) c
   have hr := l2At s at_ h0 hlt hs
   have hle := dl_le s at_.toNat (by omega)
   have hp := dl_pos ((nb s).drop at_.toNat)
   by_cases b : bad ((nb s).drop at_.toNat)
   ·rw [if_pos b] at hr
    rw [if_pos (show (dl ((nb s).drop at_.toNat)).1 = 65533 ∧ (dl ((nb s).drop at_.toNat)).2 < 2 from b)]
    refine Ev.step (f := fun k => (spec_l2At.f k s at_).bind fun b => if b.2 = 0 then some (([] : List Int), false) else if acc.length < 17592186044416 then spec_l2Runes.l0 k s (acc ++ [b.1]) (wrap64 (at_ + b.2)) else none) (fun k => ?_) (Ev.bind hr ?_)
    ·rw [spec_l2Runes.l0, if_pos hlt]
    ·simp only [if_true]; exact Ev.now _
   ·rw [if_neg b] at hr
    rw [if_neg (show ¬ ((dl ((nb s).drop at_.toNat)).1 = 65533 ∧ (dl ((nb s).drop at_.toNat)).2 < 2) from b)]
    have hne : 1 ≤ ((nb s).drop at_.toNat).length := List.length_pos_iff.2 c
    have hl : (((nb s).drop at_.toNat).drop (dl ((nb s).drop at_.toNat)).2).length < f := by rw [List.length_drop]; omega
    rw [z41 s at_ h0] at hl ⊢
    have hi := ih (acc ++ [((dl ((nb s).drop at_.toNat)).1 : Int)]) (at_ + (dl ((nb s).drop at_.toNat)).2) (by omega) (by omega) hl (by simp; omega)
    have hres : ∀ o : Option (List Int), z75 (acc ++ [((dl ((nb s).drop at_.toNat)).1 : Int)]) o = z75 acc (o.map fun r => ((dl ((nb s).drop at_.toNat)).1 : Int) :: r) := by
     intro o
     cases o with
     | none => rfl
     | some l => simp [z75]
    rw [← hres]
    refine Ev.step (f := fun k => (spec_l2At.f k s at_).bind fun b => if b.2 = 0 then some (([] : List Int), false) else if acc.length < 17592186044416 then spec_l2Runes.l0 k s (acc ++ [b.1]) (wrap64 (at_ + b.2)) else none) (fun k => ?_) (Ev.bind hr ?_)
    ·rw [spec_l2Runes.l0, if_pos hlt]
    ·simp only
     rw [w64 (by omega) (by omega)]
     simp only [show ¬ ((dl ((nb s).drop at_.toNat)).2 : Int) = 0 by omega, if_false, show acc.length < 17592186044416 by omega, if_true]
     exact hi
def R (s : ByteArray) : List Int × Bool := if s.size ≤ 240 then rimp [] (z9 (s.size + 1) (nb s)) else ([], false)
theorem z48 (s : ByteArray) (hs : s.size < 1000000000000) : Ev (fun k => impl_RunesOf.f k s) (R s) := by
 unfold impl_RunesOf.f impl_runesOf.f R
 by_cases c : s.size ≤ 240
 ·have := z28 s hs (s.size + 1) [] 0 (by omega) (by omega) (by rw [List.length_drop, z1]; omega) (by simp)
  simp only [Int.toNat_zero, List.drop_zero] at this
  simp only [c, if_true, show ¬ (s.size : Int) > 240 by omega, if_false]
  exact Ev.bind this (Ev.now _)
 ·simp only [c, if_false, show (s.size : Int) > 240 by omega, if_true]
  exact Ev.now _
theorem z32 (s : ByteArray) (hs : s.size < 1000000000000) : Ev (fun k => spec_RunesOf.f k s) (R s) := by
 unfold spec_RunesOf.f spec_l2Long.f spec_l2Runes.f R
 by_cases c : s.size ≤ 240
 ·have := z74 s hs (s.size + 1) [] 0 (by omega) (by omega) (by rw [List.length_drop, z1]; omega) (by simp; omega)
  simp only [Int.toNat_zero, List.drop_zero] at this
  simp only [c, if_true, show (s.size : Int) ≤ 240 by omega, decide_true, Option.bind_some]
  refine Ev.bind this ?_
  cases z9 (s.size + 1) (nb s) with
  | none => simp only [z75, rimp, Bool.false_eq_true, if_false]; exact Ev.now _
  | some l =>
   simp only [z75, rimp, if_true, List.nil_append, List.length_nil, Nat.zero_add]
   by_cases g : l.length ≤ 60
   ·simp only [g, if_true, show ¬ (l.length : Int) > 60 by omega, if_false]; exact Ev.now _
   ·simp only [g, if_false, show (l.length : Int) > 60 by omega, if_true]; exact Ev.now _
 ·simp only [c, if_false, show ¬ (s.size : Int) ≤ 240 by omega, decide_false, Option.bind_some, Bool.false_eq_true]
  exact Ev.now _
theorem z90 {s : ByteArray} {l : List Int} (h : R s = (l, true)) : z26 l ∧ nb s = encs l ∧ l.length ≤ 60 ∧ s.size ≤ 240 := by
 unfold R at h
 by_cases c : s.size ≤ 240
 ·rw [if_pos c] at h
  cases e : z9 (s.size + 1) (nb s) with
  | none => rw [e] at h; simp [rimp] at h
  | some m =>
   rw [e] at h
   simp only [rimp, List.length_nil, Nat.zero_add, List.nil_append] at h
   by_cases g : m.length ≤ 60
   ·rw [if_pos g] at h
    obtain rfl : m = l := congrArg Prod.fst h
    obtain ⟨h1, h2⟩ := z98 (fun x hx => nb_lt hx) e
    exact ⟨h1, h2, g, c⟩
   ·rw [if_neg g] at h; simp at h
 ·rw [if_neg c] at h; simp at h
theorem R_mk {s : ByteArray} {l : List Int} (h1 : z26 l) (h2 : nb s = encs l) (h3 : l.length ≤ 60) : R s = (l, true) := by
 have hl := congrArg List.length h2
 have := z56 l
 rw [z1] at hl
 unfold R
 rw [if_pos (by omega), h2, z99 h1 (by omega)]
 simp [rimp, h3]
theorem R_false {s : ByteArray} (h : (R s).2 = false) : (R s).1 = [] := by
 unfold R at h ⊢
 split
 ·rename_i c
  rw [if_pos c] at h
  cases e : z9 (s.size + 1) (nb s) with
  | none => rfl
  | some m =>
   rw [e] at h
   simp only [rimp] at h ⊢
   split
   ·rename_i g; rw [if_pos g] at h; simp at h
   ·rfl
 ·rfl
def Lp (a b : ByteArray) : Bool × Bool := if (R a).2 = true ∧ (R b).2 = true then (z2 (prs (R a).1) (prs (R b).1), true) else (false, false)
theorem R_len (s : ByteArray) : (R s).1.length ≤ 60 := by
 rcases h : R s with ⟨l, ok⟩
 cases ok with
 | true => exact (z90 h).2.2.1
 | false => have := R_false (s := s) (by rw [h]); rw [h] at this; simp only at this ⊢; rw [this]; simp
theorem z39 (s : ByteArray) (h : (R s).2 = true) : z26 (R s).1 := by
 rcases e : R s with ⟨l, ok⟩
 rw [e] at h
 simp only at h
 subst h
 exact (z90 e).1
theorem lessSpec (a b : ByteArray) (ha : a.size < 1000000000000) (hb : b.size < 1000000000000) : Ev (fun k => spec_LessPairs.f k a b) (Lp a b) := by
 unfold spec_LessPairs.f Lp
 have la := R_len a
 have lb := R_len b
 refine Ev.bind (z32 a (by omega)) (Ev.bind (z32 b (by omega)) ?_)
 by_cases c : (R a).2 = true
 ·simp only [c, if_true, true_and]
  by_cases d : (R b).2 = true
  ·simp only [d, if_true, Bool.not_true]
   have pa := z27 (R a).1
   have pb := z27 (R b).1
   refine Ev.step (f := fun k => spec_LessPairs.j0 (k + 1) (R a).1 (R b).1 false) (fun k => rfl) ?_
   simp only [spec_LessPairs.j0, Bool.false_eq_true, if_false]
   exact Ev.bind (z78 _ (z39 a c) (by omega)) (Ev.bind (z78 _ (z39 b d) (by omega)) (Ev.bind (l2Less _ _ (by omega) (by omega)) (Ev.now _)))
  ·rw [Bool.not_eq_true] at d
   simp only [d, Bool.false_eq_true, if_false, Bool.not_false]
   refine Ev.step (f := fun _ => some (false, false)) (fun k => ?_) (Ev.now _)
   rw [spec_LessPairs.j0, if_pos rfl]
 ·rw [Bool.not_eq_true] at c
  simp only [c, Bool.false_eq_true, if_false, false_and]
  refine Ev.step (f := fun _ => some (false, false)) (fun k => ?_) (Ev.now _)
  rw [spec_LessPairs.j0, if_pos rfl]
def less (a b : ByteArray) : Bool := (Lp a b).1
theorem z107 (a b : ByteArray) (ha : a.size < 1000000000000) (hb : b.size < 1000000000000) : Ev (fun k => spec_l7LessKey.f k a b) (less a b) := by
 unfold spec_l7LessKey.f
 exact Ev.bind (lessSpec a b ha hb) (Ev.now _)
theorem runesI (s : ByteArray) (hs : s.size < 1000000000000) (h : (R s).2 = true) : Ev (fun k => impl_runesOf.f k s) (R s) := by
 have c : s.size ≤ 240 := by
  rcases e : R s with ⟨l, ok⟩
  rw [e] at h
  simp only at h
  subst h
  exact (z90 e).2.2.2
 unfold impl_runesOf.f R
 have := z28 s hs (s.size + 1) [] 0 (by omega) (by omega) (by rw [List.length_drop, z1]; omega) (by simp)
 simp only [Int.toNat_zero, List.drop_zero] at this
 simp only [c, if_true]
 exact this
theorem cmpKeyI (a b : ByteArray) (ha : a.size < 1000000000000) (hb : b.size < 1000000000000) (ta : (R a).2 = true) (tb : (R b).2 = true) : ∃ c, Ev (fun k => impl_compareKeys.f k a b) c ∧ decide (0 ≤ c) = !less a b := by
 have la := R_len a
 have lb := R_len b
 have pa := z27 (R a).1
 have pb := z27 (R b).1
 obtain ⟨c, e, hc⟩ := z100 (prs (R a).1) (prs (R b).1) (by omega) (by omega)
 refine ⟨c, ?_, ?_⟩
 ·unfold impl_compareKeys.f
  exact Ev.bind (runesI a ha ta) (Ev.bind (runesI b hb tb) (Ev.bind (z79 _ (z39 a ta) (by omega)) (Ev.bind (z79 _ (z39 b tb) (by omega)) (Ev.bind e (Ev.now _)))))
 ·unfold less Lp
  rw [if_pos ⟨ta, tb⟩]
  simp only
  rw [← hc]
  by_cases h : c < 0
  ·rw [decide_eq_true h, decide_eq_false (by omega)]; rfl
  ·rw [decide_eq_false h, decide_eq_true (by omega)]; rfl
theorem z22 : ∀ (x : List Int), z2 x x = false
 | [] => rfl
 | a :: x => by simp [z2, z22 x]
theorem z18 : ∀ (x y z : List Int), z2 x y = true → z2 y z = true → z2 x z = true
 | _, [], _, h, _ => by simp [z2] at h
 | _, _ :: _, [], _, h => by simp [z2] at h
 | [], _ :: _, _ :: _, _, _ => rfl
 | a :: x, b :: y, c :: z, h, k => by
  simp only [z2, Bool.or_eq_true, decide_eq_true_eq, Bool.and_eq_true, beq_iff_eq] at h k ⊢
  rcases h with h | ⟨rfl, h⟩ <;> rcases k with k | ⟨rfl, k⟩
  ·exact .inl (Int.lt_trans h k)
  ·exact .inl h
  ·exact .inl k
  ·exact .inr ⟨rfl, z18 x y z h k⟩
def kp_ (a : ByteArray) : List Int := prs (R a).1
theorem z8 {a b : ByteArray} (ha : (R a).2 = true) (hb : (R b).2 = true) : less a b = z2 (kp_ a) (kp_ b) := by
 unfold less Lp
 rw [if_pos ⟨ha, hb⟩]; rfl
theorem kp_inj {a b : ByteArray} (ha : (R a).2 = true) (hb : (R b).2 = true) (h : kp_ a = kp_ b) : a = b := by
 have h1 := prs_inj (z39 a ha) (z39 b hb) h
 have ea : nb a = encs (R a).1 := by
  rcases e : R a with ⟨l, ok⟩
  rw [e] at ha; simp only at ha; subst ha
  exact (z90 e).2.1
 have eb : nb b = encs (R b).1 := by
  rcases e : R b with ⟨l, ok⟩
  rw [e] at hb; simp only at hb; subst hb
  exact (z90 e).2.1
 have e := toNat_inj (show a.data.toList.map UInt8.toNat = b.data.toList.map UInt8.toNat by show nb a = nb b; rw [ea, eb, h1])
 obtain ⟨⟨x⟩⟩ := a
 obtain ⟨⟨y⟩⟩ := b
 simp only at e
 subst e; rfl
theorem z105 {a b : ByteArray} (h : a.toList = b.toList) : a = b := by
 rw [ByteArray.toList_eq, ByteArray.toList_eq] at h
 obtain ⟨⟨x⟩⟩ := a
 obtain ⟨⟨y⟩⟩ := b
 simp only at h
 subst h; rfl
theorem z106 {a b : ByteArray} (ha : (R a).2 = true) (hb : (R b).2 = true) : less a b = true ∨ a = b ∨ less b a = true := by
 rw [z8 ha hb, z8 hb ha]
 cases h : z2 (kp_ a) (kp_ b) with
 | true => exact .inl rfl
 | false =>
  cases k : z2 (kp_ b) (kp_ a) with
  | true => exact .inr (.inr rfl)
  | false => exact .inr (.inl (kp_inj ha hb (z19 _ _ h k)))
theorem z33 {a : ByteArray} (ha : (R a).2 = true) : less a a = false := by rw [z8 ha ha]; exact z22 _
theorem less_asymm {a b : ByteArray} (ha : (R a).2 = true) (hb : (R b).2 = true) (h : less a b = true) : less b a = false := by
 rw [z8 ha hb] at h
 rw [z8 hb ha]
 exact z35 _ _ h
theorem z60 {a b c : ByteArray} (ha : (R a).2 = true) (hb : (R b).2 = true) (hc : (R c).2 = true) (h : less a b = true) (k : less b c = true) : less a c = true := by
 rw [z8 ha hb] at h
 rw [z8 hb hc] at k
 rw [z8 ha hc]
 exact z18 _ _ _ h k
def hdk (m : List S61) : ByteArray := (rd_T61 m 0).f0
def ile (x y : List S61) : Bool := !z2 (kp_ (hdk y)) (kp_ (hdk x))
theorem z84 (x y z : List S61) (h : ile x y = true) (k : ile y z = true) : ile x z = true := by
 unfold ile at *
 simp only [Bool.not_eq_true'] at *
 cases e : z2 (kp_ (hdk z)) (kp_ (hdk x)) with
 | false => rfl
 | true =>
  exfalso
  cases e1 : z2 (kp_ (hdk x)) (kp_ (hdk y)) with
  | true => rw [z18 _ _ _ e e1] at k; cases k
  | false => rw [z19 _ _ e1 h] at e; rw [e] at k; cases k
theorem ile_total (x y : List S61) : (ile x y || ile y x) = true := by
 unfold ile
 cases e : z2 (kp_ (hdk y)) (kp_ (hdk x)) with
 | false => rfl
 | true => rw [z35 _ _ e]; rfl
theorem ev_all {α : Type} (ms : List α) (cmp : Nat → α → α → Option Int) (V : α → α → Int) (h : ∀ x ∈ ms, ∀ y ∈ ms, Ev (fun k => cmp k x y) (V x y)) : ∃ K, ∀ k, K ≤ k → ∀ x ∈ ms, ∀ y ∈ ms, cmp k x y = some (V x y) := by
 have h1 : ∀ x ∈ ms, ∀ l : List α, (∀ y ∈ l, y ∈ ms) → ∃ K, ∀ k, K ≤ k → ∀ y ∈ l, cmp k x y = some (V x y) := by
  intro x hx l
  induction l with
  | nil => exact fun _ => ⟨0, fun k _ y hy => by cases hy⟩
  | cons a l ih =>
   intro hl
   obtain ⟨K1, h1⟩ := ih (fun y hy => hl y (List.mem_cons_of_mem _ hy))
   obtain ⟨K2, h2⟩ := h x hx a (hl a List.mem_cons_self)
   refine ⟨max K1 K2, fun k hk y hy => ?_⟩
   rcases List.mem_cons.1 hy with rfl | hy
   ·exact h2 k (by omega)
   ·exact h1 k (by omega) y hy
 have h2 : ∀ l : List α, (∀ x ∈ l, x ∈ ms) → ∃ K, ∀ k, K ≤ k → ∀ x ∈ l, ∀ y ∈ ms, cmp k x y = some (V x y) := by
  intro l
  induction l with
  | nil => exact fun _ => ⟨0, fun k _ x hx => by cases hx⟩
  | cons a l ih =>
   intro hl
   obtain ⟨K1, h3⟩ := ih (fun y hy => hl y (List.mem_cons_of_mem _ hy))
   obtain ⟨K2, h4⟩ := h1 a (hl a List.mem_cons_self) ms (fun _ hy => hy)
   refine ⟨max K1 K2, fun k hk x hx => ?_⟩
   rcases List.mem_cons.1 hx with rfl | hx
   ·exact h4 k (by omega)
   ·exact h3 k (by omega) x hx
 exact h2 ms (fun _ hx => hx)
theorem recordI (key : ByteArray) (ms : List (List S61)) (hp : ∀ x ∈ ms, 0 < x.length) (ht : ∀ x ∈ ms, (R (hdk x)).2 = true) (hs : ∀ x ∈ ms, (hdk x).size < 1000000000000) (hd : ms.Pairwise (fun x y => hdk x ≠ hdk y)) (hsum : rc_sum ms < 1099511627776) (hlen : ms.length < 1099511627776) :
  Ev (fun k => impl_record.f k key ms) (⟨key, 7, 0, ⟨#[]⟩, (ms.length : Int)⟩ :: (ms.mergeSort ile).flatten) := by
 have hc : ∀ x ∈ ms, ∀ y ∈ ms, ∃ c, Ev (fun k => impl_compareKeys.f k (hdk x) (hdk y)) c ∧ decide (0 ≤ c) = !less (hdk x) (hdk y) := fun x hx y hy => cmpKeyI _ _ (hs x hx) (hs y hy) (ht x hx) (ht y hy)
 obtain ⟨V, hV⟩ : ∃ V : List S61 → List S61 → Int, ∀ x ∈ ms, ∀ y ∈ ms, Ev (fun k => impl_compareKeys.f k (hdk x) (hdk y)) (V x y) ∧ decide (0 ≤ V x y) = !less (hdk x) (hdk y) := by
  classical
  refine ⟨fun x y => if h : ∃ c, Ev (fun k => impl_compareKeys.f k (hdk x) (hdk y)) c ∧ decide (0 ≤ c) = !less (hdk x) (hdk y) then h.choose else 0, fun x hx y hy => ?_⟩
  have h := hc x hx y hy
  simp only [h, dif_pos]
  exact h.choose_spec
 obtain ⟨K, hK⟩ := ev_all ms (fun k x y => impl_compareKeys.f k (hdk x) (hdk y)) V (fun x hx y hy => (hV x hx y hy).1)
 refine ⟨K, fun k hk => ?_⟩
 have hcmp : ∀ x ∈ ms, ∀ y ∈ ms, impl_compareKeys.f k (hdk x) (hdk y) = some (V x y) := hK k hk
 have hlt : ∀ x ∈ ms, ∀ y ∈ ms, rc_lt k x y = z2 (kp_ (hdk x)) (kp_ (hdk y)) := fun x hx y hy => by
  unfold rc_lt rc_cmpK
  have h1 := hcmp x hx y hy
  unfold hdk at h1
  rw [h1, ← z8 (ht x hx) (ht y hy)]
  have h2 := (hV x hx y hy).2
  show decide (V x y < 0) = _
  cases e : less (hdk x) (hdk y) with
  | true => rw [e] at h2; exact decide_eq_true (by have := of_decide_eq_false h2; omega)
  | false => rw [e] at h2; exact decide_eq_false (by have := of_decide_eq_true h2; omega)
 have ok : rc_ok k ms := by
  refine ⟨hp, fun x hx y hy => ⟨_, hcmp x hx y hy⟩, fun x hx => ?_, fun x hx y hy z hz a b => ?_, fun x hx y hy z hz a b => ?_, ?_, hsum, hlen⟩
  ·rw [hlt x hx x hx]; exact z22 _
  ·rw [hlt x hx y hy] at a; rw [hlt y hy z hz] at b; rw [hlt x hx z hz]; exact z18 _ _ _ a b
  ·rw [hlt x hx y hy] at a; rw [hlt y hy z hz] at b; rw [hlt x hx z hz]
   have := z84 z y x (by unfold ile; rw [b]; rfl) (by unfold ile; rw [a]; rfl)
   unfold ile at this
   simpa using this
  ·refine hd.imp_of_mem (fun {x y} hx hy h => ?_)
   rw [hlt x hx y hy, hlt y hy x hx, ← z8 (ht x hx) (ht y hy), ← z8 (ht y hy) (ht x hx)]
   rcases z106 (ht x hx) (ht y hy) with a | a | a
   ·exact .inl a
   ·exact absurd a h
   ·exact .inr a
 show impl_record.f k key ms = _
 unfold impl_record.f
 rw [if_pos ok]
 have : rc_sorted k ms = ms.mergeSort ile := by
  unfold rc_sorted
  have h := List.map_mergeSort (r := fun x y => !rc_lt k y x) (s := ile) (f := id) (l := ms) (fun a ha b hb => by simp only [id]; unfold ile; rw [hlt b hb a ha])
  rw [List.map_id, List.map_id] at h
  exact h
 rw [this]
theorem sorted_is (ms tg : List (List S61)) (hp : tg.Perm ms) (ht : ∀ x ∈ tg, (R (hdk x)).2 = true) (ho : tg.Pairwise (fun x y => less (hdk x) (hdk y) = true)) : ms.mergeSort ile = tg := by
 have h1 := List.pairwise_mergeSort z84 ile_total ms
 have h2 : tg.Pairwise (fun a b => ile a b = true) := ho.imp_of_mem (fun {x y} hx hy h => by
  unfold ile
  rw [← z8 (ht y hy) (ht x hx), less_asymm (ht x hx) (ht y hy) h]; rfl)
 have hpm : (ms.mergeSort ile).Perm tg := (List.mergeSort_perm ms ile).trans hp.symm
 refine List.Perm.eq_of_pairwise (le := fun a b => ile a b = true) (fun a b ha hb h3 h4 => ?_) h1 h2 hpm
 have ha' := hpm.mem_iff.1 ha
 have hk : kp_ (hdk a) = kp_ (hdk b) := by
  unfold ile at h3 h4
  simp only [Bool.not_eq_true'] at h3 h4
  exact (z19 _ _ h3 h4).symm
 have hkey := kp_inj (ht a ha') (ht b hb) hk
 obtain ⟨i, hi, rfl⟩ := List.mem_iff_getElem.1 ha'
 obtain ⟨j, hj, rfl⟩ := List.mem_iff_getElem.1 hb
 rcases Nat.lt_trichotomy i j with h | h | h
 ·have := List.pairwise_iff_getElem.1 ho i j hi hj h
  rw [hkey, z33 (ht _ (List.getElem_mem hj))] at this; cases this
 ·subst h; rfl
 ·have := List.pairwise_iff_getElem.1 ho j i hj hi h
  rw [hkey, z33 (ht _ (List.getElem_mem hj))] at this; cases this
def z4 (x : S61) : Bool :=
 if x.f1 = 1 ∨ x.f1 = 2 ∨ x.f1 = 3 then x.f2 == 0 && (x.f3.toList.isEmpty && x.f4 == 0)
 else if x.f1 = 4 then decide (-9007199254740991 ≤ x.f2 ∧ x.f2 ≤ 9007199254740991) && (x.f3.toList.isEmpty && x.f4 == 0)
 else if x.f1 = 5 then x.f2 == 0 && ((R x.f3).2 && x.f4 == 0)
 else if x.f1 = 6 ∨ x.f1 = 7 then x.f2 == 0 && x.f3.toList.isEmpty
 else false
theorem isTextI (s : ByteArray) (hs : s.size < 1000000000000) : Ev (fun k => impl_isText.f k s) (R s).2 := by
 unfold impl_isText.f
 exact Ev.bind (z48 s hs) (Ev.now _)
theorem z73 (s : ByteArray) (hs : s.size < 1000000000000) : Ev (fun k => spec_l7Runes.f k s) (R s).2 := by
 unfold spec_l7Runes.f
 exact Ev.bind (z32 s hs) (Ev.now _)
theorem z66 (a b c : Int) : impl_within.f a b c = some (decide (b ≤ a ∧ a ≤ c)) := by
 unfold impl_within.f
 by_cases h : a ≥ b
 ·rw [if_pos h]; simp [h]
 ·rw [if_neg h]; simp; intro h2; omega
theorem z91 (a b c : Int) : spec_l1In.f a b c = some (decide (b ≤ a ∧ a ≤ c)) := by
 unfold spec_l1In.f
 by_cases h : a ≥ b
 ·rw [if_pos h]; simp [h]
 ·rw [if_neg h]; simp; intro h2; omega
theorem z7 (l : List UInt8) : (l == ([] : List UInt8)) = l.isEmpty := by cases l <;> rfl
theorem isEmpty_iff (l : List UInt8) : l = ([] : List UInt8) ↔ l.isEmpty = true := by cases l <;> simp
theorem isNodeI (x : S61) (hs : x.f3.size < 1000000000000) : Ev (fun k => impl_isNode.f k x.f0 x.f1 x.f2 x.f3 x.f4) (z4 x) := by
 unfold impl_isNode.f z4
 have hz : ((⟨#[]⟩ : ByteArray).toList == ([] : List UInt8)) = true := by rw [ByteArray.toList]; unfold ByteArray.toList.loop; rfl
 by_cases c1 : x.f1 = 1
 ·simp only [c1, if_true]
  refine Ev.step (f := fun _ => some (x.f2 == 0 && (x.f3.toList.isEmpty && x.f4 == 0))) (fun k => ?_) (Ev.now _)
  simp only [impl_isNode.j0]
  simp [hz, z7]
 by_cases c2 : x.f1 = 2
 ·simp only [c2]
  refine Ev.step (f := fun _ => some (x.f2 == 0 && (x.f3.toList.isEmpty && x.f4 == 0))) (fun k => ?_) (Ev.now _)
  simp only [impl_isNode.j0]
  simp [hz, z7]
 by_cases c3 : x.f1 = 3
 ·simp only [c3]
  refine Ev.step (f := fun _ => some (x.f2 == 0 && (x.f3.toList.isEmpty && x.f4 == 0))) (fun k => ?_) (Ev.now _)
  simp only [impl_isNode.j0]
  simp [hz, z7]
 have c3b : (x.f1 == 3) = false := beq_eq_false_iff_ne.mpr c3
 simp only [c1, c2, c3, c3b, if_false, or_false, false_or]
 by_cases c4 : x.f1 = 4
 ·simp only [c4, if_true]
  refine Ev.step (f := fun _ => some (decide (-9007199254740991 ≤ x.f2 ∧ x.f2 ≤ 9007199254740991) && (x.f3.toList.isEmpty && x.f4 == 0))) (fun k => ?_) (Ev.now _)
  simp only [impl_isNode.j0, z66, hz, z7, Bool.false_eq_true, if_false, if_true, Option.bind_some]
  cases x.f3.toList.isEmpty <;> cases (x.f4 == 0) <;> simp
 by_cases c5 : x.f1 = 5
 ·simp only [c5, c4, if_true, if_false]
  refine Ev.step (f := fun k => if (x.f2 == 0 && x.f4 == 0) = true then (impl_isText.f k x.f3).bind fun t => some t else some false) (fun k => ?_) ?_
  ·simp only [impl_isNode.j0, hz, Bool.false_eq_true, if_false, if_true, Bool.true_and, show ((0 : Int) == 0) = true from rfl]
   rfl
  ·cases (x.f2 == 0) <;> cases (x.f4 == 0) <;> simp only [Bool.false_and, Bool.and_false, Bool.true_and, Bool.and_true, if_true, if_false, Bool.false_eq_true]
   ·exact Ev.now _
   ·exact Ev.now _
   ·exact Ev.now _
   ·exact Ev.bind (isTextI _ hs) (Ev.now _)
 by_cases c6 : x.f1 = 6
 ·simp only [c6]
  refine Ev.step (f := fun _ => some (x.f2 == 0 && x.f3.toList.isEmpty)) (fun k => ?_) (Ev.now _)
  simp only [impl_isNode.j0]
  simp [hz, z7]
 by_cases c7 : x.f1 = 7
 ·simp only [c7]
  refine Ev.step (f := fun _ => some (x.f2 == 0 && x.f3.toList.isEmpty)) (fun k => ?_) (Ev.now _)
  simp only [impl_isNode.j0]
  simp [hz, z7]
 simp only [c4, c5, c6, c7, if_false, or_self]
 refine Ev.step (f := fun _ => some false) (fun k => ?_) (Ev.now _)
 simp only [impl_isNode.j0, c4, c5, c6, c7, if_false, Bool.false_eq_true]
def z29 (x : S61) (ir : Bool) : Bool := (ir || x.f0.toList.isEmpty) && ((R x.f0).2 && (z4 x && (decide (x.f1 < 6) || decide (0 ≤ x.f4 ∧ x.f4 ≤ 40))))
theorem z50 (x : S61) (hs : x.f3.size < 1000000000000) (b : Bool) : Ev (fun k => spec_l7Node.j0 k (!b) x.f0 x.f1 x.f2 x.f3 x.f4) (b && (z4 x && (decide (x.f1 < 6) || decide (0 ≤ x.f4 ∧ x.f4 ≤ 40)))) := by
 cases b with
 | false => exact Ev.step (f := fun _ => some false) (fun k => by simp [spec_l7Node.j0]) (Ev.now _)
 | true =>
 unfold z4
 simp only [Bool.not_true, Bool.true_and]
 by_cases c1 : x.f1 = 1
 ·refine Ev.step (f := fun k => spec_l7Node.j1 k 1 true x.f0 1 x.f2 x.f3 x.f4) (fun k => by simp [spec_l7Node.j0, c1]) (Ev.step (f := fun _ => some (x.f2 == 0 && (x.f3.toList.isEmpty && x.f4 == 0))) (fun k => ?_) (by simp [c1]; exact Ev.now _))
  simp only [spec_l7Node.j1, if_true, isEmpty_iff]
  by_cases h2 : x.f2 = 0 <;> cases x.f3.toList.isEmpty <;> simp [h2]
 by_cases c2 : x.f1 = 2
 ·refine Ev.step (f := fun k => spec_l7Node.j1 k 2 true x.f0 2 x.f2 x.f3 x.f4) (fun k => by simp [spec_l7Node.j0, c2]) (Ev.step (f := fun _ => some (x.f2 == 0 && (x.f3.toList.isEmpty && x.f4 == 0))) (fun k => ?_) (by simp [c2]; exact Ev.now _))
  simp only [spec_l7Node.j1, if_true, isEmpty_iff]
  by_cases h2 : x.f2 = 0 <;> cases x.f3.toList.isEmpty <;> simp [h2]
 by_cases c3 : x.f1 = 3
 ·refine Ev.step (f := fun k => spec_l7Node.j1 k 3 true x.f0 3 x.f2 x.f3 x.f4) (fun k => by simp [spec_l7Node.j0, c3]) (Ev.step (f := fun _ => some (x.f2 == 0 && (x.f3.toList.isEmpty && x.f4 == 0))) (fun k => ?_) (by simp [c3]; exact Ev.now _))
  simp only [spec_l7Node.j1, if_true, isEmpty_iff]
  by_cases h2 : x.f2 = 0 <;> cases x.f3.toList.isEmpty <;> simp [h2]
 have c3b : (x.f1 == 3) = false := beq_eq_false_iff_ne.mpr c3
 refine Ev.step (f := fun k => spec_l7Node.j1 k x.f1 false x.f0 x.f1 x.f2 x.f3 x.f4) (fun k => by simp [spec_l7Node.j0, c1, c2, c3b]) ?_
 simp only [c1, c2, c3, or_false, false_or, if_false]
 by_cases c4 : x.f1 = 4
 ·refine Ev.step (f := fun _ => some (decide (-9007199254740991 ≤ x.f2 ∧ x.f2 ≤ 9007199254740991) && (x.f3.toList.isEmpty && x.f4 == 0))) (fun k => ?_) (by simp [c4]; exact Ev.now _)
  simp only [spec_l7Node.j1, c4, if_true, Bool.false_eq_true, if_false, isEmpty_iff, z91, Option.bind_some]
  cases x.f3.toList.isEmpty <;> by_cases h : (-9007199254740991 ≤ x.f2 ∧ x.f2 ≤ 9007199254740991) <;> simp [h]
 by_cases c5 : x.f1 = 5
 ·refine Ev.step (f := fun k => if x.f2 = 0 then (spec_l7Runes.f k x.f3).bind fun t => if t = true then some (x.f4 == 0) else some false else some false) (fun k => by simp [spec_l7Node.j1, c5]) ?_
  by_cases h : x.f2 = 0
  ·simp only [h, if_true, c5]
   refine Ev.bind (z73 _ hs) ?_
   cases (R x.f3).2 <;> simp <;> exact Ev.now _
  ·have hb : (x.f2 == 0) = false := beq_eq_false_iff_ne.mpr h
   simp only [h, if_false, hb, Bool.false_and, c5, if_true]; simp; exact Ev.now _
 by_cases c6 : x.f1 = 6
 ·refine Ev.step (f := fun _ => some ((x.f2 == 0 && x.f3.toList.isEmpty) && decide (0 ≤ x.f4 ∧ x.f4 ≤ 40))) (fun k => ?_) (by simp [c6]; exact Ev.now _)
  simp only [spec_l7Node.j1, c6, if_false, if_true, Bool.false_eq_true, isEmpty_iff, z91, Option.bind_some]
  by_cases h2 : x.f2 = 0 <;> cases x.f3.toList.isEmpty <;> simp [h2]
 by_cases c7 : x.f1 = 7
 ·refine Ev.step (f := fun _ => some ((x.f2 == 0 && x.f3.toList.isEmpty) && decide (0 ≤ x.f4 ∧ x.f4 ≤ 40))) (fun k => ?_) (by simp [c7]; exact Ev.now _)
  simp only [spec_l7Node.j1, c7, if_false, if_true, Bool.false_eq_true, isEmpty_iff, z91, Option.bind_some]
  by_cases h2 : x.f2 = 0 <;> cases x.f3.toList.isEmpty <;> simp [h2]
 refine Ev.step (f := fun _ => some false) (fun k => ?_) (by simp [c4, c5, c6, c7]; exact Ev.now _)
 simp [spec_l7Node.j1, c4, c5, c6, c7]
theorem l7NodeS (x : S61) (ir : Bool) (h0 : x.f0.size < 1000000000000) (hs : x.f3.size < 1000000000000) : Ev (fun k => spec_l7Node.f k x.f0 x.f1 x.f2 x.f3 x.f4 ir) (z29 x ir) := by
 unfold spec_l7Node.f z29
 cases ir with
 | true =>
  simp only [if_true, Bool.true_or, Bool.true_and]
  exact Ev.bind (z73 _ h0) (z50 x hs _)
 | false =>
  simp only [Bool.false_eq_true, if_false, Bool.false_or, isEmpty_iff]
  cases x.f0.toList.isEmpty with
  | true => simp only [if_true, Bool.true_and]; exact Ev.bind (z73 _ h0) (z50 x hs _)
  | false => simp only [Bool.false_eq_true, if_false, Bool.false_and]; exact z50 x hs false
def Sl (g : List S61 → Bool → Option (T7 × List S61)) (x : S61) : Nat → List T7 → List S61 → Option (T7 × List S61)
 | 0, acc, l => some (.mk x acc, l)
 | n + 1, acc, l => (g l (x.f1 == 7)).bind fun r => if x.f1 = 7 ∧ 0 < acc.length then acc.getLast?.bind fun u => if less u.x.f0 r.1.x.f0 = true then Sl g x n (acc ++ [r.1]) r.2 else none else Sl g x n (acc ++ [r.1]) r.2
def Sp : Nat → List S61 → Bool → Option (T7 × List S61)
 | 0, _, _ => none
 | d + 1, l, ir => l.head?.bind fun x => if z29 x ir = true then Sl (Sp d) x x.f4.toNat [] l.tail else none
theorem z89 {g : List S61 → Bool → Option (T7 × List S61)} (hg : ∀ l ir t r, g l ir = some (t, r) → r <:+ l) (x : S61) : ∀ (n : Nat) (acc : List T7) (l : List S61) (t : T7) (r : List S61), Sl g x n acc l = some (t, r) → r <:+ l ∧ t.x = x
 | 0, acc, l, t, r, h => by
  simp only [Sl, Option.some.injEq, Prod.mk.injEq] at h
  rw [← h.1, ← h.2]; exact ⟨List.suffix_refl _, rfl⟩
 | n + 1, acc, l, t, r, h => by
  simp only [Sl] at h
  obtain ⟨⟨t1, r1⟩, h1, h⟩ := Option.bind_eq_some_iff.mp h
  have h0 := hg _ _ _ _ h1
  have key : Sl g x n (acc ++ [t1]) r1 = some (t, r) := by
   by_cases c : x.f1 = 7 ∧ 0 < acc.length
   ·rw [if_pos c] at h
    obtain ⟨u, _, h⟩ := Option.bind_eq_some_iff.mp h
    by_cases e : less u.x.f0 t1.x.f0 = true
    ·rw [if_pos e] at h; exact h
    ·rw [if_neg e] at h; cases h
   ·rw [if_neg c] at h; exact h
  obtain ⟨a, b⟩ := z89 hg x n (acc ++ [t1]) r1 t r key
  exact ⟨a.trans h0, b⟩
theorem z88 : ∀ (d : Nat) (l : List S61) (ir : Bool) (t : T7) (r : List S61), Sp d l ir = some (t, r) → r <:+ l ∧ t.x ∈ l ∧ r.length < l.length
 | 0, l, ir, t, r, h => by cases h
 | d + 1, l, ir, t, r, h => by
  simp only [Sp] at h
  obtain ⟨x, hx, h⟩ := Option.bind_eq_some_iff.mp h
  by_cases c : z29 x ir = true
  ·rw [if_pos c] at h
   obtain ⟨a, b⟩ := z89 (fun l ir t r h => (z88 d l ir t r h).1) x _ _ _ t r h
   cases l with
   | nil => cases hx
   | cons y l =>
    injection hx with hx
    subst hx
    refine ⟨a.trans (List.suffix_cons _ _), by rw [b]; simp, ?_⟩
    have := a.length_le
    simp only [List.tail_cons, List.length_cons] at this ⊢
    omega
  ·rw [if_neg c] at h; cases h
def res (n : Nat) : Option (T7 × List S61) → Option T7 × Int
 | none => (none, -1)
 | some (t, r) => (some t, (n : Int) - r.length)
theorem drop_suffix {l r : List S61} {a : Nat} (h : r <:+ l.drop a) : r = l.drop (l.length - r.length) :=
 List.suffix_iff_eq_drop.1 (h.trans (List.drop_suffix a l))
theorem z101 (l : List S61) (hl : l.length ≤ 40) (hs : ∀ x ∈ l, x.f0.size < 1000000000000 ∧ x.f3.size < 1000000000000) (d a : Nat) (dp : Int) (x : S61) (hx : rd_T61 l a = x) (hdp : wrap64 (dp + 1) = dp + 1)
  (ih : ∀ (b : Nat) (ir : Bool), b ≤ l.length → Ev (fun k => spec_l7Tree.f k l b (dp + 1) ir) (res l.length (Sp d (l.drop b) ir))) : ∀ (n : Nat) (acc : List T7) (b : Nat), b ≤ l.length → acc.length + n = x.f4.toNat → acc.length + n ≤ 40 → (∀ u ∈ acc, u.x ∈ l) →
   Ev (fun k => spec_l7Tree.l k l a dp acc.length acc b) (res l.length (Sl (Sp d) x n acc (l.drop b)))
 | 0, acc, b, hb, hn, h40, hacc => by
  refine Ev.step (f := fun _ => some (some (.mk x acc), (b : Int))) (fun k => ?_) ?_
  ·rw [spec_l7Tree.l, hx, if_neg (by omega)]
  ·simp only [Sl, res, List.length_drop]
   rw [show ((l.length : Int) - ((l.length - b : Nat) : Int)) = b by omega]
   exact Ev.now _
 | n + 1, acc, b, hb, hn, h40, hacc => by
  refine Ev.step (f := fun k => (spec_l7Tree.f k l b (dp + 1) (x.f1 == 7)).bind fun r => if r.2 < 0 then some (none, -1) else r.1.bind fun t =>
     if x.f1 = 7 ∧ 0 < (acc.length : Int) then acc.getLast?.bind fun u => (spec_l7LessKey.f k u.x.f0 t.x.f0).bind fun b => if b = true then spec_l7Tree.l k l a dp (acc.length + 1) (acc ++ [t]) r.2 else some (none, -1)
     else spec_l7Tree.l k l a dp (acc.length + 1) (acc ++ [t]) r.2) (fun k => ?_) ?_
  ·rw [spec_l7Tree.l, hx, if_pos (by omega), if_pos (by omega), hdp, w64 (n := (acc.length : Int) + 1) (by omega) (by omega)]
  ·refine Ev.bind (ih b _ hb) ?_
   simp only [Sl]
   cases e : Sp d (l.drop b) (x.f1 == 7) with
   | none => simp only [res, Option.bind_none]; exact Ev.now _
   | some v =>
    obtain ⟨t, r⟩ := v
    obtain ⟨s1, s2, s3⟩ := z88 _ _ _ _ _ e
    have hr := drop_suffix s1
    have hrl : r.length ≤ l.length := Nat.le_trans s1.length_le (by rw [List.length_drop]; omega)
    have htl : t.x ∈ l := List.mem_of_mem_drop s2
    have hnn : ¬ ((l.length : Int) - r.length < 0) := by omega
    have next := z101 l hl hs d a dp x hx hdp ih n (acc ++ [t]) (l.length - r.length) (by omega) (by rw [List.length_append, List.length_singleton]; omega) (by rw [List.length_append, List.length_singleton]; omega) (fun u hu => by
     rcases List.mem_append.1 hu with h | h
     ·exact hacc u h
     ·rw [List.mem_singleton.1 h]; exact htl)
    rw [← hr, List.length_append, List.length_singleton, show (((l.length - r.length : Nat) : Int)) = (l.length : Int) - r.length by omega, show ((acc.length + 1 : Nat) : Int) = (acc.length : Int) + 1 by omega] at next
    simp only [res, hnn, if_false, Option.bind_some]
    by_cases c : x.f1 = 7 ∧ 0 < acc.length
    ·rw [if_pos c]
     simp only [if_pos (show x.f1 = 7 ∧ 0 < (acc.length : Int) from ⟨c.1, by omega⟩)]
     cases g : acc.getLast? with
     | none => rw [List.getLast?_eq_none_iff.1 g] at c; simp at c
     | some u =>
      have hu := hacc u (List.mem_of_getLast? g)
      simp only [Option.bind_some]
      refine Ev.bind (z107 _ _ (hs _ hu).1 (hs _ htl).1) ?_
      cases less u.x.f0 t.x.f0 with
      | true => simp only [if_true]; exact next
      | false => simp only [Bool.false_eq_true, if_false, res]; exact Ev.now _
    ·rw [if_neg c]
     simp only [if_neg (show ¬ (x.f1 = 7 ∧ 0 < (acc.length : Int)) from fun h => c ⟨h.1, by omega⟩)]
     exact next
theorem treeEv (l : List S61) (hl : l.length ≤ 40) (hs : ∀ x ∈ l, x.f0.size < 1000000000000 ∧ x.f3.size < 1000000000000) : ∀ (d : Nat), d ≤ 6 → ∀ (a : Nat) (ir : Bool), a ≤ l.length → Ev (fun k => spec_l7Tree.f k l a (7 - d) ir) (res l.length (Sp d (l.drop a) ir))
 | 0, _, a, ir, ha => by
  refine Ev.step (f := fun _ => some (none, -1)) (fun k => ?_) (Ev.now _)
  rw [spec_l7Tree.f]
  by_cases c : (a : Int) ≥ l.length
  ·rw [if_pos c]
  ·rw [if_neg c, if_pos (by omega)]
 | d + 1, hd, a, ir, ha => by
  by_cases c : (a : Int) ≥ l.length
  ·refine Ev.step (f := fun _ => some (none, -1)) (fun k => by rw [spec_l7Tree.f, if_pos c]) ?_
   rw [List.drop_of_length_le (by omega)]
   exact Ev.now _
  have ha' : a < l.length := by omega
  obtain ⟨x, hx⟩ : ∃ x, x = rd_T61 l a := ⟨_, rfl⟩
  have he : x = l[a] := by rw [hx]; simp [rd_T61, List.getD_eq_getElem?_getD, ha']
  have hxm : x ∈ l := by rw [he]; exact List.getElem_mem ha'
  refine Ev.step (f := fun k => (spec_l7Node.f k x.f0 x.f1 x.f2 x.f3 x.f4 ir).bind fun b => if b = true then spec_l7Tree.l k l a (7 - ((d + 1 : Nat) : Int)) 0 [] (a + 1) else some (none, -1)) (fun k => ?_) ?_
  ·rw [spec_l7Tree.f, if_neg c, if_neg (by omega), if_pos (by omega), ← hx, w64 (n := (a : Int) + 1) (by omega) (by omega)]
  ·refine Ev.bind (l7NodeS x ir (hs x hxm).1 (hs x hxm).2) ?_
   rw [List.drop_eq_getElem_cons ha', ← he]
   simp only [Sp, List.head?_cons, List.tail_cons, Option.bind_some]
   cases n : z29 x ir with
   | false => simp only [Bool.false_eq_true, if_false, res]; exact Ev.now _
   | true =>
    simp only [if_true]
    have h40 : x.f4.toNat ≤ 40 := by
     unfold z29 z4 at n
     simp only [Bool.and_eq_true, Bool.or_eq_true, decide_eq_true_eq] at n
     obtain ⟨_, _, n1, n2⟩ := n
     rcases n2 with h | h
     ·split at n1
      ·simp only [Bool.and_eq_true, beq_iff_eq] at n1; omega
      ·split at n1
       ·simp only [Bool.and_eq_true, beq_iff_eq] at n1; omega
       ·split at n1
        ·simp only [Bool.and_eq_true, beq_iff_eq] at n1; omega
        ·split at n1
         ·omega
         ·cases n1
     ·omega
    have := z101 l hl hs d a (7 - ((d + 1 : Nat) : Int)) x hx.symm (w64 (by omega) (by omega)) (fun b ir2 hb => by
     have := treeEv l hl hs d (by omega) b ir2 hb
     rw [show (7 - ((d + 1 : Nat) : Int)) + 1 = 7 - (d : Int) by omega]
     exact this) x.f4.toNat [] (a + 1) (by omega) (by simp) (by simpa using h40) (fun u hu => by cases hu)
    simpa using this
def z6 (l : List S61) : Bool := decide (l.length ≤ 40) && (match Sp 6 l false with | some (_, r) => r.isEmpty | none => false)
theorem ofS (l : List S61) (hl : l.length ≤ 40) (hs : ∀ x ∈ l, x.f0.size < 1000000000000 ∧ x.f3.size < 1000000000000) : Ev (fun k => spec_l7Of.f k l) ((res l.length (Sp 6 l false)).1, (res l.length (Sp 6 l false)).2 == (l.length : Int)) := by
 unfold spec_l7Of.f
 simp only [show ¬ (l.length : Int) > 40 by omega, if_false]
 have := treeEv l hl hs 6 (Nat.le_refl _) 0 false (by omega)
 simp only [List.drop_zero] at this
 exact Ev.bind this (Ev.now _)
theorem res_end (l : List S61) (v : Option (T7 × List S61)) : ((res l.length v).2 == (l.length : Int)) = (match v with | some (_, r) => r.isEmpty | none => false) := by
 cases v with
 | none => simp only [res]; exact beq_eq_false_iff_ne.mpr (by omega)
 | some v =>
  obtain ⟨t, r⟩ := v
  simp only [res]
  cases r with
  | nil => simp
  | cons y r => simp only [List.length_cons, List.isEmpty_cons]; exact beq_eq_false_iff_ne.mpr (by omega)
mutual
def flat : T7 → List S61
 | .mk x l => x :: z0 l
def z0 : List T7 → List S61
 | [] => []
 | t :: l => flat t ++ z0 l
end
mutual
def Sh : T7 → Prop
 | .mk x l => (x.f1 < 6 → l = []) ∧ (6 ≤ x.f1 → x.f4 = l.length ∧ l.length ≤ 40) ∧ Shs l
def Shs : List T7 → Prop
 | [] => True
 | t :: l => Sh t ∧ Shs l
end
def z43 (ir : Bool) (x : S61) : Bool := (ir || x.f0.toList.isEmpty) && (R x.f0).2
def z42 (kind : Int) (key last : ByteArray) (fst : Bool) : Bool :=
 if kind = 7 then (if (R key).2 = true then (if fst = true then false else !less last key) else true) else if kind = 6 then !key.toList.isEmpty else false
def Pl (g : T7 → Bool) (x : S61) : ByteArray → Bool → List T7 → Bool
 | _, _, [] => true
 | last, fst, t :: l => !z42 x.f1 t.x.f0 last fst && (g t && Pl g x t.x.f0 false l)
def Pt : Nat → T7 → Bool
 | 0, _ => false
 | d + 1, t => z4 t.x && Pl (Pt d) t.x ⟨#[]⟩ true t.kids
def z34 (acc : List T7) : ByteArray := match acc.getLast? with | some u => u.x.f0 | none => ⟨#[]⟩
theorem z64 (s : ByteArray) (h : s.toList.isEmpty = true) : (R s).2 = true := by
 have hs : s.toList = [] := List.isEmpty_iff.1 h
 have hn : nb s = encs [] := by
  rw [ByteArray.toList_eq] at hs
  unfold nb
  rw [hs]
  rfl
 have := R_mk (s := s) (l := []) (fun n hn => by cases hn) hn (by simp)
 rw [this]
theorem z108 (x t : S61) (acc : List T7) (hk : x.f1 = 6 ∨ x.f1 = 7) : (z43 (x.f1 == 7) t = true ∧ (x.f1 = 7 ∧ 0 < acc.length → ∃ u, acc.getLast? = some u ∧ less u.x.f0 t.f0 = true)) ↔ z42 x.f1 t.f0 (z34 acc) acc.isEmpty = false := by
 unfold z43 z42
 rcases hk with h | h
 ·rw [h]
  simp only [show ((6 : Int) == 7) = false from rfl, Bool.false_or, show ¬ ((6 : Int) = 7) by decide, if_false, if_true, false_and]
  constructor
  ·rintro ⟨a, _⟩
   simp only [Bool.and_eq_true] at a
   rw [a.1]; rfl
  ·intro a
   have a : t.f0.toList.isEmpty = true := by cases e : t.f0.toList.isEmpty <;> simp_all
   rw [a, z64 _ a]
   exact ⟨rfl, fun h => h.elim⟩
 ·rw [h]
  simp only [show ((7 : Int) == 7) = true from rfl, Bool.true_or, Bool.true_and, if_true, true_and]
  cases e : (R t.f0).2 with
  | false => simp
  | true =>
   simp only [if_true, true_and]
   rcases List.eq_nil_or_concat acc with rfl | ⟨a, u, rfl⟩
   ·simp
   ·simp [z34]
theorem Sl_iff (g : List S61 → Bool → Option (T7 × List S61)) (p : T7 → Bool) (hg : ∀ l ir t r, g l ir = some (t, r) ↔ l = flat t ++ r ∧ Sh t ∧ z43 ir t.x = true ∧ p t = true) (x : S61) :
  ∀ (n : Nat) (acc : List T7) (l : List S61) (t : T7) (r : List S61), (n = 0 ∨ x.f1 = 6 ∨ x.f1 = 7) → (Sl g x n acc l = some (t, r) ↔ ∃ ts, ts.length = n ∧ t = .mk x (acc ++ ts) ∧ l = z0 ts ++ r ∧ Shs ts ∧ Pl p x (z34 acc) acc.isEmpty ts = true)
 | 0, acc, l, t, r, _ => by
  simp only [Sl, Option.some.injEq, Prod.mk.injEq]
  constructor
  ·rintro ⟨rfl, rfl⟩; exact ⟨[], rfl, by simp, by simp [z0], by simp [Shs], rfl⟩
  ·rintro ⟨ts, h1, h2, h3, _, _⟩
   obtain rfl := List.length_eq_zero_iff.1 h1
   exact ⟨by rw [h2]; simp, by rw [h3]; simp [z0]⟩
 | n + 1, acc, l, t, r, hn => by
  have hk : x.f1 = 6 ∨ x.f1 = 7 := by
   rcases hn with h | h
   ·cases h
   ·exact h
  have hlast : ∀ t1 : T7, z34 (acc ++ [t1]) = t1.x.f0 ∧ (acc ++ [t1]).isEmpty = false := fun t1 => by simp [z34]
  constructor
  ·intro h
   simp only [Sl] at h
   obtain ⟨⟨t1, r1⟩, h1, h⟩ := Option.bind_eq_some_iff.mp h
   obtain ⟨g1, g2, g3, g4⟩ := (hg _ _ _ _).1 h1
   have key : (x.f1 = 7 ∧ 0 < acc.length → ∃ u, acc.getLast? = some u ∧ less u.x.f0 t1.x.f0 = true) ∧ Sl g x n (acc ++ [t1]) r1 = some (t, r) := by
    by_cases c : x.f1 = 7 ∧ 0 < acc.length
    ·rw [if_pos c] at h
     obtain ⟨u, hu, h⟩ := Option.bind_eq_some_iff.mp h
     by_cases e : less u.x.f0 t1.x.f0 = true
     ·rw [if_pos e] at h; exact ⟨fun _ => ⟨u, hu, e⟩, h⟩
     ·rw [if_neg e] at h; cases h
    ·rw [if_neg c] at h; exact ⟨fun h => absurd h c, h⟩
   obtain ⟨ts, i1, i2, i3, i4, i5⟩ := (Sl_iff g p hg x n (acc ++ [t1]) r1 t r (Or.inr hk)).1 key.2
   refine ⟨t1 :: ts, by simp [i1], by rw [i2]; simp, by rw [g1, i3]; simp [z0], by simp only [Shs]; exact ⟨g2, i4⟩, ?_⟩
   simp only [Pl]
   rw [(z108 x t1.x acc hk).1 ⟨g3, key.1⟩, g4]
   rw [(hlast t1).1, (hlast t1).2] at i5
   rw [i5]; rfl
  ·rintro ⟨ts, i1, i2, i3, i4, i5⟩
   cases ts with
   | nil => cases i1
   | cons t1 ts =>
    simp only [Pl, Bool.and_eq_true, Bool.not_eq_true'] at i5
    obtain ⟨b1, b2, b3⟩ := i5
    obtain ⟨k1, k2⟩ := (z108 x t1.x acc hk).2 b1
    simp only [Shs] at i4
    have h1 : g l (x.f1 == 7) = some (t1, z0 ts ++ r) := (hg _ _ _ _).2 ⟨by rw [i3]; simp [z0], i4.1, k1, b2⟩
    have h2 : Sl g x n (acc ++ [t1]) (z0 ts ++ r) = some (t, r) := (Sl_iff g p hg x n (acc ++ [t1]) _ t r (Or.inr hk)).2 ⟨ts, by simpa using i1, by rw [i2]; simp, rfl, i4.2, by rw [(hlast t1).1, (hlast t1).2]; exact b3⟩
    simp only [Sl, h1, Option.bind_some]
    by_cases c : x.f1 = 7 ∧ 0 < acc.length
    ·obtain ⟨u, hu, e⟩ := k2 c
     rw [if_pos c, hu]
     simp only [Option.bind_some]
     rw [if_pos e]; exact h2
    ·rw [if_neg c]; exact h2
theorem z76 (x : S61) (h : z4 x = true) : (x.f1 < 6 → x.f4 = 0) ∧ (6 ≤ x.f1 → x.f1 = 6 ∨ x.f1 = 7) := by
 unfold z4 at h
 split at h
 ·simp only [Bool.and_eq_true, beq_iff_eq] at h; exact ⟨fun _ => h.2.2, fun _ => by omega⟩
 ·split at h
  ·simp only [Bool.and_eq_true, beq_iff_eq] at h; exact ⟨fun _ => h.2.2, fun _ => by omega⟩
  ·split at h
   ·simp only [Bool.and_eq_true, beq_iff_eq] at h; exact ⟨fun _ => h.2.2, fun _ => by omega⟩
   ·split at h
    ·exact ⟨fun _ => by omega, fun _ => by omega⟩
    ·cases h
theorem z65 : ∀ (d : Nat) (l : List S61) (ir : Bool) (t : T7) (r : List S61), Sp d l ir = some (t, r) ↔ l = flat t ++ r ∧ Sh t ∧ z43 ir t.x = true ∧ Pt d t = true
 | 0, l, ir, t, r => by simp [Sp, Pt]
 | d + 1, l, ir, t, r => by
  have ih := Sl_iff (Sp d) (Pt d) (fun l ir t r => z65 d l ir t r)
  cases t with
  | mk y kids =>
  simp only [Sp, Pt, flat, T7.x, T7.kids]
  constructor
  ·intro h
   obtain ⟨x, hx, h⟩ := Option.bind_eq_some_iff.mp h
   by_cases c : z29 x ir = true
   ·rw [if_pos c] at h
    have c' := c
    unfold z29 at c'
    simp only [Bool.and_eq_true, Bool.or_eq_true, decide_eq_true_eq] at c'
    obtain ⟨c1, c2, c3, c4⟩ := c'
    have hk := z76 x c3
    have hn : x.f4.toNat = 0 ∨ x.f1 = 6 ∨ x.f1 = 7 := by
     by_cases h6 : x.f1 < 6
     ·exact Or.inl (by rw [hk.1 h6]; rfl)
     ·exact Or.inr (hk.2 (by omega))
    obtain ⟨ts, i1, i2, i3, i4, i5⟩ := (ih x _ [] _ _ _ hn).1 h
    injection i2 with i2a i2b
    subst i2a
    simp only [List.nil_append] at i2b
    subst i2b
    cases l with
    | nil => cases hx
    | cons z l =>
     injection hx with hx
     subst hx
     refine ⟨by simpa using i3, ?_, ?_, ?_⟩
     ·simp only [Sh]
      refine ⟨fun h6 => ?_, fun h6 => ?_, i4⟩
      ·have := hk.1 h6; rw [this] at i1; exact List.length_eq_zero_iff.1 i1
      ·omega
     ·unfold z43; simp only [Bool.and_eq_true, Bool.or_eq_true]; exact ⟨c1, c2⟩
     ·rw [c3]; simpa [z34] using i5
   ·rw [if_neg c] at h; cases h
  ·rintro ⟨h1, h2, h3, h4⟩
   simp only [Bool.and_eq_true] at h4
   simp only [Sh] at h2
   obtain ⟨s1, s2, s3⟩ := h2
   have hk := z76 y h4.1
   subst h1
   simp only [List.cons_append, List.head?_cons, List.tail_cons, Option.bind_some]
   have hat : z29 y ir = true := by
    unfold z29
    unfold z43 at h3
    simp only [Bool.and_eq_true, Bool.or_eq_true, decide_eq_true_eq] at h3 ⊢
    refine ⟨h3.1, h3.2, h4.1, ?_⟩
    by_cases h6 : y.f1 < 6
    ·exact Or.inl h6
    ·have := s2 (by omega); exact Or.inr (by omega)
   rw [if_pos hat]
   have hlen : kids.length = y.f4.toNat := by
    by_cases h6 : y.f1 < 6
    ·rw [s1 h6, hk.1 h6]; rfl
    ·have := s2 (by omega); omega
   have hn : y.f4.toNat = 0 ∨ y.f1 = 6 ∨ y.f1 = 7 := by
    by_cases h6 : y.f1 < 6
    ·exact Or.inl (by rw [hk.1 h6]; rfl)
    ·exact Or.inr (hk.2 (by omega))
   exact (ih y _ [] _ _ _ hn).2 ⟨kids, hlen, by simp, rfl, s3, by simpa [z34] using h4.2⟩
theorem z15 : ∀ (a b : List T7), z0 (a ++ b) = z0 a ++ z0 b
 | [], b => by simp [z0]
 | t :: a, b => by simp [z0, z15 a b]
theorem z38 : ∀ (a b : List T7), Shs (a ++ b) ↔ Shs a ∧ Shs b
 | [], b => by simp [Shs]
 | t :: a, b => by simp [Shs, z38 a b, and_assoc]
def szo : List S61 → Nat → Option Nat
 | [], o => if o = 0 then some 0 else none
 | x :: l, o => if o = 0 then some 0 else if 6 ≤ x.f1 then (if 0 ≤ x.f4 ∧ x.f4 ≤ 40 then (szo l (o - 1 + x.f4.toNat)).map (· + 1) else none) else (szo l (o - 1)).map (· + 1)
theorem z67 : ∀ (l : List S61) (o n : Nat), szo l o = some n → ∃ ts r, ts.length = o ∧ Shs ts ∧ (z0 ts).length = n ∧ l = z0 ts ++ r
 | [], o, n, h => by
  simp only [szo] at h
  by_cases c : o = 0
  ·rw [if_pos c] at h; injection h with h; exact ⟨[], [], by simp [c], by simp [Shs], by simp [z0, h], by simp [z0]⟩
  ·rw [if_neg c] at h; cases h
 | x :: l, o, n, h => by
  simp only [szo] at h
  by_cases c : o = 0
  ·rw [if_pos c] at h; injection h with h; exact ⟨[], x :: l, by simp [c], by simp [Shs], by simp [z0, h], by simp [z0]⟩
  rw [if_neg c] at h
  by_cases c6 : 6 ≤ x.f1
  ·rw [if_pos c6] at h
   by_cases c7 : 0 ≤ x.f4 ∧ x.f4 ≤ 40
   ·rw [if_pos c7] at h
    obtain ⟨m, hm, hmn⟩ := Option.map_eq_some_iff.1 h
    obtain ⟨ts, r, t1, t2, t3, t4⟩ := z67 l _ m hm
    have e := (List.take_append_drop x.f4.toNat ts).symm
    have s2 := (z38 _ _).1 (e ▸ t2)
    have hk : (ts.take x.f4.toNat).length = x.f4.toNat := by rw [List.length_take]; omega
    have f2 : z0 (ts.take x.f4.toNat) ++ z0 (ts.drop x.f4.toNat) = z0 ts := by rw [← z15, List.take_append_drop]
    refine ⟨.mk x (ts.take x.f4.toNat) :: ts.drop x.f4.toNat, r, by rw [List.length_cons, List.length_drop]; omega, ?_, ?_, ?_⟩
    ·simp only [Shs, Sh]; exact ⟨⟨fun h => by omega, fun _ => ⟨by omega, by omega⟩, s2.1⟩, s2.2⟩
    ·simp only [z0, flat, List.cons_append, f2, List.length_cons]; omega
    ·simp only [z0, flat, List.cons_append, f2, t4]
   ·rw [if_neg c7] at h; cases h
  ·rw [if_neg c6] at h
   obtain ⟨m, hm, hmn⟩ := Option.map_eq_some_iff.1 h
   obtain ⟨ts, r, t1, t2, t3, t4⟩ := z67 l _ m hm
   refine ⟨.mk x [] :: ts, r, by rw [List.length_cons]; omega, ?_, ?_, ?_⟩
   ·simp only [Shs, Sh]; exact ⟨⟨fun _ => trivial, fun h => absurd h c6, trivial⟩, t2⟩
   ·simp only [z0, flat, List.cons_append, List.nil_append, List.length_cons]; omega
   ·simp only [z0, flat, List.cons_append, List.nil_append, t4]
theorem z102 : ∀ (l : List S61) (ts : List T7) (r : List S61), l = z0 ts ++ r → Shs ts → szo l ts.length = some (z0 ts).length
 | l, [], r, h, hs => by cases l <;> simp [szo, z0]
 | [], .mk x kids :: ts, r, h, hs => by simp [z0, flat] at h
 | y :: l, .mk x kids :: ts, r, h, hs => by
  simp only [z0, flat, List.cons_append, List.cons.injEq] at h
  obtain ⟨rfl, h⟩ := h
  simp only [Shs, Sh] at hs
  obtain ⟨⟨s1, s2, s3⟩, s4⟩ := hs
  have := z102 l (kids ++ ts) r (by rw [z15]; exact h) ((z38 _ _).2 ⟨s3, s4⟩)
  simp only [szo, List.length_cons, Nat.add_eq_zero_iff, Nat.one_ne_zero, and_false, if_false]
  by_cases c6 : 6 ≤ y.f1
  ·have s2 := s2 c6
   rw [if_pos c6, if_pos ⟨by omega, by omega⟩, show ts.length + 1 - 1 + y.f4.toNat = (kids ++ ts).length by rw [List.length_append]; omega, this, z15]
   simp [z0, flat]
  ·have s1 := s1 (by omega)
   subst s1
   rw [if_neg c6, show ts.length + 1 - 1 = ([] ++ ts : List T7).length by simp, this]
   simp [z0, flat]
theorem z68 (l : List S61) (hl : l.length ≤ 40) : ∀ (m a o : Nat), a + m = l.length → o ≤ 100 + 40 * a → Ev (fun k => impl_sizeOf.l0 k l a o) (match szo (l.drop a) o with | some n => ((a + n : Nat) : Int) | none => 0)
 | 0, a, o, hm, ho => by
  rw [List.drop_of_length_le (by omega)]
  simp only [szo]
  by_cases c : o = 0
  ·subst c
   refine Ev.step (f := fun _ => some (a : Int)) (fun k => ?_) (Ev.now _)
   simp [impl_sizeOf.l0]
  ·simp only [c, if_false]
   refine Ev.step (f := fun k => impl_sizeOf.j1 k l a o true) (fun k => ?_) (Ev.step (f := fun _ => some 0) (fun k => ?_) (Ev.now _))
   ·rw [impl_sizeOf.l0, if_pos (by omega), if_pos (by omega)]
   ·rw [impl_sizeOf.j1, if_pos rfl]
 | m + 1, a, o, hm, ho => by
  have ha : a < l.length := by omega
  rw [List.drop_eq_getElem_cons ha]
  simp only [szo]
  by_cases c : o = 0
  ·subst c
   refine Ev.step (f := fun _ => some (a : Int)) (fun k => ?_) (Ev.now _)
   simp [impl_sizeOf.l0]
  simp only [c, if_false]
  obtain ⟨x, hx⟩ : ∃ x, x = l[a] := ⟨_, rfl⟩
  have hr : rd_T61 l a = x := by rw [hx]; simp [rd_T61, List.getD_eq_getElem?_getD, ha]
  rw [← hx]
  refine Ev.step (f := fun k => impl_sizeOf.j1 k l a o false) (fun k => ?_) ?_
  ·rw [impl_sizeOf.l0, if_pos (by omega), if_neg (by omega), beq_eq_false_iff_ne.mpr (show (a : Int) ≠ 40 by omega)]
  by_cases c6 : 6 ≤ x.f1
  ·simp only [c6, if_true]
   by_cases c7 : 0 ≤ x.f4 ∧ x.f4 ≤ 40
   ·have ih := z68 l hl m (a + 1) (o - 1 + x.f4.toNat) (by omega) (by omega)
    refine Ev.step (f := fun k => impl_sizeOf.l0 k l ((a + 1 : Nat) : Int) ((o - 1 + x.f4.toNat : Nat) : Int)) (fun k => ?_) ?_
    ·rw [impl_sizeOf.j1, if_neg (by decide), if_pos (by omega), if_pos (by omega), hr, if_pos c6, z66, decide_eq_true c7]
     simp only [Option.bind_some, if_true]
     rw [w64 (n := (a : Int) + 1) (by omega) (by omega), w64 (n := (o : Int) + x.f4) (by omega) (by omega), w64 (by omega) (by omega)]
     congr 1; omega
    ·simp only [c7, and_self, if_true]
     refine Ev.congr (fun k => rfl) ?_
     cases e : szo (l.drop (a + 1)) (o - 1 + x.f4.toNat) with
     | none => rw [e] at ih; exact ih
     | some n => rw [e] at ih; simp only [Option.map_some] at ih ⊢; rw [show a + (n + 1) = a + 1 + n by omega]; exact ih
   ·refine Ev.step (f := fun _ => some 0) (fun k => ?_) (by simp only [c7, if_false]; exact Ev.now _)
    rw [impl_sizeOf.j1, if_neg (by decide), if_pos (by omega), if_pos (by omega), hr, if_pos c6, z66, decide_eq_false c7]
    rfl
  ·simp only [c6, if_false]
   have ih := z68 l hl m (a + 1) (o - 1) (by omega) (by omega)
   refine Ev.step (f := fun k => impl_sizeOf.l0 k l ((a + 1 : Nat) : Int) ((o - 1 : Nat) : Int)) (fun k => ?_) ?_
   ·rw [impl_sizeOf.j1, if_neg (by decide), if_pos (by omega), if_pos (by omega), hr, if_neg c6]
    rw [w64 (n := (a : Int) + 1) (by omega) (by omega), w64 (n := (o : Int) - 1) (by omega) (by omega)]
    congr 1; omega
   ·cases e : szo (l.drop (a + 1)) (o - 1) with
    | none => rw [e] at ih; exact ih
    | some n => rw [e] at ih; simp only [Option.map_some] at ih ⊢; rw [show a + (n + 1) = a + 1 + n by omega]; exact ih
theorem sizeI (l : List S61) (hl : l.length ≤ 40) : Ev (fun k => impl_sizeOf.f k l) (match szo l 1 with | some n => (n : Int) | none => 0) := by
 unfold impl_sizeOf.f
 have := z68 l hl l.length 0 1 (by omega) (by omega)
 simpa using this
theorem z11 : ∀ (t : T7), 0 < (flat t).length
 | .mk x l => by simp [flat]
theorem z14 (t : T7) : rd_T61 (flat t) 0 = t.x := by cases t; simp [flat, rd_T61, T7.x]
theorem z77 : ∀ (ts : List T7) (acc : List (List S61)), Shs ts → (z0 ts).length ≤ 40 → acc.length + ts.length ≤ 100 → Ev (fun k => impl_partsOf.l0 k acc (z0 ts)) (acc ++ ts.map flat)
 | [], acc, _, _, _ => by
  refine Ev.step (f := fun _ => some acc) (fun k => ?_) (by simpa using Ev.now _)
  simp [impl_partsOf.l0, z0]
 | t :: ts, acc, hs, hl, ha => by
  have hp := z11 t
  simp only [Shs] at hs
  simp only [z0, List.length_append] at hl
  rw [List.length_cons] at ha
  have hz : szo (flat t ++ z0 ts) 1 = some (flat t).length := by
   have := z102 (flat t ++ z0 ts) [t] (z0 ts) (by simp [z0]) (by simp [Shs, hs.1])
   simpa [z0] using this
  have h1 := sizeI (flat t ++ z0 ts) (by rw [List.length_append]; exact hl)
  rw [hz] at h1
  have ih := z77 ts (acc ++ [flat t]) hs.2 (by omega) (by rw [List.length_append, List.length_singleton]; omega)
  refine Ev.step (f := fun k => (impl_sizeOf.f k (flat t ++ z0 ts)).bind fun n => (if 0 ≤ n then (if n ≤ ((flat t ++ z0 ts).length : Int) then (if acc.length < 5864062014805 then (impl_partsOf.l0 k (acc ++ [((flat t ++ z0 ts).take (n : Int).toNat)]) ((flat t ++ z0 ts).drop (n : Int).toNat)) else (none)) else (none)) else (none))) (fun k => ?_) ?_
  ·rw [impl_partsOf.l0, z0, if_pos (by rw [List.length_append]; omega)]
  ·refine Ev.bind h1 ?_
   simp only [Int.toNat_natCast, List.take_left, List.drop_left]
   simp only [show (0 : Int) ≤ ((flat t).length : Int) by omega, show ((flat t).length : Int) ≤ ((flat t ++ z0 ts).length : Int) by rw [List.length_append]; omega, show acc.length < 5864062014805 by omega, if_true]
   simpa using ih
theorem partsI (x : S61) (kids : List T7) (hs : Shs kids) (hl : (z0 kids).length ≤ 40) (hk : kids.length ≤ 40) : Ev (fun k => impl_partsOf.f k (flat (.mk x kids))) (kids.map flat) := by
 unfold impl_partsOf.f
 simp only [flat, List.length_cons, List.drop_succ_cons, List.drop_zero]
 have := z77 kids [] hs hl (by simp; omega)
 rw [List.nil_append] at this
 simp only [show (1 : Int) ≤ (((z0 kids).length + 1 : Nat) : Int) by omega, if_true]
 exact this
theorem badI (kind : Int) (key last : ByteArray) (i : Int) (h1 : key.size < 1000000000000) (h2 : last.size < 1000000000000) (ht : kind = 7 → 0 < i → (R last).2 = true) : Ev (fun k => impl_isPart.bad k kind key last i) (z42 kind key last (decide (i ≤ 0))) := by
 unfold impl_isPart.bad z42
 by_cases c : kind = 7
 ·simp only [c, if_true]
  refine Ev.bind (isTextI key h1) ?_
  cases e : (R key).2 with
  | false => simp only [Bool.false_eq_true, if_false]; exact Ev.now _
  | true =>
   simp only [if_true]
   by_cases d : 0 < i
   ·obtain ⟨v, e1, e2⟩ := cmpKeyI last key h2 h1 (ht c d) e
    simp only [d, if_true, decide_eq_false (show ¬ i ≤ 0 by omega), Bool.false_eq_true, if_false]
    rw [← e2]
    exact Ev.bind e1 (Ev.now _)
   ·simp only [d, if_false, decide_eq_true (show i ≤ 0 by omega), if_true]; exact Ev.now _
 ·simp only [c, if_false]
  by_cases d : kind = 6
  ·simp only [d, if_true]; exact Ev.now _
  ·simp only [d, if_false]; exact Ev.now _
theorem z104 (l : List S61) (x : S61) (hx : rd_T61 l 0 = x) (dp : Int) (hdp : wrap64 (dp + 1) = dp + 1) (kids : List T7) (hk : kids.length ≤ 40) (hs : ∀ t ∈ kids, t.x.f0.size < 1000000000000) (g : T7 → Bool) (ih : ∀ t ∈ kids, Ev (fun k => impl_isPart.f k (flat t) (dp + 1)) (g t)) :
  ∀ (rest pre : List T7) (last : ByteArray), kids = pre ++ rest → last.size < 1000000000000 → (x.f1 = 7 → pre ≠ [] → (R last).2 = true) → Ev (fun k => impl_isPart.l k l dp (kids.map flat) last pre.length) (Pl g x last pre.isEmpty rest)
 | [], pre, last, e, _, _ => by
  refine Ev.step (f := fun _ => some true) (fun k => ?_) (by simp only [Pl]; exact Ev.now _)
  rw [impl_isPart.l, if_neg (by rw [e]; simp)]
 | t :: rest, pre, last, e, hlast, htx => by
  have htm : t ∈ kids := by rw [e]; simp
  have hlen : kids.length = pre.length + (rest.length + 1) := by rw [e]; simp
  have hr : rd_L5 (kids.map flat) pre.length = flat t := by rw [e]; simp [rd_L5, List.getD_eq_getElem?_getD]
  have hp := z11 t
  refine Ev.step (f := fun k => (impl_isPart.bad k x.f1 t.x.f0 last pre.length).bind fun b => if b = true then some false else (impl_isPart.f k (flat t) (dp + 1)).bind fun b => if b = true then impl_isPart.l k l dp (kids.map flat) t.x.f0 (pre.length + 1) else some false) (fun k => ?_) ?_
  ·rw [impl_isPart.l, if_pos (by rw [List.length_map]; omega), hr, if_pos (by omega), hx, z14, hdp]
  ·refine Ev.bind (badI x.f1 t.x.f0 last pre.length (hs t htm) hlast (fun h7 hi => htx h7 (by intro h; rw [h] at hi; simp at hi))) ?_
   have hf : decide ((pre.length : Int) ≤ 0) = pre.isEmpty := by cases pre <;> simp
   rw [hf]
   simp only [Pl]
   cases hb : z42 x.f1 t.x.f0 last pre.isEmpty with
   | true => simp only [if_true, Bool.not_true, Bool.false_and]; exact Ev.now _
   | false =>
    simp only [Bool.false_eq_true, if_false, Bool.not_false, Bool.true_and]
    refine Ev.bind (ih t htm) ?_
    cases g t with
    | false => simp only [Bool.false_eq_true, if_false, Bool.false_and]; exact Ev.now _
    | true =>
     simp only [if_true, Bool.true_and]
     have := z104 l x hx dp hdp kids hk hs g ih rest (pre ++ [t]) t.x.f0 (by rw [e]; simp) (hs t htm) (fun h7 _ => by
      unfold z42 at hb
      rw [if_pos h7] at hb
      cases e : (R t.x.f0).2 with
      | true => rfl
      | false => rw [e] at hb; simp at hb)
     rw [show (pre ++ [t]).isEmpty = false by cases pre <;> rfl, List.length_append, List.length_singleton, show ((pre.length + 1 : Nat) : Int) = (pre.length : Int) + 1 by omega] at this
     exact this
theorem z12 {t : T7} : ∀ {ts : List T7}, t ∈ ts → (flat t).length ≤ (z0 ts).length ∧ (∀ y ∈ flat t, y ∈ z0 ts)
 | a :: ts, h => by
  rcases List.mem_cons.1 h with rfl | h
  ·simp only [z0, List.length_append]; exact ⟨by omega, fun y hy => List.mem_append_left _ hy⟩
  ·obtain ⟨h1, h2⟩ := z12 h
   simp only [z0, List.length_append]; exact ⟨by omega, fun y hy => List.mem_append_right _ (h2 y hy)⟩
theorem Shs_mem {t : T7} : ∀ {ts : List T7}, Shs ts → t ∈ ts → Sh t
 | a :: ts, h, hm => by
  simp only [Shs] at h
  rcases List.mem_cons.1 hm with rfl | hm
  ·exact h.1
  ·exact Shs_mem h.2 hm
theorem z13 : ∀ (ts : List T7), ts.length ≤ (z0 ts).length
 | [] => by simp [z0]
 | t :: ts => by have := z13 ts; have := z11 t; simp only [z0, List.length_append, List.length_cons]; omega
theorem partI : ∀ (d : Nat), d ≤ 6 → ∀ (t : T7), Sh t → (flat t).length ≤ 40 → (∀ y ∈ flat t, y.f0.size < 1000000000000 ∧ y.f3.size < 1000000000000) → Ev (fun k => impl_isPart.f k (flat t) (7 - d)) (Pt d t)
 | 0, _, t, _, _, _ => by
  refine Ev.step (f := fun _ => some false) (fun k => ?_) (by simp only [Pt]; exact Ev.now _)
  rw [impl_isPart.f, if_pos (by omega)]
 | d + 1, hd, .mk x kids, hsh, hl, hs => by
  simp only [Sh] at hsh
  have hp := z11 (.mk x kids)
  have hx := z14 (.mk x kids)
  simp only [T7.x] at hx
  have hxs := hs x (by simp [flat])
  have hfl : (z0 kids).length ≤ 40 := by simp only [flat, List.length_cons] at hl; omega
  have hkl : kids.length ≤ 40 := Nat.le_trans (z13 kids) hfl
  refine Ev.step (f := fun k => (impl_isNode.f k x.f0 x.f1 x.f2 x.f3 x.f4).bind fun b => if b = true then (impl_partsOf.f k (flat (.mk x kids))).bind fun ps => if ps.length < 1000000 then impl_isPart.l k (flat (.mk x kids)) (7 - ((d + 1 : Nat) : Int)) ps ⟨#[]⟩ 0 else none else some false) (fun k => ?_) ?_
  ·rw [impl_isPart.f, if_neg (by omega), if_pos (by omega), hx]
  ·refine Ev.bind (isNodeI x hxs.2) ?_
   simp only [Pt, T7.x, T7.kids]
   cases z4 x with
   | false => simp only [Bool.false_eq_true, if_false, Bool.false_and]; exact Ev.now _
   | true =>
    simp only [if_true, Bool.true_and]
    refine Ev.bind (partsI x kids hsh.2.2 hfl hkl) ?_
    simp only [List.length_map, show kids.length < 1000000 by omega, if_true]
    have hin : ∀ t ∈ kids, ∀ y ∈ flat t, y.f0.size < 1000000000000 ∧ y.f3.size < 1000000000000 := fun t ht y hy => hs y (by simp only [flat]; exact List.mem_cons_of_mem _ ((z12 ht).2 y hy))
    have := z104 (flat (.mk x kids)) x hx (7 - ((d + 1 : Nat) : Int)) (w64 (by omega) (by omega)) kids hkl (fun t ht => (hin t ht t.x (by cases t; simp [flat, T7.x])).1) (Pt d) (fun t ht => by
     have := partI d (by omega) t (Shs_mem hsh.2.2 ht) (Nat.le_trans (z12 ht).1 hfl) (hin t ht)
     rw [show (7 - ((d + 1 : Nat) : Int)) + 1 = 7 - (d : Int) by omega]
     exact this) kids [] ⟨#[]⟩ rfl (by decide) (fun _ h => absurd rfl h)
    simpa using this
mutual
theorem z86 : ∀ (t u : T7) (a b : List S61), Sh t → Sh u → flat t ++ a = flat u ++ b → t = u ∧ a = b
 | .mk x l, .mk y m, a, b, h1, h2, e => by
  simp only [flat, List.cons_append, List.cons.injEq] at e
  obtain ⟨rfl, e⟩ := e
  simp only [Sh] at h1 h2
  have hlen : l.length = m.length := by
   by_cases c : x.f1 < 6
   ·rw [h1.1 c, h2.1 c]
   ·have := h1.2.1 (by omega); have := h2.2.1 (by omega); omega
  obtain ⟨e1, e2⟩ := z63 l m a b h1.2.2 h2.2.2 hlen e
  exact ⟨by rw [e1], e2⟩
theorem z63 : ∀ (t u : List T7) (a b : List S61), Shs t → Shs u → t.length = u.length → z0 t ++ a = z0 u ++ b → t = u ∧ a = b
 | [], [], a, b, _, _, _, e => ⟨rfl, by simpa [z0] using e⟩
 | [], y :: m, a, b, _, _, hl, _ => by simp at hl
 | x :: l, [], a, b, _, _, hl, _ => by simp at hl
 | x :: l, y :: m, a, b, h1, h2, hl, e => by
  simp only [z0, List.append_assoc] at e
  simp only [Shs] at h1 h2
  obtain ⟨e1, e2⟩ := z86 x y _ _ h1.1 h2.1 e
  obtain ⟨e3, e4⟩ := z63 l m a b h1.2 h2.2 (by simpa using hl) e2
  exact ⟨by rw [e1, e3], e4⟩
end
theorem flat_inj (t u : T7) (h1 : Sh t) (h2 : Sh u) (e : flat t = flat u) : t = u := (z86 t u [] [] h1 h2 (by rw [List.append_nil, List.append_nil]; exact e)).1
theorem z72 (l : List S61) (hs : ∀ x ∈ l, x.f0.size < 1000000000000 ∧ x.f3.size < 1000000000000) (h62 : l.length < 1000000000000) : Ev (fun k => impl_isValue.f k l) (z6 l) := by
 unfold impl_isValue.f
 simp only [z66, Option.bind_some]
 by_cases c : (1 : Int) ≤ l.length ∧ (l.length : Int) ≤ 40
 ·rw [decide_eq_true c]
  simp only [if_true]
  have hl : l.length ≤ 40 := by omega
  refine Ev.bind (sizeI l hl) ?_
  cases e : szo l 1 with
  | none =>
   simp only [show ¬ (0 : Int) = l.length by omega, if_false]
   have : z6 l = false := by
    unfold z6
    rw [decide_eq_true hl, Bool.true_and]
    cases f : Sp 6 l false with
    | none => rfl
    | some v =>
     obtain ⟨t, r⟩ := v
     obtain ⟨s1, s2, _, _⟩ := (z65 _ _ _ _ _).1 f
     have := z102 l [t] r (by rw [s1]; simp [z0]) (by simp [Shs, s2])
     simp [e] at this
   rw [this]; exact Ev.now _
  | some n =>
   obtain ⟨ts, r, t1, t2, t3, t4⟩ := z67 l 1 n e
   obtain ⟨t, rfl⟩ := List.length_eq_one_iff.1 t1
   have t3 : (flat t).length = n := by simpa [z0] using t3
   have t4 : l = flat t ++ r := by simpa [z0] using t4
   have t2 : Sh t := by simpa [Shs] using t2
   have hll : l.length = n + r.length := by rw [t4, List.length_append, t3]
   simp only
   by_cases hn : (n : Int) = l.length
   ·simp only [if_pos hn]
    have hr : r = [] := List.length_eq_zero_iff.1 (by omega)
    subst hr
    rw [List.append_nil] at t4
    have hx : rd_T61 l 0 = t.x := by rw [t4]; exact z14 t
    simp only [if_pos (show 0 < (l.length : Int) by omega), hx]
    have sg : z6 l = (z43 false t.x && Pt 6 t) := by
     unfold z6
     rw [decide_eq_true hl, Bool.true_and]
     cases k1 : z43 false t.x && Pt 6 t with
     | true =>
      simp only [Bool.and_eq_true] at k1
      rw [(z65 6 l false t []).2 ⟨by rw [t4]; simp, t2, k1.1, k1.2⟩]; rfl
     | false =>
      cases f : Sp 6 l false with
      | none => rfl
      | some v =>
       obtain ⟨t', r⟩ := v
       cases r with
       | cons y r => rfl
       | nil =>
        obtain ⟨s1, s2, s3, s4⟩ := (z65 _ _ _ _ _).1 f
        exfalso
        have : t' = t := flat_inj t' t s2 t2 (by rw [← t4, s1]; simp)
        subst this
        rw [s3, s4] at k1; cases k1
    rw [sg]
    unfold z43
    rw [Bool.false_or]
    by_cases ke : t.x.f0.toList = ([] : List UInt8)
    ·have ke' := (isEmpty_iff _).1 ke
     simp only [if_pos ke]
     rw [ke', z64 _ ke', Bool.true_and, Bool.true_and, t4]
     refine Ev.bind (partI 6 (Nat.le_refl _) t t2 (by omega) (by rw [← t4]; exact hs)) (Ev.now _)
    ·have ke' : t.x.f0.toList.isEmpty = false := by cases e : t.x.f0.toList.isEmpty with | false => rfl | true => exact absurd ((isEmpty_iff _).2 e) ke
     simp only [if_neg ke]
     rw [ke', Bool.false_and, Bool.false_and]; exact Ev.now _
   ·simp only [if_neg hn]
    have : z6 l = false := by
     unfold z6
     rw [decide_eq_true hl, Bool.true_and]
     cases f : Sp 6 l false with
     | none => rfl
     | some v =>
      obtain ⟨t', r'⟩ := v
      obtain ⟨s1, s2, _, _⟩ := (z65 _ _ _ _ _).1 f
      have := z102 l [t'] r' (by rw [s1]; simp [z0]) (by simp [Shs, s2])
      rw [List.length_singleton, e] at this
      injection this with this
      cases r' with
      | nil => exfalso; rw [s1] at hn; simp [z0] at this; simp at hn; omega
      | cons y r' => rfl
    rw [this]; exact Ev.now _
 ·rw [decide_eq_false c]
  simp only [Bool.false_eq_true, if_false, Option.bind_some]
  have : z6 l = false := by
   unfold z6
   by_cases h : l.length ≤ 40
   ·have : l = [] := List.length_eq_zero_iff.1 (by omega)
    subst this
    rfl
   ·rw [decide_eq_false h]; rfl
  rw [this]; exact Ev.now _
theorem z87 (ks : List T7) (hk : ks.length < 1000000) (ih : ∀ t ∈ ks, ∀ out : List S61, out.length + (flat t).length < 1000000 → Ev (fun k => spec_l7Flat.f k t out) (out ++ flat t)) : ∀ (rest pre : List T7) (out : List S61), ks = pre ++ rest → out.length + (z0 rest).length < 1000000 → Ev (fun k => spec_l7Flat.l k ks out pre.length) (out ++ z0 rest)
 | [], pre, out, e, ho => by
  refine Ev.step (f := fun _ => some out) (fun k => ?_) (by simpa [z0] using Ev.now _)
  rw [spec_l7Flat.l, if_neg (by rw [e]; simp)]
 | t :: rest, pre, out, e, ho => by
  have htm : t ∈ ks := by rw [e]; simp
  have hg : ks[pre.length]? = some t := by rw [e]; simp
  simp only [z0, List.length_append] at ho
  refine Ev.step (f := fun k => (spec_l7Flat.f k t out).bind fun r => spec_l7Flat.l k ks r (pre.length + 1)) (fun k => ?_) ?_
  ·rw [spec_l7Flat.l, if_pos (by rw [e, List.length_append, List.length_cons]; omega), Int.toNat_natCast, hg]; rfl
  ·refine Ev.bind (ih t htm out (by omega)) ?_
   have := z87 ks hk ih rest (pre ++ [t]) (out ++ flat t) (by rw [e]; simp) (by rw [List.length_append]; omega)
   rw [List.length_append, List.length_singleton, show ((pre.length + 1 : Nat) : Int) = (pre.length : Int) + 1 by omega, List.append_assoc] at this
   simp only [z0]
   exact this
theorem l7FlatS : ∀ (n : Nat) (t : T7) (out : List S61), (flat t).length ≤ n → out.length + (flat t).length < 1000000 → Ev (fun k => spec_l7Flat.f k t out) (out ++ flat t)
 | 0, t, _, h, _ => by have := z11 t; omega
 | n + 1, .mk x kids, out, h, ho => by
  simp only [flat, List.length_cons] at h ho
  have hfl := z13 kids
  refine Ev.step (f := fun k => spec_l7Flat.l k kids (out ++ [x]) 0) (fun k => ?_) ?_
  ·rw [spec_l7Flat.f]; simp only [T7.kids, T7.x]; exact if_pos ⟨by omega, by omega⟩
  ·have := z87 kids (by omega) (fun t ht out ho => l7FlatS n t out (Nat.le_trans (z12 ht).1 (by omega)) ho) kids [] (out ++ [x]) rfl (by rw [List.length_append, List.length_singleton]; omega)
   simp only [flat]
   rw [List.append_assoc] at this
   exact this
theorem z23 (l : List S61) (h : z6 l = true) : ∃ t, Sp 6 l false = some (t, []) ∧ l = flat t ∧ Sh t ∧ l.length ≤ 40 ∧ z43 false t.x = true ∧ Pt 6 t = true := by
 unfold z6 at h
 simp only [Bool.and_eq_true, decide_eq_true_eq] at h
 obtain ⟨h1, h2⟩ := h
 cases f : Sp 6 l false with
 | none => rw [f] at h2; cases h2
 | some v =>
  obtain ⟨t, r⟩ := v
  rw [f] at h2
  cases r with
  | cons y r => cases h2
  | nil =>
   obtain ⟨s1, s2, s3, s4⟩ := (z65 _ _ _ _ _).1 f
   exact ⟨t, rfl, by rw [s1]; simp, s2, h1, s3, s4⟩
theorem keyedI (t : T7) (key : ByteArray) (hl : (flat t).length < 100000) : impl_keyed.f (flat t) key = some (flat (.mk ⟨key, t.x.f1, t.x.f2, t.x.f3, t.x.f4⟩ t.kids)) := by
 have hp := z11 t
 unfold impl_keyed.f impl_Node.f
 rw [if_pos (by omega)]
 simp only [Option.bind_some]
 rw [if_pos (by omega), z14 t]
 cases t
 simp [flat, T7.x, T7.kids]
theorem goodS (l : List S61) (hs : ∀ x ∈ l, x.f0.size < 1000000000000 ∧ x.f3.size < 1000000000000) : Ev (fun k => spec_GoodValue.f k l) (z6 l) := by
 unfold spec_GoodValue.f z6
 by_cases c : l.length ≤ 40
 ·rw [← res_end l, decide_eq_true c, Bool.true_and]
  exact Ev.bind (ofS l c hs) (Ev.now _)
 ·unfold spec_l7Of.f
  simp only [show (l.length : Int) > 40 by omega, if_true, c, decide_false, Option.bind_some, Bool.false_and]; exact Ev.now _
def insT (kids : List T7) (t : T7) : List T7 := kids.takeWhile (fun u => less u.x.f0 t.x.f0) ++ [t] ++ kids.dropWhile (fun u => less u.x.f0 t.x.f0)
theorem posS (ks : List T7) (key : ByteArray) (hs : ∀ u ∈ ks, u.x.f0.size < 1000000000000) (hk : key.size < 1000000000000) : ∀ (rest pre : List T7), ks = pre ++ rest → Ev (fun k => spec_l7V_add.p k ks key pre.length) (pre.length + (rest.takeWhile (fun u => less u.x.f0 key)).length)
 | [], pre, e => by
  refine Ev.step (f := fun _ => some pre.length) (fun k => ?_) (by simpa using Ev.now _)
  rw [spec_l7V_add.p, if_neg (by rw [e]; simp)]
 | u :: rest, pre, e => by
  have hum : u ∈ ks := by rw [e]; simp
  have hg : ks[pre.length]? = some u := by rw [e]; simp
  refine Ev.step (f := fun k => (spec_l7LessKey.f k u.x.f0 key).bind fun b => if b = true then spec_l7V_add.p k ks key (pre.length + 1) else some pre.length) (fun k => ?_) ?_
  ·rw [spec_l7V_add.p, if_pos (by rw [e, List.length_append, List.length_cons]; omega), hg]; rfl
  ·refine Ev.bind (z107 _ _ (hs u hum) hk) ?_
   rw [List.takeWhile_cons]
   cases c : less u.x.f0 key with
   | true =>
    simp only [if_true, List.length_cons]
    have := posS ks key hs hk rest (pre ++ [u]) (by rw [e]; simp)
    rw [List.length_append, List.length_singleton] at this
    rw [show pre.length + ((rest.takeWhile (fun u => less u.x.f0 key)).length + 1) = pre.length + 1 + (rest.takeWhile (fun u => less u.x.f0 key)).length by omega]
    exact this
   | false => simp only [Bool.false_eq_true, if_false, List.length_nil, Nat.add_zero]; exact Ev.now _
theorem take_while {α : Type} (p : α → Bool) (l : List α) : l.take (l.takeWhile p).length = l.takeWhile p ∧ l.drop (l.takeWhile p).length = l.dropWhile p := by
 have h := List.takeWhile_append_dropWhile (p := p) (l := l)
 constructor
 ·conv => lhs; arg 2; rw [← h]
  rw [List.take_left]
 ·conv => lhs; arg 2; rw [← h]
  rw [List.drop_left]
theorem addS (kids : List T7) (t : T7) (hl : kids.length < 1000000) (hs : ∀ u ∈ kids, u.x.f0.size < 1000000000000) (hk : t.x.f0.size < 1000000000000) : Ev (fun k => spec_l7V_add.f k 7 kids t) (insT kids t) := by
 unfold spec_l7V_add.f
 simp only [hl, if_true]
 have := posS kids t.x.f0 hs hk kids [] rfl
 rw [List.length_nil, Nat.zero_add] at this
 refine Ev.bind this ?_
 obtain ⟨h1, h2⟩ := take_while (fun u : T7 => less u.x.f0 t.x.f0) kids
 rw [h1, h2]
 exact Ev.now _
theorem tw_all {α : Type} (p : α → Bool) : ∀ (l : List α), (∀ u ∈ l, p u = true) → l.takeWhile p = l ∧ l.dropWhile p = []
 | [], _ => ⟨rfl, rfl⟩
 | a :: l, h => by
  have ha := h a List.mem_cons_self
  obtain ⟨h1, h2⟩ := tw_all p l (fun u hu => h u (List.mem_cons_of_mem _ hu))
  rw [List.takeWhile_cons, List.dropWhile_cons, ha]
  simp only [if_true]
  exact ⟨by rw [h1], h2⟩
theorem insT_last (kids : List T7) (t : T7) (h : ∀ u ∈ kids, less u.x.f0 t.x.f0 = true) : insT kids t = kids ++ [t] := by
 obtain ⟨h1, h2⟩ := tw_all (fun u : T7 => less u.x.f0 t.x.f0) kids h
 unfold insT
 rw [h1, h2, List.append_nil]
theorem insT_cons (u : T7) (l : List T7) (t : T7) : insT (u :: l) t = if less u.x.f0 t.x.f0 = true then u :: insT l t else t :: u :: l := by
 unfold insT
 rw [List.takeWhile_cons, List.dropWhile_cons]
 cases less u.x.f0 t.x.f0 with
 | true => simp
 | false => simp
theorem z51 (l : List T7) (t : T7) : (insT l t).Perm (t :: l) := by
 unfold insT
 have h := List.takeWhile_append_dropWhile (p := fun u : T7 => less u.x.f0 t.x.f0) (l := l)
 conv => rhs; rw [← h]
 rw [List.append_assoc]
 exact List.perm_middle
theorem insT_mem {l : List T7} {t u : T7} : u ∈ insT l t ↔ u = t ∨ u ∈ l := by rw [(z51 l t).mem_iff, List.mem_cons]
theorem z83 (t : T7) (ht : (R t.x.f0).2 = true) : ∀ (l : List T7), (∀ u ∈ l, (R u.x.f0).2 = true) → (∀ u ∈ l, u.x.f0 ≠ t.x.f0) → l.Pairwise (fun u v => less u.x.f0 v.x.f0 = true) → (insT l t).Pairwise (fun u v => less u.x.f0 v.x.f0 = true)
 | [], _, _, _ => by simp [insT]
 | u :: l, hl, hn, ho => by
  rw [insT_cons]
  rw [List.pairwise_cons] at ho
  have hu := hl u List.mem_cons_self
  by_cases c : less u.x.f0 t.x.f0 = true
  ·rw [if_pos c, List.pairwise_cons]
   refine ⟨fun v hv => ?_, z83 t ht l (fun v hv => hl v (List.mem_cons_of_mem _ hv)) (fun v hv => hn v (List.mem_cons_of_mem _ hv)) ho.2⟩
   rcases insT_mem.1 hv with rfl | hv
   ·exact c
   ·exact ho.1 v hv
  ·rw [if_neg c, List.pairwise_cons, List.pairwise_cons]
   have c2 : less t.x.f0 u.x.f0 = true := by
    rcases z106 hu ht with a | a | a
    ·exact absurd a c
    ·exact absurd a (hn u List.mem_cons_self)
    ·exact a
   refine ⟨fun v hv => ?_, ho⟩
   rcases List.mem_cons.1 hv with rfl | hv
   ·exact c2
   ·exact z60 ht hu (hl v (List.mem_cons_of_mem _ hv)) c2 (ho.1 v hv)
def z3 (key : ByteArray) (ks : List T7) : List T7 := ks.filter (fun u => !(u.x.f0.toList == key.toList))
theorem keepS (ks : List T7) (key : ByteArray) (hl : ks.length < 1000000) (hs : ∀ u ∈ ks, u.x.f0.size < 1000000000000) (ho : ks.Pairwise (fun u v => less u.x.f0 v.x.f0 = true)) : ∀ (rest pre : List T7), ks = pre ++ rest → Ev (fun k => spec_WithField.l k ks key 7 pre.length (z3 key pre)) (z3 key ks)
 | [], pre, e => by
  rw [List.append_nil] at e
  refine Ev.step (f := fun _ => some (z3 key pre)) (fun k => ?_) (by rw [e]; exact Ev.now _)
  rw [spec_WithField.l, if_neg (by rw [e]; exact Nat.lt_irrefl _)]
 | t :: rest, pre, e => by
  have htm : t ∈ ks := by rw [e]; simp
  have hg : ks[pre.length]? = some t := by rw [e]; simp
  have ih := keepS ks key hl hs ho rest (pre ++ [t]) (by rw [e]; simp)
  rw [List.length_append, List.length_singleton] at ih
  have hsub : ∀ u ∈ z3 key pre, u ∈ pre := fun u hu => (List.mem_filter.1 hu).1
  refine Ev.step (f := fun k => if t.x.f0.toList = key.toList then spec_WithField.l k ks key 7 (pre.length + 1) (z3 key pre) else (spec_l7V_add.f k 7 (z3 key pre) t).bind fun r => spec_WithField.l k ks key 7 (pre.length + 1) r) (fun k => ?_) ?_
  ·rw [spec_WithField.l, if_pos (by rw [e, List.length_append, List.length_cons]; omega), hg]; rfl
  ·by_cases c : t.x.f0.toList = key.toList
   ·simp only [c, if_true]
    rw [show z3 key (pre ++ [t]) = z3 key pre by unfold z3; rw [List.filter_append]; simp [c]] at ih
    exact ih
   ·simp only [c, if_false]
    have hlen : (z3 key pre).length ≤ pre.length := List.length_filter_le _ _
    refine Ev.bind (addS (z3 key pre) t (by rw [e, List.length_append] at hl; omega) (fun u hu => hs u (by rw [e]; exact List.mem_append_left _ (hsub u hu))) (hs t htm)) ?_
    rw [insT_last]
    ·rw [show z3 key (pre ++ [t]) = z3 key pre ++ [t] by unfold z3; rw [List.filter_append]; simp [c]] at ih
     exact ih
    ·intro u hu
     rw [e] at ho
     exact (List.pairwise_append.1 ho).2.2 u (hsub u hu) t List.mem_cons_self
theorem Pl_rise (g : T7 → Bool) (x : S61) (hk : x.f1 = 7) : ∀ (ts : List T7) (last : ByteArray) (fst : Bool), Pl g x last fst ts = true → (fst = false → (R last).2 = true) → (∀ t ∈ ts, (R t.x.f0).2 = true ∧ (fst = false → less last t.x.f0 = true)) ∧ ts.Pairwise (fun u v => less u.x.f0 v.x.f0 = true)
 | [], _, _, _, _ => ⟨fun t ht => (by cases ht), List.Pairwise.nil⟩
 | t :: ts, last, fst, h, hl => by
  simp only [Pl, Bool.and_eq_true, Bool.not_eq_true'] at h
  obtain ⟨h1, _, h3⟩ := h
  have ht : (R t.x.f0).2 = true := by
   unfold z42 at h1
   simp only [hk, if_true] at h1
   cases e : (R t.x.f0).2 with
   | true => rfl
   | false => rw [e] at h1; simp at h1
  have h0 : fst = false → less last t.x.f0 = true := by
   intro hf
   unfold z42 at h1
   simp only [hk, if_true, ht, hf, Bool.false_eq_true, if_false] at h1
   simpa using h1
  obtain ⟨i1, i2⟩ := Pl_rise g x hk ts t.x.f0 false h3 (fun _ => ht)
  refine ⟨fun u hu => ?_, List.pairwise_cons.2 ⟨fun u hu => (i1 u hu).2 rfl, i2⟩⟩
  rcases List.mem_cons.1 hu with rfl | hu
  ·exact ⟨ht, h0⟩
  ·exact ⟨(i1 u hu).1, fun hf => z60 (hl hf) ht (i1 u hu).1 (h0 hf) ((i1 u hu).2 rfl)⟩
theorem z17 (t : T7) (h : Pt 6 t = true) (hk : t.x.f1 = 7) : (∀ u ∈ t.kids, (R u.x.f0).2 = true) ∧ t.kids.Pairwise (fun u v => less u.x.f0 v.x.f0 = true) := by
 unfold Pt at h
 simp only [Bool.and_eq_true] at h
 obtain ⟨i1, i2⟩ := Pl_rise _ _ hk _ _ _ h.2 (fun h => by cases h)
 exact ⟨fun u hu => (i1 u hu).1, i2⟩
theorem z21 : ∀ (ts : List T7), (ts.map flat).flatten = z0 ts
 | [] => rfl
 | t :: ts => by simp [z0, z21 ts]
theorem z10 (t : T7) : hdk (flat t) = t.x.f0 := by unfold hdk; rw [z14]
theorem memI (key : ByteArray) (ks : List T7) (hl : (z0 ks).length < 100000) (mem : List (List S61)) (hm : mem.length < 1000) (Z : List S61 × Bool)
  (hz : Ev (fun k => (impl_record.f k ⟨#[]⟩ (mem ++ (z3 key ks).map flat)).bind fun o => (impl_isValue.f k o).bind fun g => if g = true then some (o, true) else some ([], false)) Z) :
  ∀ (rest pre : List T7), ks = pre ++ rest → Ev (fun k => impl_WithField.l0 k key (mem ++ (z3 key pre).map flat) (ks.map flat) ks.length pre.length) Z
 | [], pre, e => by
  rw [List.append_nil] at e
  rw [e] at hz ⊢
  refine Ev.step (fun k => ?_) hz
  rw [impl_WithField.l0, if_neg (by omega)]
 | t :: rest, pre, e => by
  have htm : t ∈ ks := by rw [e]; simp
  have hlen : ks.length = pre.length + (rest.length + 1) := by rw [e]; simp
  have hr : rd_L5 (ks.map flat) pre.length = flat t := by rw [e]; simp [rd_L5, List.getD_eq_getElem?_getD]
  have hfl := z13 ks
  have hp := z11 t
  have ih := memI key ks hl mem hm Z hz rest (pre ++ [t]) (by rw [e]; simp)
  rw [List.length_append, List.length_singleton, show ((pre.length + 1 : Nat) : Int) = (pre.length : Int) + 1 by omega] at ih
  have hkl : (z3 key pre).length ≤ pre.length := List.length_filter_le _ _
  refine Ev.step (f := fun k => if t.x.f0.toList = key.toList then impl_WithField.l0 k key (mem ++ (z3 key pre).map flat) (ks.map flat) ks.length (pre.length + 1) else impl_WithField.l0 k key (mem ++ (z3 key pre).map flat ++ [flat t]) (ks.map flat) ks.length (pre.length + 1)) (fun k => ?_) ?_
  ·rw [impl_WithField.l0, if_pos (by omega), if_pos (by omega), if_pos (by rw [List.length_map]; omega), hr, if_pos (by omega), z14 t, w64 (by omega) (by omega)]
   by_cases c : t.x.f0.toList = key.toList
   ·simp only [c, if_true]
   ·simp only [c, if_false]
    rw [if_pos (by rw [List.length_append, List.length_map]; omega)]
  ·by_cases c : t.x.f0.toList = key.toList
   ·simp only [c, if_true]
    rw [show z3 key (pre ++ [t]) = z3 key pre by unfold z3; rw [List.filter_append]; simp [c]] at ih
    exact ih
   ·simp only [c, if_false]
    rw [show z3 key (pre ++ [t]) = z3 key pre ++ [t] by unfold z3; rw [List.filter_append]; simp [c], List.map_append, ← List.append_assoc] at ih
    exact ih
theorem ofS2 (l : List S61) (hs : ∀ x ∈ l, x.f0.size < 1000000000000 ∧ x.f3.size < 1000000000000) : ∃ o, Ev (fun k => spec_l7Of.f k l) (o, z6 l) ∧ ∀ t, Sp 6 l false = some (t, []) → z6 l = true → o = some t := by
 by_cases c : l.length ≤ 40
 ·have ho := ofS l c hs
  rw [res_end l] at ho
  refine ⟨(res l.length (Sp 6 l false)).1, ?_, fun t ht _ => ?_⟩
  rotate_left
  ·rw [ht]; rfl
  ·unfold z6
   rw [decide_eq_true c, Bool.true_and]
   exact ho
 ·have sg : z6 l = false := by unfold z6; simp [c]
  refine ⟨none, ?_, fun t _ h => by rw [sg] at h; cases h⟩
  rw [sg]
  unfold spec_l7Of.f
  simp only [show (l.length : Int) > 40 by omega, if_true]; exact Ev.now _
def z30 (key : ByteArray) (ta tx : T7) : List T7 := insT (z3 key ta.kids) (.mk ⟨key, tx.x.f1, tx.x.f2, tx.x.f3, tx.x.f4⟩ tx.kids)
def wout (key : ByteArray) (ta tx : T7) : List S61 := ⟨⟨#[]⟩, 7, 0, ⟨#[]⟩, ((z30 key ta tx).length : Int)⟩ :: z0 (z30 key ta tx)
def z31 (l : List S61) (key : ByteArray) (v : List S61) : List S61 × Bool :=
 if z6 l = true ∧ z6 v = true ∧ (R key).2 = true then (match Sp 6 l false, Sp 6 v false with | some (ta, _), some (tx, _) => if ta.x.f1 = 7 then (if z6 (wout key ta tx) = true then (wout key ta tx, true) else ([], false)) else ([], false) | _, _ => ([], false)) else ([], false)
theorem z93 (t : T7) (h1 : z43 false t.x = true) (h2 : Pt 6 t = true) (hk : t.x.f1 = 7) : t.x.f0 = ⟨#[]⟩ ∧ t.x.f2 = 0 ∧ t.x.f3 = ⟨#[]⟩ := by
 unfold z43 at h1
 simp only [Bool.false_or, Bool.and_eq_true] at h1
 unfold Pt at h2
 simp only [Bool.and_eq_true] at h2
 have h3 := h2.1
 unfold z4 at h3
 rw [if_neg (by omega), if_neg (by omega), if_neg (by omega), if_pos (by omega)] at h3
 simp only [Bool.and_eq_true, beq_iff_eq] at h3
 have hz : (⟨#[]⟩ : ByteArray).toList = ([] : List UInt8) := by rw [ByteArray.toList]; unfold ByteArray.toList.loop; rfl
 exact ⟨z105 (by rw [hz]; exact (isEmpty_iff _).2 h1.1), h3.1, z105 (by rw [hz]; exact (isEmpty_iff _).2 h3.2)⟩
theorem z62 : ∀ {ts : List T7} {y : S61}, y ∈ z0 ts → ∃ t ∈ ts, y ∈ flat t
 | [], y, h => by simp [z0] at h
 | t :: ts, y, h => by
  simp only [z0, List.mem_append] at h
  rcases h with h | h
  ·exact ⟨t, List.mem_cons_self, h⟩
  ·obtain ⟨u, hu, hy⟩ := z62 h
   exact ⟨u, List.mem_cons_of_mem _ hu, hy⟩
theorem z61 {a b : List T7} (h : a.Perm b) : (z0 a).length = (z0 b).length := by
 induction h with
 | nil => rfl
 | cons x _ ih => simp only [z0, List.length_append, ih]
 | swap x y l => simp only [z0, List.length_append]; omega
 | trans _ _ h1 h2 => exact h1.trans h2
theorem z109 (key : ByteArray) : ∀ (ks : List T7), (z0 (z3 key ks)).length ≤ (z0 ks).length
 | [] => Nat.le_refl _
 | t :: ks => by
  have := z109 key ks
  unfold z3 at *
  rw [List.filter_cons]
  split
  ·simp only [z0, List.length_append]; omega
  ·simp only [z0, List.length_append]; omega
theorem z57 (key : ByteArray) (ta tx : T7) (hk : (R key).2 = true) (h7 : ta.x.f1 = 7) (hP : Pt 6 ta = true) (hla : (flat ta).length ≤ 40) (hlx : (flat tx).length ≤ 40) (hsk : key.size < 1000000000000) (hsa : ∀ y ∈ flat ta, y.f0.size < 1000000000000 ∧ y.f3.size < 1000000000000) (hsx : ∀ y ∈ flat tx, y.f0.size < 1000000000000 ∧ y.f3.size < 1000000000000) :
  (∀ u ∈ z3 key ta.kids, u ∈ ta.kids ∧ u.x.f0 ≠ key) ∧ (∀ u ∈ z30 key ta tx, (R u.x.f0).2 = true) ∧ (z30 key ta tx).Pairwise (fun u v => less u.x.f0 v.x.f0 = true) ∧ (z0 (z30 key ta tx)).length ≤ 80 ∧ (z30 key ta tx).length ≤ 80 ∧ ∀ y ∈ wout key ta tx, y.f0.size < 1000000000000 ∧ y.f3.size < 1000000000000 := by
 obtain ⟨r1, r2⟩ := z17 ta hP h7
 have hkeep : ∀ u ∈ z3 key ta.kids, u ∈ ta.kids ∧ u.x.f0 ≠ key := fun u hu => by
  obtain ⟨h1, h2⟩ := List.mem_filter.1 hu
  refine ⟨h1, fun e => ?_⟩
  rw [e] at h2
  simp at h2
 have hkids : (z0 ta.kids).length ≤ 40 := by cases ta; simp only [flat, T7.kids, List.length_cons] at hla ⊢; omega
 have hxl : (flat (.mk ⟨key, tx.x.f1, tx.x.f2, tx.x.f3, tx.x.f4⟩ tx.kids)).length ≤ 40 := by cases tx; simp only [flat, T7.kids, T7.x, List.length_cons] at hlx ⊢; omega
 have hfl : (z0 (z30 key ta tx)).length ≤ 80 := by
  unfold z30
  rw [z61 (z51 _ _)]
  have := z109 key ta.kids
  simp only [z0, List.length_append]
  omega
 refine ⟨hkeep, fun u hu => ?_, ?_, hfl, Nat.le_trans (z13 _) hfl, fun y hy => ?_⟩
 ·rcases insT_mem.1 hu with rfl | hu
  ·exact hk
  ·exact r1 u (hkeep u hu).1
 ·exact z83 (.mk ⟨key, tx.x.f1, tx.x.f2, tx.x.f3, tx.x.f4⟩ tx.kids) hk _ (fun u hu => r1 u (hkeep u hu).1) (fun u hu => (hkeep u hu).2) (r2.filter _)
 ·unfold wout at hy
  rcases List.mem_cons.1 hy with rfl | hy
  ·exact ⟨show (0 : Nat) < 1000000000000 by decide, show (0 : Nat) < 1000000000000 by decide⟩
  ·obtain ⟨u, hu, hyu⟩ := z62 hy
   clear hy
   rcases insT_mem.1 hu with rfl | hu
   ·cases tx with
    | mk x kids =>
     simp only [flat, T7.x, T7.kids, List.mem_cons] at hyu hsx
     rcases hyu with rfl | hyu
     ·exact ⟨hsk, (hsx x (.inl rfl)).2⟩
     ·exact hsx y (.inr hyu)
   ·cases ta with
    | mk x kids =>
     have := (z12 (hkeep u hu).1).2 y hyu
     simp only [T7.kids] at this
     exact hsa y (by simp only [flat, List.mem_cons]; exact .inr this)
theorem withS (l : List S61) (key : ByteArray) (v : List S61) (hs : ∀ x ∈ l, x.f0.size < 1000000000000 ∧ x.f3.size < 1000000000000) (hv : ∀ x ∈ v, x.f0.size < 1000000000000 ∧ x.f3.size < 1000000000000) (hk : key.size < 1000000000000) : Ev (fun k => spec_WithField.f k l key v) (z31 l key v) := by
 unfold spec_WithField.f z31
 obtain ⟨oa, ha, ha2⟩ := ofS2 l hs
 obtain ⟨ox, hx, hx2⟩ := ofS2 v hv
 refine Ev.bind ha (Ev.bind hx ?_)
 simp only
 cases sl : z6 l with
 | false => simp only [if_true, Bool.false_eq_true, false_and, if_false]; exact Ev.now _
 | true =>
 cases sv : z6 v with
 | false => simp only [Bool.true_eq_false, if_false, if_true, Bool.false_eq_true, false_and, and_false]; exact Ev.now _
 | true =>
 obtain ⟨ta, fa, ea, _, la, ka, Pa⟩ := z23 l sl
 obtain ⟨tx, fx, ex, _, lx, _, _⟩ := z23 v sv
 have e1 := ha2 ta fa sl
 have e2 := hx2 tx fx sv
 subst e1
 subst e2
 simp only [Bool.true_eq_false, if_false, true_and, Option.bind_some, fa, fx]
 by_cases h7 : ta.x.f1 = 7
 rotate_left
 ·simp only [h7, if_false]
  split
  ·exact Ev.now _
  ·exact Ev.now _
 simp only [h7, if_true]
 refine Ev.bind (z73 key hk) ?_
 cases hr : (R key).2 with
 | false => simp only [Bool.false_eq_true, if_false]; exact Ev.now _
 | true =>
 have hla : (flat ta).length ≤ 40 := by rw [← ea]; exact la
 have hlx : (flat tx).length ≤ 40 := by rw [← ex]; exact lx
 obtain ⟨f1, f2, f3, f4, f5, f6⟩ := z57 key ta tx hr h7 Pa hla hlx hk (by rw [← ea]; exact hs) (by rw [← ex]; exact hv)
 obtain ⟨r1, r2⟩ := z17 ta Pa h7
 obtain ⟨n1, n2, n3⟩ := z93 ta ka Pa h7
 have hkids : (z0 ta.kids).length ≤ 40 := by cases ta; simp only [flat, T7.kids, List.length_cons] at hla ⊢; omega
 have hkl := z13 ta.kids
 have hks : ∀ u ∈ ta.kids, u.x.f0.size < 1000000000000 := fun u hu => (hs u.x (by rw [ea]; cases ta; simp only [flat, List.mem_cons]; exact .inr ((z12 hu).2 _ (by cases u; simp [flat, T7.x])))).1
 simp only [if_true, show ta.kids.length < 1000000 by omega]
 refine Ev.bind (keepS ta.kids key (by omega) hks r2 ta.kids [] rfl) ?_
 have hkeepl : (z3 key ta.kids).length ≤ ta.kids.length := List.length_filter_le _ _
 refine Ev.bind (addS (z3 key ta.kids) (.mk ⟨key, tx.x.f1, tx.x.f2, tx.x.f3, tx.x.f4⟩ tx.kids) (by omega) (fun u hu => hks u (f1 u hu).1) hk) ?_
 have hw : flat (.mk ⟨ta.x.f0, 7, ta.x.f2, ta.x.f3, ((z30 key ta tx).length : Int)⟩ (z30 key ta tx)) = wout key ta tx := by
  simp only [flat, wout]
  rw [n1, n2, n3]
 have hfl := l7FlatS 1000000 (.mk ⟨ta.x.f0, 7, ta.x.f2, ta.x.f3, ((z30 key ta tx).length : Int)⟩ (z30 key ta tx)) [] (by simp only [flat, List.length_cons]; omega) (by simp only [flat, List.length_cons, List.length_nil]; omega)
 rw [List.nil_append, hw] at hfl
 refine Ev.bind hfl (Ev.bind (goodS _ f6) ?_)
 split
 ·exact Ev.now _
 ·exact Ev.now _
theorem withI (l : List S61) (key : ByteArray) (v : List S61) (hs : ∀ x ∈ l, x.f0.size < 1000000000000 ∧ x.f3.size < 1000000000000) (hv : ∀ x ∈ v, x.f0.size < 1000000000000 ∧ x.f3.size < 1000000000000) (hk : key.size < 1000000000000) (h62 : l.length < 1000000000000) (h63 : v.length < 1000000000000) : Ev (fun k => impl_WithField.f k l key v) (z31 l key v) := by
 have stop : ∀ a b c, Ev (fun k => impl_WithField.j0 k a b c true) (([], false) : List S61 × Bool) := fun a b c => Ev.step (f := fun _ => some ([], false)) (fun k => by simp [impl_WithField.j0]) (Ev.now _)
 unfold impl_WithField.f z31
 refine Ev.bind (z48 key hk) ?_
 cases hr : (R key).2 with
 | false => simp only [Bool.false_eq_true, if_false, and_false]; exact stop _ _ _
 | true =>
 simp only [if_true, and_true]
 refine Ev.bind (z72 l hs h62) ?_
 cases sl : z6 l with
 | false => simp only [Bool.false_eq_true, if_false, false_and]; exact stop _ _ _
 | true =>
 obtain ⟨ta, fa, ea, sa, la, ka, Pa⟩ := z23 l sl
 have hp := z11 ta
 have hx0 : rd_T61 l 0 = ta.x := by rw [ea]; exact z14 ta
 simp only [if_true, true_and, hx0, show 0 < (l.length : Int) by rw [ea]; omega]
 by_cases h7 : ta.x.f1 = 7
 rotate_left
 ·simp only [h7, if_false]
  split
  ·rename_i sv
   obtain ⟨tx, fx, _⟩ := z23 v sv
   rw [fa, fx]
   simp only [h7, if_false]
   exact stop _ _ _
  ·exact stop _ _ _
 simp only [h7, if_true]
 refine Ev.bind (z72 v hv h63) ?_
 cases sv : z6 v with
 | false => simp only [Bool.not_false, Bool.false_eq_true, if_false]; exact stop _ _ _
 | true =>
 obtain ⟨tx, fx, ex, _, lx, _, _⟩ := z23 v sv
 simp only [Bool.not_true, if_true, fa, fx, h7]
 have hla : (flat ta).length ≤ 40 := by rw [← ea]; exact la
 have hlx : (flat tx).length ≤ 40 := by rw [← ex]; exact lx
 obtain ⟨f1, f2, f3, f4, f5, f6⟩ := z57 key ta tx hr h7 Pa hla hlx hk (by rw [← ea]; exact hs) (by rw [← ex]; exact hv)
 have hkids : (z0 ta.kids).length ≤ 40 := by cases ta; simp only [flat, T7.kids, List.length_cons] at hla ⊢; omega
 have hkl := z13 ta.kids
 refine Ev.step (f := fun k => (impl_keyed.f v key).bind fun t => (impl_partsOf.f k l).bind fun ps => impl_WithField.l0 k key [t] ps ps.length 0) (fun k => by simp [impl_WithField.j0]) ?_
 rw [ex, keyedI tx key (by omega), ea]
 obtain ⟨x', hx'⟩ : ∃ x', x' = T7.mk ⟨key, tx.x.f1, tx.x.f2, tx.x.f3, tx.x.f4⟩ tx.kids := ⟨_, rfl⟩
 rw [← hx']
 simp only [Option.bind_some]
 have hparts : Ev (fun k => impl_partsOf.f k (flat ta)) (ta.kids.map flat) := by
  cases ta with
  | mk x kids =>
   simp only [Sh] at sa
   exact partsI x kids sa.2.2 hkids (by simp only [T7.kids] at hkids hkl; omega)
 refine Ev.bind hparts ?_
 rw [List.length_map]
 -- what the members are
 have hms : [flat x'] ++ (z3 key ta.kids).map flat = (x' :: z3 key ta.kids).map flat := rfl
 have hperm : (z30 key ta tx).Perm (x' :: z3 key ta.kids) := by rw [hx']; exact z51 _ _
 have hmem : ∀ u ∈ x' :: z3 key ta.kids, u ∈ z30 key ta tx := fun u hu => hperm.mem_iff.2 hu
 have hrec := recordI ⟨#[]⟩ ((x' :: z3 key ta.kids).map flat) (fun m hm => by obtain ⟨u, _, rfl⟩ := List.mem_map.1 hm; exact z11 u)
  (fun m hm => by obtain ⟨u, hu, rfl⟩ := List.mem_map.1 hm; rw [z10]; exact f2 u (hmem u hu))
  (fun m hm => by
   obtain ⟨u, hu, rfl⟩ := List.mem_map.1 hm
   rw [z10]
   refine (f6 u.x ?_).1
   unfold wout
   exact List.mem_cons_of_mem _ ((z12 (hmem u hu)).2 _ (by cases u; simp [flat, T7.x])))
  (by
   rw [List.pairwise_map]
   have hr2 := (z17 ta Pa h7).2
   have hr1 := (z17 ta Pa h7).1
   rw [List.pairwise_cons]
   refine ⟨fun u hu => ?_, ?_⟩
   ·rw [z10, z10, hx']
    exact fun e => (f1 u hu).2 e.symm
   ·refine (hr2.filter _).imp_of_mem (fun {a b} ha hb h => ?_)
    rw [z10, z10]
    intro e
    rw [e, z33 (hr1 b (f1 b hb).1)] at h
    cases h)
  (by rw [← rc_len, z21, ← z61 hperm]; omega)
  (by rw [List.length_map, ← hperm.length_eq]; omega)
 have hsorted : ((x' :: z3 key ta.kids).map flat).mergeSort ile = (z30 key ta tx).map flat := by
  refine sorted_is _ _ (hperm.map flat) (fun m hm => ?_) ?_
  ·obtain ⟨u, hu, rfl⟩ := List.mem_map.1 hm
   rw [z10]; exact f2 u hu
  ·rw [List.pairwise_map]
   exact f3.imp (fun {a b} h => by rw [z10, z10]; exact h)
 rw [hsorted, z21, List.length_map, ← hperm.length_eq] at hrec
 have hrec : Ev (fun k => impl_record.f k ⟨#[]⟩ ((x' :: z3 key ta.kids).map flat)) (wout key ta tx) := hrec
 have hwl : (wout key ta tx).length < 1000000000000 := by unfold wout; rw [List.length_cons]; omega
 have := memI key ta.kids (by omega) [flat x'] (by simp) (if z6 (wout key ta tx) = true then (wout key ta tx, true) else ([], false)) (by
  rw [hms]
  refine Ev.bind hrec (Ev.bind (z72 _ f6 hwl) ?_)
  split
  ·exact Ev.now _
  ·exact Ev.now _) ta.kids [] rfl
 exact this
theorem z92 (l : List S61) (key : ByteArray) (v : List S61) : (z31 l key v).1.length ≤ 40 := by
 unfold z31
 split
 ·split
  ·split
   ·split
    ·rename_i h
     unfold z6 at h
     simp only [Bool.and_eq_true, decide_eq_true_eq] at h
     exact h.1
    ·simp
   ·simp
  ·simp
 ·simp
theorem FnExactWithField : laws_FnExactWithField.Pure := by
 intro l key v ⟨hl, hf⟩ hkey ⟨hl2, hf2⟩
 have hfit : ∀ x ∈ l, x.f0.size ≤ 140737488351232 ∧ x.f3.size ≤ 140737488351232 := fun x hx => by
  have h := hf x hx
  unfold fit64 at h
  omega
 have hfit2 : ∀ x ∈ v, x.f0.size ≤ 140737488351232 ∧ x.f3.size ≤ 140737488351232 := fun x hx => by
  have h := hf2 x hx
  unfold fit64 at h
  omega
 obtain ⟨n, hn, hnm, hlen⟩ := z103 l hl hfit 1048576 (by omega) (by omega)
 apply Ev.rounds (g := fun k => laws_FnExactWithField.f k l key v)
 unfold laws_FnExactWithField.f
 by_cases hz : (key.size : Int) > 1048576
 ·simp only [hz, if_true]; exact Ev.now _
 simp only [hz, if_false]
 refine Ev.bind hn ?_
 by_cases h : n < 0
 ·simp only [h, if_true]; exact Ev.now _
 obtain ⟨h1, h2⟩ := hlen h
 obtain ⟨n2, hn2, hlen2⟩ := szNodes v hl2 hfit2 n (by omega) hnm
 simp only [h, if_false]
 refine Ev.bind hn2 ?_
 by_cases h' : n2 < 0
 ·simp only [h', if_true]; exact Ev.now _
 obtain ⟨h3, h4⟩ := hlen2 h'
 have hs : ∀ x ∈ l.map toN, x.f0.size < 1000000000000 ∧ x.f3.size < 1000000000000 := by
  intro x hx
  obtain ⟨y, hy, rfl⟩ := List.mem_map.1 hx
  have := h2 y hy
  simp only [toN]
  omega
 have hs2 : ∀ x ∈ v.map toN, x.f0.size < 1000000000000 ∧ x.f3.size < 1000000000000 := by
  intro x hx
  obtain ⟨y, hy, rfl⟩ := List.mem_map.1 hx
  have := h4 y hy
  simp only [toN]
  omega
 have ht := toNodes l h1
 have ht2 := toNodes v h3
 have he := z95 (l.map toN) (by simpa using h1)
 have he2 := z95 (v.map toN) (by simpa using h3)
 have es := withS (l.map toN) key (v.map toN) hs hs2 (by omega)
 have ei := withI (l.map toN) key (v.map toN) hs hs2 (by omega) (by rw [List.length_map]; omega) (by rw [List.length_map]; omega)
 have ha := z92 (l.map toN) key (v.map toN)
 obtain ⟨R, hR⟩ : ∃ R, R = z31 (l.map toN) key (v.map toN) := ⟨_, rfl⟩
 rw [← hR] at es ei ha
 obtain ⟨g, b⟩ := R
 simp only at ha
 have hg := z95 g (by omega)
 obtain ⟨x1, hx1⟩ := z36 (l.map toN) (by rw [List.length_map]; omega) 1 (by omega) (by omega)
 obtain ⟨x2, hx2⟩ := z36 (v.map toN) (by rw [List.length_map]; omega) (1 + 5 * ((l.map toN).length : Int)) (by omega) (by rw [List.length_map]; omega)
 obtain ⟨g', hg1, hg2, hg3⟩ := markNodes g (by omega)
 have hh := heldNodes g' (by omega) hg3
 simp only [h', if_false]
 refine Ev.bind ht (Ev.bind ht2 (Ev.bind es (Ev.bind ht (Ev.bind ht2 (Ev.bind ei (Ev.bind hg ?_))))))
 simp only [if_true, bne_self_eq_false]
 refine Ev.step (f := fun k => (laws_toNodeS.f k l).bind fun t => (laws_eqNodeS.f k (l.map toN) t).bind fun e => if e = true then (laws_toNodeS.f k v).bind fun t2 => (laws_eqNodeS.f k (v.map toN) t2).bind fun e => if e = true then (laws_markNodeS.f k (l.map toN) 1).bind fun m => (laws_markNodeS.f k (v.map toN) m.1).bind fun m2 => if m2.1 < 0 then laws_FnExactWithField.j1 k l key v g b g true else (laws_eqNodeS.f k g g).bind fun e => if e = true then laws_FnExactWithField.j1 k l key v g b g false else laws_FnExactWithField.j1 k l key v g b g true else some false else some false) (fun k => by simp [laws_FnExactWithField.j0]) ?_
 refine Ev.bind ht (Ev.bind he ?_)
 simp only [if_true]
 refine Ev.bind ht2 (Ev.bind he2 ?_)
 simp only [if_true]
 refine Ev.bind hx1 (Ev.bind hx2 ?_)
 simp only [show ¬ (1 + 5 * ((l.map toN).length : Int) + 5 * ((v.map toN).length : Int) < 0) by omega, if_false]
 refine Ev.bind hg ?_
 simp only [if_true]
 refine Ev.step (f := fun k => (laws_markNodeS.f k g 1).bind fun m => (laws_heldNodeS.f k m.2 1).bind fun q => if q < 0 then some false else if q = m.1 then (laws_toNodeS.f k l).bind fun t => (laws_toNodeS.f k v).bind fun t2 => (impl_WithField.f k t key t2).bind fun r => (laws_eqNodeS.f k r.1 g).bind fun e => if e = true then laws_FnExactWithField.j2 k m.2 m.1 (r.2 != b) else laws_FnExactWithField.j2 k m.2 m.1 true else some false) (fun k => by simp [laws_FnExactWithField.j1]) ?_
 refine Ev.bind hg1 (Ev.bind hh ?_)
 simp only [show ¬ (1 + 5 * (g'.length : Int) < 0) by omega, if_false, hg2, if_true]
 refine Ev.bind ht (Ev.bind ht2 (Ev.bind ei (Ev.bind hg ?_)))
 simp only [if_true, bne_self_eq_false]
 refine Ev.step (f := fun k => (laws_heldNodeS.f k g' 1).bind fun q => if q < 0 then some false else if q = 1 + 5 * (g.length : Int) then some true else some false) (fun k => by simp [laws_FnExactWithField.j2]) ?_
 refine Ev.bind hh ?_
 simp only [show ¬ (1 + 5 * (g'.length : Int) < 0) by omega, if_false, hg2, if_true]
 exact Ev.now _
end Go.Proofs.YtkfbdopfeacnfaaDoor.Pure