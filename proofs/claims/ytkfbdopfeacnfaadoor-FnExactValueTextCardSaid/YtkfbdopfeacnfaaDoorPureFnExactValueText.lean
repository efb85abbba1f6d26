/-
The pure statement of FnExactValueText is proved: for all rows that Go can hold, the program's ValueText and the reference's answer alike, and the rows read afterwards as before.
Conditions: the argument is a slice that Go can hold. None besides.
-/
import Derived.Test.YtkfbdopfeacnfaaDoorPFnExactValueTextx11
import Derived.Test.YtkfbdopfeacnfaaDoorPreFnExactValueText
set_option linter.unusedVariables false
set_option linter.unusedSimpArgs false
namespace Go.Proofs.YtkfbdopfeacnfaaDoor.Pure
open Go.RowKit Go.Proofs.YtkfbdopfeacnfaaDoor.PFnExactValueText Go.Proofs.YtkfbdopfeacnfaaDoorW.PrintWords Go.Proofs.YtkfbdopfeacnfaaDoorW.PrintLast Go.Proofs.YtkfbdopfeacnfaaDoorW.PrintMore

theorem w64 {n : Int} (h0 : -9223372036854775808 ≤ n) (h1 : n ≤ 9223372036854775807) : wrap64 n = n := by unfold wrap64; omega
theorem rd_set (l : List Int) (i j v : Int) (h0 : 0 ≤ i) (h1 : i < l.length) (hj : 0 ≤ j) : rd (l.set i.toNat v) j = if j = i then v else rd l j := by
  unfold rd
  rw [List.getD_eq_getElem?_getD, List.getD_eq_getElem?_getD, List.getElem?_set]
  by_cases e : j = i
  · subst e; rw [if_pos rfl, if_pos (by omega), if_pos rfl]; rfl
  · rw [if_neg (by omega), if_neg e]
theorem rdOf_set {α : Type} (d : α) (l : List α) (i j : Int) (v : α) (h0 : 0 ≤ i) (h1 : i < l.length) (hj : 0 ≤ j) : rdOf d (l.set i.toNat v) j = if j = i then v else rdOf d l j := by
  unfold rdOf
  rw [List.getD_eq_getElem?_getD, List.getD_eq_getElem?_getD, List.getElem?_set]
  by_cases e : j = i
  · subst e; rw [if_pos rfl, if_pos (by omega), if_pos rfl]; rfl
  · rw [if_neg (by omega), if_neg e]

/-- A node of the law's own type, as one of the program's. -/
def toN (x : S64) : S61 := ⟨x.f0, x.f1, x.f2, x.f3, x.f4⟩
theorem szNodes_l0 (l : List S64) (hl : l.length < 4000000000) (hs : ∀ x ∈ l, x.f0.size ≤ 140737488351232 ∧ x.f3.size ≤ 140737488351232) (d : Nat) : ∀ (k : Nat) (n i : Int), 0 ≤ n → n ≤ 1048576 → 0 ≤ i → i ≤ l.length → (l.length : Int) - i = d → d < k →
    ∃ r, laws_szNodeS.l0 k l n i = some r ∧ r ≤ n ∧ (¬ r < 0 → ∀ x ∈ l.drop i.toNat, x.f0.size ≤ 1048576 ∧ x.f3.size ≤ 1048576) := by
  induction d with
  | zero =>
    intro k n i hn hn2 h0 hi hd hk
    obtain ⟨k, rfl⟩ : ∃ m, k = m + 1 := ⟨k - 1, by omega⟩
    refine ⟨n, by simp only [laws_szNodeS.l0]; rw [if_neg (by omega)], Int.le_refl _, fun _ => ?_⟩
    rw [List.drop_of_length_le (by omega)]
    intro x hx; cases hx
  | succ d ih =>
    intro k n i hn hn2 h0 hi hd hk
    obtain ⟨k, rfl⟩ : ∃ m, k = m + 1 := ⟨k - 1, by omega⟩
    have hi' : i.toNat < l.length := by omega
    have he : rd_T64 l i = l[i.toNat] := by simp [rd_T64, List.getD_eq_getElem?_getD, hi']
    have hz := hs _ (List.getElem_mem hi')
    simp only [laws_szNodeS.l0, laws_szNode.f, he]
    rw [if_pos (by omega), if_pos h0, w64 (n := i + 1) (by omega) (by omega), w64 (n := n - (l[i.toNat].f0.size : Int)) (by omega) (by omega)]
    by_cases h1 : n - (l[i.toNat].f0.size : Int) < 0
    · rw [if_pos h1]; exact ⟨-1, rfl, by omega, fun h => absurd (by decide) h⟩
    rw [if_neg h1, w64 (n := n - (l[i.toNat].f0.size : Int) - (l[i.toNat].f3.size : Int)) (by omega) (by omega)]
    by_cases h2 : n - (l[i.toNat].f0.size : Int) - (l[i.toNat].f3.size : Int) < 0
    · rw [if_pos h2]; exact ⟨-1, rfl, by omega, fun h => absurd (by decide) h⟩
    rw [if_neg h2]
    simp only [Option.bind_some, h2, if_false]
    obtain ⟨r, e1, e3, e2⟩ := ih k (n - (l[i.toNat].f0.size : Int) - (l[i.toNat].f3.size : Int)) (i + 1) (by omega) (by omega) (by omega) (by omega) (by omega) (by omega)
    refine ⟨r, e1, by omega, fun h => ?_⟩
    have := e2 h
    rw [show (i + 1).toNat = i.toNat + 1 by omega] at this
    rw [List.drop_eq_getElem_cons hi']
    intro x hx
    rcases List.mem_cons.1 hx with rfl | hx
    · omega
    · exact this x hx
theorem szNodes2 (l : List S64) (hl : l.length * 56 ≤ 140737488351232) (hs : ∀ x ∈ l, x.f0.size ≤ 140737488351232 ∧ x.f3.size ≤ 140737488351232) (m : Int) (hm0 : 0 ≤ m) (hm : m ≤ 1048576) :
    ∃ r, Ev (fun k => laws_szNodeS.f k l m) r ∧ r ≤ m ∧ (¬ r < 0 → l.length ≤ 1048576 ∧ ∀ x ∈ l, x.f0.size ≤ 1048576 ∧ x.f3.size ≤ 1048576) := by
  unfold laws_szNodeS.f
  have hw : wrap64 (m - (l.length : Int)) = m - l.length := w64 (by omega) (by omega)
  rw [hw]
  by_cases h : m - (l.length : Int) < 0
  · simp only [h, if_true]; exact ⟨-1, Ev.now _, by omega, fun h => absurd (by decide) h⟩
  · simp only [h, if_false]
    obtain ⟨r, hr, hr3, hr2⟩ := szNodes_l0 l (by omega) hs l.length (l.length + 1) (m - l.length) 0 (by omega) (by omega) (by omega) (by omega) (by omega) (by omega)
    refine ⟨r, Ev.of (fun k => laws_szNodeS.mono_l k l _ 0) hr, by omega, fun h2 => ⟨by omega, ?_⟩⟩
    have := hr2 h2
    simpa using this
theorem szNodes (l : List S64) (hl : l.length * 56 ≤ 140737488351232) (hs : ∀ x ∈ l, x.f0.size ≤ 140737488351232 ∧ x.f3.size ≤ 140737488351232) (m : Int) (hm0 : 0 ≤ m) (hm : m ≤ 1048576) :
    ∃ r, Ev (fun k => laws_szNodeS.f k l m) r ∧ (¬ r < 0 → l.length ≤ 1048576 ∧ ∀ x ∈ l, x.f0.size ≤ 1048576 ∧ x.f3.size ≤ 1048576) :=
  let ⟨r, h1, _, h2⟩ := szNodes2 l hl hs m hm0 hm; ⟨r, h1, h2⟩
theorem toNodes_l0 (l : List S64) (hl : l.length < 4611686018427387904) (d : Nat) : ∀ (k : Nat) (m : List S61) (i : Int), 0 ≤ i → i ≤ l.length → (l.length : Int) - i = d → d < k → m.length = l.length → m.take i.toNat = (l.map toN).take i.toNat → laws_toNodeS.l0 k l m i = some (l.map toN) := by
  induction d with
  | zero =>
    intro k m i h0 hi hd hk hm hj
    obtain ⟨k, rfl⟩ : ∃ m, k = m + 1 := ⟨k - 1, by omega⟩
    simp only [laws_toNodeS.l0]
    rw [List.take_of_length_le (by omega), List.take_of_length_le (by simp; omega)] at hj
    rw [if_neg (by omega), hj]
  | succ d ih =>
    intro k m i h0 hi hd hk hm hj
    obtain ⟨k, rfl⟩ : ∃ m, k = m + 1 := ⟨k - 1, by omega⟩
    have hi' : i.toNat < l.length := by omega
    have he : rd_T64 l i = l[i.toNat] := by simp [rd_T64, List.getD_eq_getElem?_getD, hi']
    simp only [laws_toNodeS.l0, laws_toNode.f, he, Option.bind_some]
    rw [if_pos (by omega), if_pos h0, if_pos (by omega), w64 (by omega) (by omega)]
    refine ih k _ (i + 1) (by omega) (by omega) (by omega) (by omega) (by simpa using hm) ?_
    rw [show (i + 1).toNat = i.toNat + 1 by omega, List.take_add_one, List.take_add_one, List.take_set_of_le (Nat.le_refl _), hj]
    simp [toN, hi', show i.toNat < m.length by omega]
theorem toNodes (l : List S64) (hl : l.length ≤ 1048576) : Ev (fun k => laws_toNodeS.f k l) (l.map toN) :=
  ⟨l.length + 1, fun k hk => by
    simp only [laws_toNodeS.f]
    rw [if_pos (by omega), if_pos (by omega)]
    exact toNodes_l0 l (by omega) l.length k _ 0 (by omega) (by omega) (by omega) (by omega) (by simp) (by simp)⟩
theorem eqNodes_l0 (l : List S61) (hl : l.length < 4611686018427387904) (d : Nat) : ∀ (k : Nat) (i : Int), 0 ≤ i → i ≤ l.length → (l.length : Int) - i = d → d < k → laws_eqNodeS.l0 k l l i = some true := by
  induction d with
  | zero =>
    intro k i h0 hi hd hk
    obtain ⟨k, rfl⟩ : ∃ m, k = m + 1 := ⟨k - 1, by omega⟩
    simp only [laws_eqNodeS.l0]
    rw [if_neg (by omega)]
  | succ d ih =>
    intro k i h0 hi hd hk
    obtain ⟨k, rfl⟩ : ∃ m, k = m + 1 := ⟨k - 1, by omega⟩
    simp only [laws_eqNodeS.l0, laws_eqNode.f, if_true, Option.bind_some]
    rw [if_pos (by omega), if_pos h0, if_pos (by omega), w64 (by omega) (by omega)]
    exact ih k (i + 1) (by omega) (by omega) (by omega) (by omega)
theorem eqNodes (l : List S61) (hl : l.length ≤ 1048576) : Ev (fun k => laws_eqNodeS.f k l l) true :=
  ⟨l.length + 1, fun k hk => by
    simp only [laws_eqNodeS.f, if_true]
    exact eqNodes_l0 l (by omega) l.length k 0 (by omega) (by omega) (by omega) (by omega)⟩

theorem ba_app (a b : List UInt8) : (⟨a.toArray⟩ : ByteArray) ++ ⟨b.toArray⟩ = ⟨(a ++ b).toArray⟩ := by apply ByteArray.ext; simp
theorem ba_size (a : List UInt8) : (⟨a.toArray⟩ : ByteArray).size = a.length := by simp [ByteArray.size]
theorem num_one (x : Int) (n : Nat) (h : x = n) (hn : n < 10) : strOfNums [(wrap64 (48 + x)) % 256] = ⟨[UInt8.ofNat (48 + n)].toArray⟩ := by
  subst h
  rw [w64 (by omega) (by omega)]
  have e : ((48 + (n : Int)) % 256).toNat = 48 + n := by omega
  simp only [strOfNums, List.map_cons, List.map_nil, e]
theorem dec_len (n : Nat) : (Lib.decDigits n).length ≤ n + 1 := by
  induction n using Nat.strongRecOn with
  | _ n ih =>
    rw [Lib.decDigits]
    by_cases h : n < 10
    · rw [dif_pos h]; simp
    · rw [dif_neg h]
      have := ih (n / 10) (by omega)
      simp only [List.length_append, List.length_cons, List.length_nil]
      omega
theorem l1Num_eq (k : Nat) : ∀ n : Nat, n < k → (n : Int) < 4611686018427387904 → spec_l1Num.f k (n : Int) = some ⟨(Lib.decDigits n).toArray⟩ := by
  induction k with
  | zero => intro n h; omega
  | succ k ih =>
    intro n h hb
    rw [spec_l1Num.f]
    by_cases h10 : n < 10
    · rw [if_pos (by omega), num_one n n rfl h10, Lib.decDigits, dif_pos h10]
    · have e1 : Int.tdiv (n : Int) 10 = ((n / 10 : Nat) : Int) := rfl
      have e2 : Int.tmod (n : Int) 10 = ((n % 10 : Nat) : Int) := rfl
      rw [if_neg (by omega), e1, e2, w64 (n := ((n / 10 : Nat) : Int)) (by omega) (by omega), ih (n / 10) (by omega) (by omega)]
      simp only [Option.bind_some]
      have := dec_len (n / 10)
      rw [num_one _ (n % 10) rfl (by omega), if_pos (by rw [ba_size, ba_size]; simp only [List.length_cons, List.length_nil]; omega), Lib.decDigits.eq_def n, dif_neg h10, ba_app]
theorem itoa_nat (n : Nat) : Lib.itoa (n : Int) = Lib.decDigits n := by
  unfold Lib.itoa
  rw [if_neg (by omega)]
  rfl
theorem num_both (k n : Nat) (hk : n < k) (hb : (n : Int) < 4611686018427387904) : spec_l1Num.f k (n : Int) = some ⟨(Lib.decDigits n).toArray⟩ ∧ strconv_Itoa.f (n : Int) = some ⟨(Lib.decDigits n).toArray⟩ :=
  ⟨l1Num_eq k n hk hb, by unfold strconv_Itoa.f; rw [if_pos (by omega), itoa_nat]⟩

/-- A string as it is written, in signs. -/
def qt (s : ByteArray) : ByteArray := ⟨([34] ++ st_of s.data.toList ++ [34]).toArray⟩
theorem qt_size (s : ByteArray) : (qt s).size ≤ 6 * s.size + 2 := by
  have := st_len s.data.toList
  rw [show s.data.toList.length = s.size from data_length s] at this
  unfold qt
  rw [ba_size]
  simp only [List.length_append, List.length_cons, List.length_nil]
  omega
theorem quoteI (s : ByteArray) (h : s.size ≤ 1000000000000) : impl_stringText.f s = some (qt s) := by unfold impl_stringText.f; rw [if_pos h]; rfl
/-- How a sign is written short. -/
def shq (v : Int) : ByteArray := if v = 34 then ⟨#[92, 34]⟩ else if v = 92 then ⟨#[92, 92]⟩ else if v = 8 then ⟨#[92, 98]⟩ else if v = 9 then ⟨#[92, 116]⟩ else if v = 10 then ⟨#[92, 110]⟩ else if v = 12 then ⟨#[92, 102]⟩ else if v = 13 then ⟨#[92, 114]⟩ else ⟨#[]⟩
theorem shq_spec (b : UInt8) : st_q b = if (shq (b.toNat : Int)).toList = [] then (if b.toNat < 32 then [92, 117, 48, 48] ++ hx_two b else [b]) else (shq (b.toNat : Int)).data.toList := by
  have h : ∀ n, n < 256 → st_q (UInt8.ofNat n) = if (shq ((UInt8.ofNat n).toNat : Int)).toList = [] then (if (UInt8.ofNat n).toNat < 32 then [92, 117, 48, 48] ++ hx_two (UInt8.ofNat n) else [UInt8.ofNat n]) else (shq ((UInt8.ofNat n).toNat : Int)).data.toList := by decide +kernel
  have := h b.toNat (UInt8.toNat_lt b)
  rwa [UInt8.ofNat_toNat] at this
theorem quo_step (j : Nat) (hj : j < 7) (k : Nat) (x0 x3 x6 : ByteArray) (x4 v : Int) : spec_l7Quote.l1 (k + 1) x0 x3 x4 v x6 [34, 92, 8, 9, 10, 12, 13] 7 j = spec_l7Quote.l1 k x0 x3 x4 v (if v = rd [34, 92, 8, 9, 10, 12, 13] j then (⟨#[92]⟩ : ByteArray) ++ (⟨#[34, 92, 98, 116, 110, 102, 114]⟩ : ByteArray).extract j (j + 1) else x6) [34, 92, 8, 9, 10, 12, 13] 7 (j + 1 : Nat) := by
  have hw : wrap64 ((j : Int) + 1) = ((j + 1 : Nat) : Int) := by rw [w64 (by omega) (by omega)]; omega
  have hs : ((⟨#[34, 92, 98, 116, 110, 102, 114]⟩ : ByteArray).extract j (j + 1)).size ≤ 7 := by rw [ByteArray.size_extract]; show min _ 7 - _ ≤ 7; omega
  rw [spec_l7Quote.l1, if_pos (by omega), if_pos (by omega), if_pos (by simp only [List.length_cons, List.length_nil]; omega), hw]
  by_cases c : v = rd [34, 92, 8, 9, 10, 12, 13] j
  · rw [if_pos c, if_pos (by omega), if_pos (by omega), if_pos c]
    rw [Int.toNat_natCast, Int.toNat_natCast, if_pos (by omega)]
  · rw [if_neg c, if_neg c]
theorem quo_short (k : Nat) (x0 x3 : ByteArray) (x4 v : Int) : spec_l7Quote.l1 (k + 8) x0 x3 x4 v ⟨#[]⟩ [34, 92, 8, 9, 10, 12, 13] 7 0 = spec_l7Quote.l1 (k + 1) x0 x3 x4 v (shq v) [34, 92, 8, 9, 10, 12, 13] 7 7 := by
  have s0 := fun x => quo_step 0 (by omega) (k + 7) x0 x3 x x4 v
  have s1 := fun x => quo_step 1 (by omega) (k + 6) x0 x3 x x4 v
  have s2 := fun x => quo_step 2 (by omega) (k + 5) x0 x3 x x4 v
  have s3 := fun x => quo_step 3 (by omega) (k + 4) x0 x3 x x4 v
  have s4 := fun x => quo_step 4 (by omega) (k + 3) x0 x3 x x4 v
  have s5 := fun x => quo_step 5 (by omega) (k + 2) x0 x3 x x4 v
  have s6 := fun x => quo_step 6 (by omega) (k + 1) x0 x3 x x4 v
  refine (s0 _).trans ((s1 _).trans ((s2 _).trans ((s3 _).trans ((s4 _).trans ((s5 _).trans ((s6 _).trans ?_))))))
  congr 1
  unfold shq
  have r0 : rd [34, 92, 8, 9, 10, 12, 13] (0 : Nat) = 34 := rfl
  have r1 : rd [34, 92, 8, 9, 10, 12, 13] (1 : Nat) = 92 := rfl
  have r2 : rd [34, 92, 8, 9, 10, 12, 13] (2 : Nat) = 8 := rfl
  have r3 : rd [34, 92, 8, 9, 10, 12, 13] (3 : Nat) = 9 := rfl
  have r4 : rd [34, 92, 8, 9, 10, 12, 13] (4 : Nat) = 10 := rfl
  have r5 : rd [34, 92, 8, 9, 10, 12, 13] (5 : Nat) = 12 := rfl
  have r6 : rd [34, 92, 8, 9, 10, 12, 13] (6 : Nat) = 13 := rfl
  rw [r0, r1, r2, r3, r4, r5, r6]
  by_cases c0 : v = 34
  · subst c0; rfl
  by_cases c1 : v = 92
  · subst c1; rfl
  by_cases c2 : v = 8
  · subst c2; rfl
  by_cases c3 : v = 9
  · subst c3; rfl
  by_cases c4 : v = 10
  · subst c4; rfl
  by_cases c5 : v = 12
  · subst c5; rfl
  by_cases c6 : v = 13
  · subst c6; rfl
  simp only [c0, c1, c2, c3, c4, c5, c6, if_false]
/-- One sign's hexadecimal digits. -/
theorem hexOne (b : UInt8) (k : Nat) : spec_l1Hex.f (k + 2) ⟨#[b]⟩ = some ⟨(hx_two b).toArray⟩ := by
  have h : ∀ n, n < 256 → spec_l1Hex.f 2 ⟨#[UInt8.ofNat n]⟩ = some ⟨(hx_two (UInt8.ofNat n)).toArray⟩ := by decide +kernel
  have h2 := h b.toNat (UInt8.toNat_lt b)
  rw [UInt8.ofNat_toNat] at h2
  exact at_rounds (fun k => spec_l1Hex.mono _ k) (by omega) h2

theorem ev_shift {α : Type} {g : Nat → Option α} {r : α} (n : Nat) (h : Ev (fun k => g (k + n)) r) : Ev g r := by
  obtain ⟨K, hK⟩ := h
  refine ⟨K + n, fun k hk => ?_⟩
  have this : g (k - n + n) = some r := hK (k - n) (by omega)
  rwa [Nat.sub_add_cancel (by omega)] at this
theorem ext_one (s : ByteArray) (i : Nat) (h : i < s.size) : s.extract i (i + 1) = ⟨#[s.data.toList.getD i 0]⟩ := by
  have dl : s.data.toList.length = s.size := data_length s
  apply ByteArray.ext
  apply Array.ext'
  rw [ByteArray.data_extract, Array.toList_extract, List.extract_eq_take_drop, show i + 1 - i = 1 by omega, List.take_one, List.head?_drop, List.getD_eq_getElem?_getD, List.getElem?_eq_getElem (by omega)]
  rfl
theorem bt_getD (s : ByteArray) (i : Nat) (h : i < s.size) : bt s (i : Int) = ((s.data.toList.getD i 0).toNat : Int) := by
  unfold bt
  rw [dif_pos (by rw [Int.toNat_natCast]; exact h)]
  have dl : s.data.toList.length = s.size := data_length s
  rw [List.getD_eq_getElem?_getD, List.getElem?_eq_getElem (by omega)]
  rfl
theorem quoS_l0 (s : ByteArray) (hs : s.size ≤ 2000000) : ∀ (d i : Nat), i + d = s.size → Ev (fun k => spec_l7Quote.l0 k s ⟨([34] ++ st_of (s.data.toList.take i)).toArray⟩ i) (qt s)
  | 0, i, hd => by
    have dl : s.data.toList.length = s.size := data_length s
    refine Ev.step (f := fun _ => some (qt s)) (fun k => ?_) (Ev.now _)
    have := st_len (s.data.toList.take i)
    rw [List.length_take] at this
    rw [spec_l7Quote.l0, if_neg (by omega), if_pos (by rw [ba_size]; simp only [List.length_append, List.length_cons, List.length_nil]; omega)]
    congr 1
    rw [show (⟨#[34]⟩ : ByteArray) = ⟨[34].toArray⟩ from rfl, ba_app, List.take_of_length_le (by omega)]
    rfl
  | d + 1, i, hd => by
    have dl : s.data.toList.length = s.size := data_length s
    have ih := quoS_l0 s hs d (i + 1) (by omega)
    obtain ⟨U, hU⟩ : ∃ U : UInt8, U = s.data.toList.getD i 0 := ⟨_, rfl⟩
    have hbt : bt s (i : Int) = (U.toNat : Int) := by rw [hU]; exact bt_getD s i (by omega)
    have hex := ext_one s i (by omega)
    rw [← hU] at hex
    rw [st_take _ _ (by omega), ← hU] at ih
    have hlen : ([34] ++ st_of (s.data.toList.take i)).length ≤ 12000001 := by
      have := st_len (s.data.toList.take i)
      rw [List.length_take] at this
      simp only [List.length_append, List.length_cons, List.length_nil]
      omega
    obtain ⟨acc, hacc⟩ : ∃ acc, acc = [34] ++ st_of (s.data.toList.take i) := ⟨_, rfl⟩
    rw [← List.append_assoc, ← hacc] at ih
    rw [← hacc] at hlen ⊢
    have hw : wrap64 ((i : Int) + 1) = ((i + 1 : Nat) : Int) := by rw [w64 (by omega) (by omega)]; omega
    have hq := st_q_len U
    have hsp := shq_spec U
    refine Ev.step (f := fun k => spec_l7Quote.l1 k s ⟨acc.toArray⟩ i (U.toNat : Int) ⟨#[]⟩ [34, 92, 8, 9, 10, 12, 13] 7 0) (fun k => ?_) ?_
    · rw [spec_l7Quote.l0, if_pos (by omega), if_pos (by omega), Option.bind_some, hbt]
      rfl
    refine ev_shift 8 ?_
    refine Ev.congr (fun k => quo_short k s ⟨acc.toArray⟩ i (U.toNat : Int)) ?_
    by_cases c1 : (shq (U.toNat : Int)).toList = []
    · rw [if_pos c1] at hsp
      by_cases c2 : U.toNat < 32
      · rw [if_pos c2] at hsp
        refine Ev.congr (f := fun k => (spec_l1Hex.f k ⟨#[U]⟩).bind fun t => if 4 + t.size ≤ 9223372036854775807 then (if (⟨acc.toArray⟩ : ByteArray).size + ((⟨#[92, 117, 48, 48]⟩ : ByteArray) ++ t).size ≤ 9223372036854775807 then spec_l7Quote.l0 k s ((⟨acc.toArray⟩ : ByteArray) ++ ((⟨#[92, 117, 48, 48]⟩ : ByteArray) ++ t)) ((i + 1 : Nat) : Int) else none) else none) (fun k => ?_) ?_
        · rw [spec_l7Quote.l1, if_neg (by omega), if_pos c1, if_pos (by omega), hw, if_pos (by omega), if_pos (by omega), if_pos (by omega), Int.toNat_natCast, Int.toNat_natCast, hex]
        · refine Ev.bind (Ev.of (fun k => spec_l1Hex.mono _ k) (hexOne U 0)) ?_
          simp only [show (⟨#[92, 117, 48, 48]⟩ : ByteArray) = ⟨[92, 117, 48, 48].toArray⟩ from rfl, ba_app, ba_size]
          rw [← hsp]
          simp only [show 4 + (hx_two U).length ≤ 9223372036854775807 from by simp [hx_two], show acc.length + (st_q U).length ≤ 9223372036854775807 from by omega, if_true]
          exact ih
      · rw [if_neg c2] at hsp
        refine Ev.congr (f := fun k => if (⟨acc.toArray⟩ : ByteArray).size + (⟨#[U]⟩ : ByteArray).size ≤ 9223372036854775807 then spec_l7Quote.l0 k s ((⟨acc.toArray⟩ : ByteArray) ++ ⟨#[U]⟩) ((i + 1 : Nat) : Int) else none) (fun k => ?_) ?_
        · rw [spec_l7Quote.l1, if_neg (by omega), if_pos c1, if_neg (by omega), hw, if_pos (by omega), if_pos (by omega), if_pos (by omega), Int.toNat_natCast, Int.toNat_natCast, hex]
        · simp only [show (⟨#[U]⟩ : ByteArray) = ⟨[U].toArray⟩ from rfl, ba_app, ba_size]
          rw [← hsp]
          simp only [show acc.length + (st_q U).length ≤ 9223372036854775807 from by omega, if_true]
          exact ih
    · rw [if_neg c1] at hsp
      obtain ⟨l, hl⟩ : ∃ l : List UInt8, shq (U.toNat : Int) = ⟨l.toArray⟩ := ⟨(shq (U.toNat : Int)).data.toList, rfl⟩
      rw [hl] at hsp
      have e : (⟨l.toArray⟩ : ByteArray).data.toList = l := rfl
      rw [e] at hsp
      refine Ev.congr (f := fun k => if (⟨acc.toArray⟩ : ByteArray).size + (⟨l.toArray⟩ : ByteArray).size ≤ 9223372036854775807 then spec_l7Quote.l0 k s ((⟨acc.toArray⟩ : ByteArray) ++ ⟨l.toArray⟩) ((i + 1 : Nat) : Int) else none) (fun k => ?_) ?_
      · rw [spec_l7Quote.l1, if_neg (by omega), if_neg c1, hw, hl]
      · simp only [ba_app, ba_size]
        rw [← hsp]
        simp only [show acc.length + (st_q U).length ≤ 9223372036854775807 from by omega, if_true]
        exact ih
theorem quoteS (s : ByteArray) (hs : s.size ≤ 2000000) : Ev (fun k => spec_l7Quote.f k s) (qt s) := by
  have := quoS_l0 s hs s.size 0 (by omega)
  simpa [spec_l7Quote.f, st_of] using this
theorem wholeS (n : Int) (h0 : -9007199254740991 ≤ n) (h1 : n ≤ 9007199254740991) : Ev (fun k => spec_l7Whole.f k n) ⟨(Lib.itoa n).toArray⟩ ∧ strconv_Itoa.f n = some ⟨(Lib.itoa n).toArray⟩ := by
  constructor
  · unfold spec_l7Whole.f
    have hb : ∀ m : Nat, (m : Int) ≤ 9007199254740991 → Ev (fun k => spec_l1Num.f k (m : Int)) ⟨(Lib.decDigits m).toArray⟩ := fun m hm => ⟨m + 1, fun k hk => l1Num_eq k m (by omega) (by omega)⟩
    have hd : ∀ m : Nat, (Lib.decDigits m).length ≤ m + 1 := dec_len
    by_cases c : n < 0
    · obtain ⟨m, hm⟩ : ∃ m : Nat, -n = (m : Int) := ⟨n.natAbs, by omega⟩
      have hw : wrap64 (-n) = (m : Int) := by rw [w64 (by omega) (by omega), hm]
      simp only [c, if_true, hw]
      refine Ev.bind (hb m (by omega)) ?_
      have := hd m
      simp only [ba_size, show 1 + (Lib.decDigits m).length ≤ 9223372036854775807 from by omega, if_true]
      unfold Lib.itoa
      rw [if_pos c, show n.natAbs = m by omega, show (⟨#[45]⟩ : ByteArray) = ⟨[45].toArray⟩ from rfl, ba_app]
      exact Ev.now _
    · obtain ⟨m, hm⟩ : ∃ m : Nat, n = (m : Int) := ⟨n.toNat, by omega⟩
      subst hm
      simp only [c, if_false]
      refine Ev.bind (hb m (by omega)) ?_
      rw [itoa_nat]
      exact Ev.now _
  · unfold strconv_Itoa.f
    rw [if_pos (by omega)]

/-! Runes and their bytes, as natural numbers. -/
def Good (n : Int) : Prop := 0 ≤ n ∧ n ≤ 1114111 ∧ ¬ (55296 ≤ n ∧ n ≤ 57343)
instance (n : Int) : Decidable (Good n) := by unfold Good; infer_instance
def eb (n : Nat) : List Nat :=
  if n < 128 then [n] else if n < 2048 then [192 + n / 64, 128 + n % 64]
  else if n < 65536 then [224 + n / 4096, 128 + n / 64 % 64, 128 + n % 64]
  else [240 + n / 262144, 128 + n / 4096 % 64, 128 + n / 64 % 64, 128 + n % 64]
def nb (s : ByteArray) : List Nat := s.data.toList.map UInt8.toNat
theorem nb_length (s : ByteArray) : (nb s).length = s.size := by rw [nb, List.length_map, Array.length_toList]; rfl
theorem nb_append (a b : ByteArray) : nb (a ++ b) = nb a ++ nb b := by simp [nb]
theorem toNat_inj : ∀ {a b : List UInt8}, a.map UInt8.toNat = b.map UInt8.toNat → a = b
  | [], [], _ => rfl
  | [], _ :: _, h => by simp at h
  | _ :: _, [], h => by simp at h
  | x :: a, y :: b, h => by
    simp only [List.map_cons, List.cons.injEq] at h
    rw [toNat_inj h.2, UInt8.toNat_inj.1 h.1]
theorem nb_inj {a b : ByteArray} (h : nb a = nb b) : a = b := by
  cases a; cases b
  simp only [nb] at h
  have := toNat_inj h
  congr 1
  exact Array.ext' this
theorem nb_lt {s : ByteArray} {x : Nat} (h : x ∈ nb s) : x < 256 := by
  obtain ⟨y, _, rfl⟩ := List.mem_map.1 h
  exact y.toNat_lt
theorem eb_length (n : Nat) : 1 ≤ (eb n).length ∧ (eb n).length ≤ 4 := by
  unfold eb; split
  · simp
  split
  · simp
  split <;> simp
theorem eb_lt {n : Nat} (h : n ≤ 1114111) : ∀ x ∈ eb n, x < 256 := by
  intro x hx
  unfold eb at hx
  split at hx
  · simp at hx; omega
  split at hx
  · simp at hx; omega
  split at hx <;> (simp at hx; omega)
theorem nb_encode (n : Int) (h : Good n) : nb (Utf8.encode n) = eb n.toNat := by
  obtain ⟨m, rfl⟩ := Int.eq_ofNat_of_zero_le h.1
  have hv : Utf8.valid (m : Int) = true := by
    unfold Utf8.valid
    have := h.2.1; have := h.2.2
    simp only [Bool.or_eq_true, Bool.and_eq_true, decide_eq_true_eq]
    omega
  have hm : m ≤ 1114111 := by have := h.2.1; omega
  unfold Utf8.encode eb nb
  rw [if_pos hv]
  simp only [Int.toNat_natCast]
  split
  · simp; omega
  split
  · simp; omega
  split <;> (simp; omega)
/-- What Go's decoder hands back at the front of these bytes. -/
def dl (l : List Nat) : Nat × Nat := Lib.decodeN l.length (l.getD 0 0) (l.getD 1 0) (l.getD 2 0) (l.getD 3 0)
theorem dl_eb (n : Nat) (h : Good n) (t : List Nat) : dl (eb n ++ t) = (n, (eb n).length) := by
  have h1 := h.2.1
  have h2 := h.2.2
  unfold eb
  split
  · simp [dl, Lib.decodeN, *]
  rename_i g1
  split
  · rename_i g2
    simp only [dl, List.length_append, List.length_cons, List.length_nil, List.cons_append, List.nil_append, List.getD_cons_zero, List.getD_cons_succ, Lib.decodeN]
    rw [if_neg (by omega), if_pos (by omega), if_pos (by omega)]
    simp; omega
  rename_i g2
  split
  · rename_i g3
    simp only [dl, List.length_append, List.length_cons, List.length_nil, List.cons_append, List.nil_append, List.getD_cons_zero, List.getD_cons_succ, Lib.decodeN]
    rw [if_neg (by omega), if_neg (by omega), if_pos (by omega), if_pos (by omega)]
    simp; omega
  · rename_i g3
    simp only [dl, List.length_append, List.length_cons, List.length_nil, List.cons_append, List.nil_append, List.getD_cons_zero, List.getD_cons_succ, Lib.decodeN]
    rw [if_neg (by omega), if_neg (by omega), if_neg (by omega), if_pos (by omega), if_pos (by omega)]
    simp; omega
theorem eb1 {n : Nat} (h : n < 128) : eb n = [n] := by unfold eb; rw [if_pos h]
theorem eb2 {n : Nat} (h : ¬ n < 128) (h2 : n < 2048) : eb n = [192 + n / 64, 128 + n % 64] := by unfold eb; rw [if_neg h, if_pos h2]
theorem eb3 {n : Nat} (h : ¬ n < 2048) (h2 : n < 65536) : eb n = [224 + n / 4096, 128 + n / 64 % 64, 128 + n % 64] := by unfold eb; rw [if_neg (by omega), if_neg h, if_pos h2]
theorem eb4 {n : Nat} (h : ¬ n < 65536) : eb n = [240 + n / 262144, 128 + n / 4096 % 64, 128 + n / 64 % 64, 128 + n % 64] := by unfold eb; rw [if_neg (by omega), if_neg (by omega), if_neg h]
/-- A list whose first bytes are told. -/
theorem front1 {l : List Nat} (h : 1 ≤ l.length) : l = l.getD 0 0 :: l.drop 1 := by
  cases l with
  | nil => simp at h
  | cons a t => simp
theorem front2 {l : List Nat} (h : 2 ≤ l.length) : l = l.getD 0 0 :: l.getD 1 0 :: l.drop 2 := by
  match l, h with
  | a :: b :: t, _ => simp
theorem front3 {l : List Nat} (h : 3 ≤ l.length) : l = l.getD 0 0 :: l.getD 1 0 :: l.getD 2 0 :: l.drop 3 := by
  match l, h with
  | a :: b :: c :: t, _ => simp
theorem front4 {l : List Nat} (h : 4 ≤ l.length) : l = l.getD 0 0 :: l.getD 1 0 :: l.getD 2 0 :: l.getD 3 0 :: l.drop 4 := by
  match l, h with
  | a :: b :: c :: d :: t, _ => simp
theorem getD_lt {l : List Nat} (h : ∀ x ∈ l, x < 256) (i : Nat) : l.getD i 0 < 256 := by
  rw [List.getD_eq_getElem?_getD]
  by_cases hi : i < l.length
  · rw [List.getElem?_eq_getElem hi]; exact h _ (List.getElem_mem hi)
  · rw [List.getElem?_eq_none (by omega)]; decide
theorem dl_ok (l : List Nat) (hl : ∀ x ∈ l, x < 256) (h0 : l ≠ []) (h : ¬ ((dl l).1 = 65533 ∧ (dl l).2 < 2)) :
    Good (dl l).1 ∧ l = eb (dl l).1 ++ l.drop (dl l).2 ∧ (dl l).2 = (eb (dl l).1).length := by
  have hlen : 1 ≤ l.length := by cases l with | nil => exact absurd rfl h0 | cons => simp
  have b0 := getD_lt hl 0
  have b1 := getD_lt hl 1
  have b2 := getD_lt hl 2
  have b3 := getD_lt hl 3
  have f1 := front1 hlen
  unfold dl Lib.decodeN at h ⊢
  generalize hb0 : l.getD 0 0 = x0 at *
  generalize hb1 : l.getD 1 0 = x1 at *
  generalize hb2 : l.getD 2 0 = x2 at *
  generalize hb3 : l.getD 3 0 = x3 at *
  split
  · rename_i g
    refine ⟨⟨by omega, by simp only; omega, by simp only; omega⟩, ?_, ?_⟩
    · rw [eb1 (by simpa using g)]; exact f1
    · rw [eb1 (by simpa using g)]; rfl
  rename_i g1
  rw [if_neg g1] at h
  split
  · rename_i g2
    rw [if_pos g2] at h
    split
    · rename_i g3
      have f2 := front2 (l := l) (by omega)
      rw [hb0, hb1] at f2
      have e := eb2 (n := x0 % 32 * 64 + x1 % 64) (by omega) (by omega)
      refine ⟨⟨by simp only; omega, by simp only; omega, by simp only; omega⟩, ?_, ?_⟩
      · simp only; rw [e]; rw [f2]; simp; omega
      · simp only; rw [e]; rfl
    · rename_i g3
      rw [if_neg g3] at h
      exact absurd ⟨rfl, by decide⟩ h
  rename_i g2
  rw [if_neg g2] at h
  split
  · rename_i g3
    rw [if_pos g3] at h
    split
    · rename_i g4
      have f2 := front3 (l := l) (by omega)
      rw [hb0, hb1, hb2] at f2
      have e := eb3 (n := x0 % 16 * 4096 + x1 % 64 * 64 + x2 % 64) (by omega) (by omega)
      refine ⟨⟨by simp only; omega, by simp only; omega, by simp only; omega⟩, ?_, ?_⟩
      · simp only; rw [e]; rw [f2]; simp; omega
      · simp only; rw [e]; rfl
    · rename_i g4
      rw [if_neg g4] at h
      exact absurd ⟨rfl, by decide⟩ h
  rename_i g3
  rw [if_neg g3] at h
  split
  · rename_i g4
    rw [if_pos g4] at h
    split
    · rename_i g5
      have f2 := front4 (l := l) (by omega)
      rw [hb0, hb1, hb2, hb3] at f2
      have e := eb4 (n := x0 % 8 * 262144 + x1 % 64 * 4096 + x2 % 64 * 64 + x3 % 64) (by omega)
      refine ⟨⟨by simp only; omega, by simp only; omega, by simp only; omega⟩, ?_, ?_⟩
      · simp only; rw [e]; rw [f2]; simp; omega
      · simp only; rw [e]; rfl
    · rename_i g5
      rw [if_neg g5] at h
      exact absurd ⟨rfl, by decide⟩ h
  · rename_i g4
    rw [if_neg g4] at h
    exact absurd ⟨rfl, by decide⟩ h
theorem get_nb (s : ByteArray) (k : Nat) : (s.get! k).toNat = (nb s).getD k 0 := by
  rw [List.getD_eq_getElem?_getD]
  by_cases h : k < s.size
  · rw [Utf8W.get!_of_lt s k h, List.getElem?_eq_getElem (by rw [nb_length]; exact h)]
    simp [nb]; rfl
  · rw [List.getElem?_eq_none (by rw [nb_length]; omega)]
    cases s with
    | mk d =>
      have : d[k]! = default := getElem!_neg d k (by simpa [ByteArray.size] using h)
      show (d[k]!).toNat = _
      rw [this]; rfl
theorem nb_extract (s : ByteArray) (i j : Nat) : nb (s.extract i j) = ((nb s).take j).drop i := by
  unfold nb
  rw [← List.map_take, ← List.map_drop]
  congr 1
  simp [ByteArray.data_extract, List.drop_take]
theorem decodeGo_nb (s : ByteArray) : Lib.decodeGo s = if nb s = [] then (65533, 0) else dl (nb s) := by
  unfold Lib.decodeGo
  by_cases h : s.size = 0
  · rw [if_pos h, if_pos (by rw [← nb_length] at h; exact List.eq_nil_of_length_eq_zero h)]
  · rw [if_neg h, if_neg (fun e => h (by rw [← nb_length, e]; rfl)), Lib.decode_at]
    simp only [get_nb, dl, Nat.sub_zero, nb_length, Nat.zero_add]
theorem bt_nb (s : ByteArray) (i : Int) (h : i.toNat < s.size) : bt s i = ((nb s).getD i.toNat 0 : Nat) := by
  unfold bt
  rw [dif_pos h, List.getD_eq_getElem?_getD, List.getElem?_eq_getElem (by rw [nb_length]; exact h)]
  simp [nb]; rfl
theorem toList_nb (a b : ByteArray) : a.toList = b.toList ↔ nb a = nb b := by
  rw [ByteArray.toList_eq, ByteArray.toList_eq] 
  constructor
  · intro h; unfold nb; rw [h]
  · intro h; exact toNat_inj h
/-! lists of runes -/
def encs (l : List Int) : List Nat := l.flatMap fun n => eb n.toNat
def Goods (l : List Int) : Prop := ∀ n ∈ l, Good n
theorem goods_nil : Goods [] := fun x hx => by simp at hx
theorem goods_cons {n : Int} {l : List Int} : Goods (n :: l) ↔ Good n ∧ Goods l := by simp [Goods]
theorem encs_cons (n : Int) (l : List Int) : encs (n :: l) = eb n.toNat ++ encs l := rfl
theorem encs_append (a b : List Int) : encs (a ++ b) = encs a ++ encs b := by simp [encs]
theorem encs_nil {l : List Int} (h : encs l = []) : l = [] := by
  cases l with
  | nil => rfl
  | cons n l =>
    have := (eb_length n.toNat).1
    rw [encs_cons] at h
    have := congrArg List.length h
    rw [List.length_append, List.length_nil] at this; omega
theorem encs_length_le (l : List Int) : (encs l).length ≤ 4 * l.length := by
  induction l with
  | nil => simp [encs]
  | cons n l ih => have := (eb_length n.toNat).2; rw [encs_cons]; simp; omega
def decAll : Nat → List Nat → Option (List Int)
  | 0, _ => none
  | f + 1, d => if d = [] then some [] else if (dl d).1 = 65533 ∧ (dl d).2 < 2 then none else (decAll f (d.drop (dl d).2)).map (fun r => ((dl d).1 : Int) :: r)
theorem dl_pos (l : List Nat) : 1 ≤ (dl l).2 := by
  unfold dl Lib.decodeN
  repeat' split
  all_goals simp
theorem decAll_some {f : Nat} : ∀ {d : List Nat} {l : List Int}, (∀ x ∈ d, x < 256) → decAll f d = some l → Goods l ∧ d = encs l := by
  induction f with
  | zero => intro d l hd h; cases h
  | succ f ih =>
    intro d l hd h
    unfold decAll at h
    by_cases e : d = []
    · rw [if_pos e] at h; obtain rfl := Option.some.inj h; exact ⟨fun n hn => by simp at hn, e⟩
    rw [if_neg e] at h
    by_cases b : (dl d).1 = 65533 ∧ (dl d).2 < 2
    · rw [if_pos b] at h; cases h
    rw [if_neg b] at h
    obtain ⟨r, hr, rfl⟩ := Option.map_eq_some_iff.1 h
    obtain ⟨g1, g2, g3⟩ := dl_ok d hd e b
    obtain ⟨i1, i2⟩ := ih (fun x hx => hd x (List.mem_of_mem_drop hx)) hr
    refine ⟨fun n hn => ?_, ?_⟩
    · rcases List.mem_cons.1 hn with rfl | hn
      · exact g1
      · exact i1 n hn
    · rw [encs_cons, ← i2]; exact g2
theorem decAll_encs {l : List Int} (hg : Goods l) : ∀ {f : Nat}, (encs l).length < f → decAll f (encs l) = some l := by
  induction l with
  | nil => intro f hf; obtain ⟨f, rfl⟩ : ∃ m, f = m + 1 := ⟨f - 1, by omega⟩; simp [decAll, encs]
  | cons n l ih =>
    intro f hf
    obtain ⟨f, rfl⟩ : ∃ m, f = m + 1 := ⟨f - 1, by omega⟩
    have hn := hg n (List.mem_cons_self ..)
    obtain ⟨m, rfl⟩ := Int.eq_ofNat_of_zero_le hn.1
    have e := dl_eb m hn (encs l)
    have hp := eb_length m
    rw [encs_cons] at hf ⊢
    simp only [Int.toNat_natCast, List.length_append] at hf ⊢
    unfold decAll
    rw [if_neg (by intro h; have := congrArg List.length h; rw [List.length_append, List.length_nil] at this; omega), e]
    have hbad : ¬ (m = 65533 ∧ (eb m).length < 2) := by
      rintro ⟨rfl, h⟩; revert h; decide
    rw [if_neg hbad, List.drop_left, ih (fun x hx => hg x (List.mem_cons_of_mem _ hx)) (by omega)]
    rfl
theorem decAll_none {f : Nat} {d : List Nat} (hd : ∀ x ∈ d, x < 256) (hf : d.length < f) (h : decAll f d = none) : ¬ ∃ l, Goods l ∧ d = encs l := by
  rintro ⟨l, hg, rfl⟩
  rw [decAll_encs hg hf] at h; cases h
theorem encs_inj {a b : List Int} (ha : Goods a) (hb : Goods b) (h : encs a = encs b) : a = b := by
  have := decAll_encs ha (f := (encs a).length + 1) (by omega)
  rw [h, decAll_encs hb (by omega)] at this
  exact (Option.some.inj this).symm
/-! order -/
def nless : List Nat → List Nat → Bool
  | _, [] => false
  | [], _ :: _ => true
  | a :: x, b :: y => a < b || (a == b && nless x y)
theorem bytesLess_nb : ∀ (a b : List UInt8), Op.bytesLess a b = nless (a.map UInt8.toNat) (b.map UInt8.toNat)
  | [], [] => rfl
  | _ :: _, [] => rfl
  | [], _ :: _ => rfl
  | a :: x, b :: y => by
    by_cases h : a = b
    · subst h; simp [Op.bytesLess, nless, bytesLess_nb x y]
    · have h' : ¬ a.toNat = b.toNat := fun e => h (UInt8.toNat_inj.1 e)
      have e1 : (a == b) = false := beq_eq_false_iff_ne.2 h
      have e2 : (a.toNat == b.toNat) = false := beq_eq_false_iff_ne.2 h'
      simp only [Op.bytesLess, nless, List.map_cons, UInt8.lt_iff_toNat_lt, e1, e2, Bool.false_and]
def iless : List Int → List Int → Bool
  | _, [] => false
  | [], _ :: _ => true
  | a :: x, b :: y => a < b || (a == b && iless x y)
theorem nless_app : ∀ (p x y : List Nat), nless (p ++ x) (p ++ y) = nless x y
  | [], _, _ => rfl
  | a :: p, x, y => by simp [nless, nless_app p x y]
theorem nless_head {a b : Nat} (h : a < b) (x y : List Nat) : nless (a :: x) (b :: y) = true := by simp [nless, h]
theorem nless_head' {a b : Nat} (h : b < a) (x y : List Nat) : nless (a :: x) (b :: y) = false := by
  simp only [nless, Bool.or_eq_false_iff, decide_eq_false_iff_not, Bool.and_eq_false_iff, beq_eq_false_iff_ne]
  omega
/-- Two runes' bytes part at a place where both have one. -/
theorem eb_part (a b : Nat) (h : a < b) (hb : b ≤ 1114111) : ∃ p u v x y, eb a = p ++ u :: x ∧ eb b = p ++ v :: y ∧ u < v := by
  by_cases a1 : a < 128
  · rw [eb1 a1]
    by_cases b1 : b < 128
    · rw [eb1 b1]; exact ⟨[], _, _, [], [], rfl, rfl, h⟩
    by_cases b2 : b < 2048
    · rw [eb2 b1 b2]; exact ⟨[], _, _, [], _, rfl, rfl, by omega⟩
    by_cases b3 : b < 65536
    · rw [eb3 b2 b3]; exact ⟨[], _, _, [], _, rfl, rfl, by omega⟩
    · rw [eb4 b3]; exact ⟨[], _, _, [], _, rfl, rfl, by omega⟩
  by_cases a2 : a < 2048
  · rw [eb2 a1 a2]
    by_cases b2 : b < 2048
    · rw [eb2 (by omega) b2]
      by_cases e : a / 64 = b / 64
      · exact ⟨[192 + a / 64], 128 + a % 64, 128 + b % 64, [], [], rfl, by rw [e]; rfl, by omega⟩
      · exact ⟨[], _, _, _, _, rfl, rfl, by omega⟩
    by_cases b3 : b < 65536
    · rw [eb3 b2 b3]; exact ⟨[], _, _, _, _, rfl, rfl, by omega⟩
    · rw [eb4 b3]; exact ⟨[], _, _, _, _, rfl, rfl, by omega⟩
  by_cases a3 : a < 65536
  · rw [eb3 a2 a3]
    by_cases b3 : b < 65536
    · rw [eb3 (by omega) b3]
      by_cases e : a / 4096 = b / 4096
      · by_cases e2 : a / 64 % 64 = b / 64 % 64
        · exact ⟨[224 + a / 4096, 128 + a / 64 % 64], 128 + a % 64, 128 + b % 64, [], [], rfl, by rw [e, e2]; rfl, by omega⟩
        · exact ⟨[224 + a / 4096], 128 + a / 64 % 64, 128 + b / 64 % 64, [128 + a % 64], [128 + b % 64], rfl, by rw [e]; rfl, by omega⟩
      · exact ⟨[], _, _, _, _, rfl, rfl, by omega⟩
    · rw [eb4 b3]; exact ⟨[], _, _, _, _, rfl, rfl, by omega⟩
  · rw [eb4 a3, eb4 (n := b) (by omega)]
    by_cases e : a / 262144 = b / 262144
    · by_cases e2 : a / 4096 % 64 = b / 4096 % 64
      · by_cases e3 : a / 64 % 64 = b / 64 % 64
        · exact ⟨[240 + a / 262144, 128 + a / 4096 % 64, 128 + a / 64 % 64], 128 + a % 64, 128 + b % 64, [], [], rfl, by rw [e, e2, e3]; rfl, by omega⟩
        · exact ⟨[240 + a / 262144, 128 + a / 4096 % 64], 128 + a / 64 % 64, 128 + b / 64 % 64, [128 + a % 64], [128 + b % 64], rfl, by rw [e, e2]; rfl, by omega⟩
      · exact ⟨[240 + a / 262144], 128 + a / 4096 % 64, 128 + b / 4096 % 64, [128 + a / 64 % 64, 128 + a % 64], [128 + b / 64 % 64, 128 + b % 64], rfl, by rw [e]; rfl, by omega⟩
    · exact ⟨[], _, _, _, _, rfl, rfl, by omega⟩
theorem encs_less : ∀ (l m : List Int), Goods l → Goods m → nless (encs l) (encs m) = iless l m
  | [], [], _, _ => rfl
  | n :: l, [], _, _ => by simp [encs, iless, nless]
  | [], n :: m, _, _ => by
    have := (eb_length n.toNat).1
    rw [encs_cons]
    cases h : eb n.toNat with
    | nil => rw [h] at this; simp at this
    | cons a t => rfl
  | a :: l, b :: m, hl, hm => by
    have ga := hl a (List.mem_cons_self ..)
    have gb := hm b (List.mem_cons_self ..)
    rw [encs_cons, encs_cons]
    rcases Int.lt_trichotomy a b with h | h | h
    · obtain ⟨p, u, v, x, y, e1, e2, huv⟩ := eb_part a.toNat b.toNat (by have := ga.1; omega) (by have := gb.2.1; omega)
      rw [e1, e2, List.append_assoc, List.append_assoc, nless_app, List.cons_append, List.cons_append, nless_head huv]
      simp [iless, h]
    · subst h
      rw [nless_app, encs_less l m (fun x hx => hl x (List.mem_cons_of_mem _ hx)) (fun x hx => hm x (List.mem_cons_of_mem _ hx))]
      simp [iless]
    · obtain ⟨p, u, v, x, y, e1, e2, huv⟩ := eb_part b.toNat a.toNat (by have := gb.1; omega) (by have := ga.2.1; omega)
      rw [e1, e2, List.append_assoc, List.append_assoc, nless_app, List.cons_append, List.cons_append, nless_head' huv]
      simp only [iless]
      symm
      simp only [Bool.or_eq_false_iff, decide_eq_false_iff_not, Bool.and_eq_false_iff, beq_eq_false_iff_ne]
      omega
/-! beginnings -/
/-- Is a byte the first one of a rune? -/
def st8 (x : Nat) : Prop := x < 128 ∨ 191 < x
theorem eb_starts (n : Nat) (h : n ≤ 1114111) (j : Nat) (hj : j < (eb n).length) (hs : st8 ((eb n).getD j 0)) : j = 0 := by
  unfold st8 at hs
  by_cases b1 : n < 128
  · rw [eb1 b1] at hj; simp at hj; exact hj
  by_cases b2 : n < 2048
  · rw [eb2 b1 b2] at hj hs
    rcases j with _ | _ | j
    · rfl
    · simp at hs; omega
    · simp at hj; omega
  by_cases b3 : n < 65536
  · rw [eb3 b2 b3] at hj hs
    rcases j with _ | _ | _ | j
    · rfl
    · simp at hs; omega
    · simp at hs; omega
    · simp at hj; omega
  · rw [eb4 b3] at hj hs
    rcases j with _ | _ | _ | _ | j
    · rfl
    · simp at hs; omega
    · simp at hs; omega
    · simp at hs; omega
    · simp at hj; omega
theorem encs_starts : ∀ (l : List Int), Goods l → ∀ (p : Nat), p < (encs l).length → st8 ((encs l).getD p 0) → ∃ n r, Good n ∧ (encs l).drop p = eb n.toNat ++ r
  | [], _, p, h, _ => by simp [encs] at h
  | n :: l, hl, p, h, hs => by
    rw [encs_cons] at h hs ⊢
    have gn := hl n (List.mem_cons_self ..)
    by_cases hp : p < (eb n.toNat).length
    · have hs' : st8 ((eb n.toNat).getD p 0) := by
        rw [List.getD_eq_getElem?_getD, List.getElem?_append_left hp, ← List.getD_eq_getElem?_getD] at hs; exact hs
      obtain rfl := eb_starts n.toNat (by have := gn.2.1; omega) p hp hs'
      exact ⟨n, _, gn, rfl⟩
    · have hs' : st8 ((encs l).getD (p - (eb n.toNat).length) 0) := by
        rw [List.getD_eq_getElem?_getD, List.getElem?_append_right (by omega), ← List.getD_eq_getElem?_getD] at hs; exact hs
      rw [List.length_append] at h
      obtain ⟨m, r, g, e⟩ := encs_starts l (fun x hx => hl x (List.mem_cons_of_mem _ hx)) (p - (eb n.toNat).length) (by omega) hs'
      exact ⟨m, r, g, by rw [List.drop_append, List.drop_of_length_le (by omega), List.nil_append, e]⟩
theorem eb_first (n : Nat) (h : n ≤ 1114111) : st8 ((eb n).getD 0 0) := by
  unfold st8
  by_cases b1 : n < 128
  · rw [eb1 b1]; simp; omega
  by_cases b2 : n < 2048
  · rw [eb2 b1 b2]; simp; omega
  by_cases b3 : n < 65536
  · rw [eb3 b2 b3]; simp; omega
  · rw [eb4 b3]; simp; omega
theorem iless_app : ∀ (p x y : List Int), iless (p ++ x) (p ++ y) = iless x y
  | [], _, _ => rfl
  | a :: p, x, y => by simp [iless, iless_app p x y]
theorem rd_mid (a : List Int) (n : Int) (b : List Int) : rd (a ++ n :: b) a.length = n := by simp [rd, List.getD_eq_getElem?_getD]
instance goodsDec (l : List Int) : Decidable (Goods l) := by unfold Goods; infer_instance

theorem size_ext (s : ByteArray) (i j : Nat) (hi : i ≤ j) (hj : j ≤ s.size) : (s.extract i j).size = j - i := by simp [ByteArray.size_extract]; omega
theorem size_nums (xs : List Int) : (strOfNums xs).size = xs.length := by simp [strOfNums, ByteArray.size]

theorem nb_nums (xs : List Int) : nb (strOfNums xs) = xs.map fun x => x.toNat % 256 := by simp [nb, strOfNums]
theorem size_enc (n : Int) (h : Good n) : (Utf8.encode n).size ≤ 4 := by rw [← nb_length, nb_encode n h]; exact (eb_length _).2
theorem and63 (x : Int) (h0 : 0 ≤ x) (h1 : x < 9223372036854775808) : Go.bits .and .i64 x 63 = x % 64 := by
  have h := bits_mask .i64 63 (by decide) (fun n h₀ h₁ => by rw [IntKind.wrap_i64]; omega) 6 (by decide) x h0 (by omega)
  simpa using h
theorem l2Bytes (n : Int) (h : Good n) : spec_l2Bytes.f n = some (Utf8.encode n) := by
  have h0 := h.1
  have h1 := h.2.1
  have e : ∀ {x : ByteArray}, nb x = eb n.toNat → some x = some (Utf8.encode n) := fun {x} hx => by
    rw [nb_inj (hx.trans (nb_encode n h).symm)]
  unfold spec_l2Bytes.f
  by_cases a : n < 128
  · rw [if_pos a]
    refine e ?_
    rw [eb1 (by omega), nb_nums]
    simp; omega
  rw [if_neg a]
  by_cases b : n < 2048
  · rw [if_pos b]
    refine e ?_
    rw [eb2 (by omega) (by omega), nb_nums, and63 _ h0 (by omega), w64 (by omega) (by omega), w64 (by omega) (by omega)]
    simp; omega
  rw [if_neg b]
  by_cases c : n < 65536
  · rw [if_pos c]
    refine e ?_
    rw [eb3 (by omega) (by omega), nb_nums, and63 _ h0 (by omega), and63 _ (by omega) (by omega), w64 (by omega) (by omega), w64 (by omega) (by omega), w64 (by omega) (by omega)]
    simp; omega
  · rw [if_neg c]
    refine e ?_
    rw [eb4 (by omega), nb_nums, and63 _ h0 (by omega), and63 (n / 4096) (by omega) (by omega), and63 (n / 64) (by omega) (by omega), w64 (by omega) (by omega), w64 (by omega) (by omega), w64 (by omega) (by omega), w64 (by omega) (by omega)]
    simp; omega

def bad (d : List Nat) : Prop := (dl d).1 = 65533 ∧ (dl d).2 < 2
instance (d : List Nat) : Decidable (bad d) := by unfold bad; infer_instance
theorem drop_lt (s : ByteArray) (i : Nat) : ∀ x ∈ (nb s).drop i, x < 256 := fun x hx => nb_lt (List.mem_of_mem_drop hx)
theorem drop_ne (s : ByteArray) (i : Nat) (h : i < s.size) : (nb s).drop i ≠ [] := by
  intro e; have := congrArg List.length e; rw [List.length_drop, nb_length, List.length_nil] at this; omega
theorem dl_le (s : ByteArray) (i : Nat) (h : i < s.size) : (dl ((nb s).drop i)).1 ≤ 1114111 ∧ (dl ((nb s).drop i)).2 ≤ 4 ∧ i + (dl ((nb s).drop i)).2 ≤ s.size := by
  by_cases hb : bad ((nb s).drop i)
  · refine ⟨by rw [hb.1]; decide, by have := hb.2; omega, by have := hb.2; omega⟩
  · obtain ⟨g, e, w⟩ := dl_ok _ (drop_lt s i) (drop_ne s i h) hb
    have h4 := (eb_length (dl ((nb s).drop i)).1).2
    have hl := congrArg List.length e
    rw [List.length_append, List.length_drop, List.length_drop, nb_length, ← w] at hl
    have := dl_pos ((nb s).drop i)
    refine ⟨by have := g.2.1; omega, by omega, ?_⟩
    have hw : (dl ((nb s).drop i)).2 ≤ ((nb s).drop i).length := by
      have h2 := congrArg List.length e
      rw [List.length_append, ← w] at h2; omega
    rw [List.length_drop, nb_length] at hw
    omega
theorem runeAtImpl (s : ByteArray) (at_ : Int) (h0 : 0 ≤ at_) (h1 : at_ < s.size) (hs : s.size < 1000000000000) :
    impl_runeAt.f s at_ = some (if bad ((nb s).drop at_.toNat) then (0, 0, false) else (((dl ((nb s).drop at_.toNat)).1 : Int), at_ + ((dl ((nb s).drop at_.toNat)).2 : Int), true)) := by
  have hle := dl_le s at_.toNat (by omega)
  unfold impl_runeAt.f utf8_DecodeRuneInString.f
  rw [if_pos h0, if_pos (by omega), decodeGo_nb, nb_extract, List.take_of_length_le (by rw [nb_length]; omega), if_neg (drop_ne s _ (by omega))]
  simp only [Option.bind_some]
  rw [w64 (by omega) (by omega), w64 (by omega) (by omega)]
  by_cases c : ((dl ((nb s).drop at_.toNat)).1 : Int) = 65533
  · rw [if_pos c]
    by_cases e : ((dl ((nb s).drop at_.toNat)).2 : Int) < 2
    · rw [if_pos e, if_pos (show bad _ from ⟨by omega, by omega⟩)]
    · rw [if_neg e, if_neg (fun hb : bad _ => e (by have := hb.2; omega))]
  · rw [if_neg c, if_neg (fun hb : bad _ => c (by have := hb.1; omega))]

theorem goodRune (n : Int) : spec_GoodRune.f n = some (decide (Good n)) := by
  unfold spec_GoodRune.f spec_l1In.f Good
  by_cases a : n ≥ 0
  · rw [if_pos a]
    simp only [Option.bind_some]
    by_cases b : n ≤ 1114111
    · rw [decide_eq_true b, if_pos rfl]
      by_cases c : n ≥ 55296
      · rw [if_pos c]; simp only [Option.bind_some]; congr 1
        by_cases d : n ≤ 57343 <;> simp [a, b, c, d] <;> omega
      · rw [if_neg c]; simp only [Option.bind_some]; congr 1
        simp [b]; omega
    · rw [decide_eq_false b, if_neg (by decide)]; congr 1
      simp [b]
  · rw [if_neg a]
    simp only [Option.bind_some]
    rw [if_neg (by decide)]; congr 1
    simp; omega

/-- The number that the reference puts together. -/
theorem or_and (v b : Int) (h0 : 0 ≤ v) (h1 : v < 2147483648) (h2 : 0 ≤ b) (h3 : b < 256) : Go.bits .or .i64 (wrap64 (v * 64)) (wrap64 (Go.bits .and .u8 b 63)) = v * 64 + b % 64 := by
  rw [u8_and63 b h2 h3, w64 (by omega) (by omega), w64 (by omega) (by omega)]
  exact bits_join .i64 63 (by decide) (fun n h₀ h₁ => by rw [IntKind.wrap_i64]; omega) 6 _ _ (by omega) (by omega) (by omega) (by omega) (by omega) (by omega)
def fin2 (d : List Nat) (v : Nat) (many : Nat) : Int × Int := if Good v ∧ eb v = d.take many then ((v : Int), (many : Int)) else (0, 0)
theorem l2At_end (s : ByteArray) (at_ : Int) (h0 : 0 ≤ at_) (hs : s.size < 1000000000000) (v many : Nat) (hm : at_ + many ≤ s.size) : Ev (fun k => spec_l2At.l0 k s at_ v many many) (fin2 ((nb s).drop at_.toNat) v many) := by
  refine Ev.step (f := fun _ => some (fin2 ((nb s).drop at_.toNat) v many)) (fun k => ?_) (Ev.now _)
  rw [spec_l2At.l0, if_neg (by omega), goodRune]
  simp only [Option.bind_some]
  unfold fin2
  by_cases g : Good (v : Int)
  · rw [decide_eq_true g, if_pos rfl, l2Bytes _ g]
    simp only [Option.bind_some]
    rw [if_pos h0, w64 (by omega) (by omega), if_pos (by omega), if_pos hm]
    have e : (Utf8.encode (v : Int)).toList = (s.extract at_.toNat (at_ + many).toNat).toList ↔ eb v = ((nb s).drop at_.toNat).take many := by
      rw [toList_nb, nb_encode _ g, nb_extract, List.drop_take, Int.toNat_natCast, show (at_ + many).toNat - at_.toNat = many by omega]
    by_cases c : eb v = ((nb s).drop at_.toNat).take many
    · rw [if_pos (e.2 c), if_pos ⟨g, c⟩]
    · rw [if_neg (fun h => c (e.1 h)), if_neg (fun h => c h.2)]
  · rw [decide_eq_false g, if_neg (by decide), if_neg (fun h => g h.1)]
theorem bt_drop (s : ByteArray) (at_ i : Int) (h0 : 0 ≤ at_) (hi : 0 ≤ i) (h : at_ + i < s.size) : bt s (at_ + i) = (((nb s).drop at_.toNat).getD i.toNat 0 : Nat) := by
  rw [bt_nb s _ (by omega), List.getD_eq_getElem?_getD, List.getD_eq_getElem?_getD, List.getElem?_drop, show at_.toNat + i.toNat = (at_ + i).toNat by omega]
theorem l2At_step (s : ByteArray) (at_ : Int) (h0 : 0 ≤ at_) (hs : s.size < 1000000000000) (v many i : Nat) (hv : v < 2147483648) (hi : i < many) (hm : at_ + many ≤ s.size) {r : Int × Int}
    (h : Ev (fun k => spec_l2At.l0 k s at_ ((v * 64 + ((nb s).drop at_.toNat).getD i 0 % 64 : Nat) : Int) many ((i + 1 : Nat) : Int)) r) : Ev (fun k => spec_l2At.l0 k s at_ v many i) r := by
  have hb := getD_lt (drop_lt s at_.toNat) i
  refine Ev.step (fun k => ?_) h
  rw [spec_l2At.l0, if_pos (by omega), w64 (n := at_ + i) (by omega) (by omega), if_pos (by omega), if_pos (by omega), bt_drop s at_ i h0 (by omega) (by omega), Int.toNat_natCast, or_and _ _ (by omega) (by omega) (by omega) (by omega), w64 (by omega) (by omega)]
  norm_cast
def val2 (d : List Nat) (n0 many : Nat) : Nat :=
  if many = 1 then n0 else if many = 2 then n0 * 64 + d.getD 1 0 % 64 else if many = 3 then (n0 * 64 + d.getD 1 0 % 64) * 64 + d.getD 2 0 % 64
  else ((n0 * 64 + d.getD 1 0 % 64) * 64 + d.getD 2 0 % 64) * 64 + d.getD 3 0 % 64
theorem l2At_j0 (s : ByteArray) (at_ : Int) (h0 : 0 ≤ at_) (h1 : at_ < s.size) (hs : s.size < 1000000000000) (n0 many : Nat) (hn : n0 < 256) (h2 : 1 ≤ many) (h3 : many ≤ 4) :
    Ev (fun k => spec_l2At.j0 k s at_ n0 many) (if ((nb s).drop at_.toNat).length < many then (0, 0) else fin2 ((nb s).drop at_.toNat) (val2 ((nb s).drop at_.toNat) n0 many) many) := by
  have hl : ((nb s).drop at_.toNat).length = s.size - at_.toNat := by rw [List.length_drop, nb_length]
  by_cases c : ((nb s).drop at_.toNat).length < many
  · rw [if_pos c]
    refine Ev.step (f := fun _ => some (0, 0)) (fun k => ?_) (Ev.now _)
    rw [spec_l2At.j0, w64 (by omega) (by omega), if_pos (by omega)]
  rw [if_neg c]
  have hm : at_ + many ≤ s.size := by omega
  refine Ev.step (f := fun k => spec_l2At.l0 k s at_ n0 many ((1 : Nat) : Int)) (fun k => ?_) ?_
  · rw [spec_l2At.j0, w64 (by omega) (by omega), if_neg (by omega)]; rfl
  have b1 := getD_lt (drop_lt s at_.toNat) 1
  have b2 := getD_lt (drop_lt s at_.toNat) 2
  have b3 := getD_lt (drop_lt s at_.toNat) 3
  unfold val2
  rcases (show many = 1 ∨ many = 2 ∨ many = 3 ∨ many = 4 by omega) with rfl | rfl | rfl | rfl
  · rw [if_pos rfl]; exact l2At_end s at_ h0 hs n0 1 hm
  · rw [if_neg (by decide), if_pos rfl]
    exact l2At_step s at_ h0 hs n0 2 1 (by omega) (by omega) hm (l2At_end s at_ h0 hs _ 2 hm)
  · rw [if_neg (by decide), if_neg (by decide), if_pos rfl]
    exact l2At_step s at_ h0 hs n0 3 1 (by omega) (by omega) hm (l2At_step s at_ h0 hs _ 3 2 (by omega) (by omega) hm (l2At_end s at_ h0 hs _ 3 hm))
  · rw [if_neg (by decide), if_neg (by decide), if_neg (by decide)]
    exact l2At_step s at_ h0 hs n0 4 1 (by omega) (by omega) hm (l2At_step s at_ h0 hs _ 4 2 (by omega) (by omega) hm (l2At_step s at_ h0 hs _ 4 3 (by omega) (by omega) hm (l2At_end s at_ h0 hs _ 4 hm)))
theorem eb_len_eq (n : Nat) : (eb n).length = if n < 128 then 1 else if n < 2048 then 2 else if n < 65536 then 3 else 4 := by
  unfold eb; repeat' split
  all_goals rfl
theorem eb_head (n : Nat) : (eb n).getD 0 0 = if n < 128 then n else if n < 2048 then 192 + n / 64 else if n < 65536 then 224 + n / 4096 else 240 + n / 262144 := by
  unfold eb; repeat' split
  all_goals rfl
/-- What is put together of a rune's own bytes is the rune. -/
theorem val2_eb (n : Nat) (t : List Nat) (hn : n ≤ 1114111) : val2 (eb n ++ t) ((eb n).getD 0 0 - if n < 128 then 0 else if n < 2048 then 192 else if n < 65536 then 224 else 240) (eb n).length = n := by
  by_cases a : n < 128
  · rw [eb1 a, if_pos a]; simp [val2]
  by_cases b : n < 2048
  · rw [eb2 a b, if_neg a, if_pos b]; simp [val2]; omega
  by_cases c : n < 65536
  · rw [eb3 b c, if_neg a, if_neg b, if_pos c]; simp [val2]; omega
  · rw [eb4 c, if_neg a, if_neg b, if_neg c]; simp [val2]; omega
/-- The reference's way to decode is Go's. -/
theorem fin2_eq (d : List Nat) (hd : ∀ x ∈ d, x < 256) (h0 : d ≠ []) (n0 many : Nat) (h2 : 1 ≤ many)
    (hc : ∀ n, n ≤ 1114111 → (eb n).getD 0 0 = d.getD 0 0 → (eb n).length = many ∧ n0 = d.getD 0 0 - if n < 128 then 0 else if n < 2048 then 192 else if n < 65536 then 224 else 240) :
    (if d.length < many then (0, 0) else fin2 d (val2 d n0 many) many) = if bad d then (0, 0) else (((dl d).1 : Int), ((dl d).2 : Int)) := by
  by_cases hb : bad d
  · rw [if_pos hb]
    by_cases hl : d.length < many
    · rw [if_pos hl]
    rw [if_neg hl]
    unfold fin2
    rw [if_neg]
    rintro ⟨g, e⟩
    have h := dl_eb (val2 d n0 many) g (d.drop many)
    rw [e, List.take_append_drop] at h
    have hl2 : (d.take many).length = many := by rw [List.length_take]; omega
    rw [hl2] at h
    have e1 := hb.1
    have e2 := hb.2
    rw [h] at e1 e2
    simp only at e1 e2
    have e3 := congrArg List.length e
    rw [hl2, e1] at e3
    have : (eb 65533).length = 3 := by decide
    omega
  · rw [if_neg hb]
    obtain ⟨g, e, w⟩ := dl_ok d hd h0 hb
    have hn : (dl d).1 ≤ 1114111 := by have := g.2.1; omega
    have hp := eb_length (dl d).1
    have hh : (eb (dl d).1).getD 0 0 = d.getD 0 0 := by
      conv => rhs; rw [e]
      rw [List.getD_eq_getElem?_getD, List.getD_eq_getElem?_getD, List.getElem?_append_left (by omega)]
    obtain ⟨c1, c2⟩ := hc _ hn hh
    have hle : ¬ d.length < many := by
      have := congrArg List.length e
      rw [List.length_append] at this; omega
    rw [if_neg hle]
    generalize (dl d).1 = c at *
    generalize (dl d).2 = m at *
    generalize d.drop m = t at e
    subst e
    subst c1
    have hv : val2 (eb c ++ t) n0 (eb c).length = c := by rw [c2, ← hh]; exact val2_eb c t hn
    unfold fin2
    rw [hv, if_pos ⟨g, by rw [List.take_left]⟩, w]
theorem heads (n x : Nat) (hn : n ≤ 1114111) (he : (eb n).getD 0 0 = x) : (x < 128 ∧ n < 128) ∨ (192 ≤ x ∧ x ≤ 223 ∧ ¬ n < 128 ∧ n < 2048) ∨ (224 ≤ x ∧ x ≤ 239 ∧ ¬ n < 128 ∧ ¬ n < 2048 ∧ n < 65536) ∨ (240 ≤ x ∧ x ≤ 244 ∧ ¬ n < 128 ∧ ¬ n < 2048 ∧ ¬ n < 65536) := by
  rw [eb_head] at he
  by_cases a : n < 128
  · rw [if_pos a] at he; omega
  rw [if_neg a] at he
  by_cases b : n < 2048
  · rw [if_pos b] at he; omega
  rw [if_neg b] at he
  by_cases c : n < 65536
  · rw [if_pos c] at he; omega
  rw [if_neg c] at he; omega
theorem l2At (s : ByteArray) (at_ : Int) (h0 : 0 ≤ at_) (h1 : at_ < s.size) (hs : s.size < 1000000000000) :
    Ev (fun k => spec_l2At.f k s at_) (if bad ((nb s).drop at_.toNat) then (0, 0) else (((dl ((nb s).drop at_.toNat)).1 : Int), ((dl ((nb s).drop at_.toNat)).2 : Int))) := by
  have hb := getD_lt (drop_lt s at_.toNat) 0
  have hne := drop_ne s at_.toNat (by omega)
  have hb0 := bt_drop s at_ 0 h0 (by omega) (by omega)
  rw [Int.add_zero] at hb0
  simp only [Int.toNat_zero] at hb0
  unfold spec_l2At.f spec_l1In.f
  simp only [if_pos h0, if_pos h1, hb0]
  generalize hx : ((nb s).drop at_.toNat).getD 0 0 = x at *
  rw [w64 (n := (x : Int)) (by omega) (by omega)]
  have key : ∀ (n0 many : Nat), n0 < 256 → 1 ≤ many → many ≤ 4 → (∀ n, n ≤ 1114111 → (eb n).getD 0 0 = x → (eb n).length = many ∧ n0 = x - if n < 128 then 0 else if n < 2048 then 192 else if n < 65536 then 224 else 240) →
      Ev (fun k => spec_l2At.j0 k s at_ n0 many) (if bad ((nb s).drop at_.toNat) then (0, 0) else (((dl ((nb s).drop at_.toNat)).1 : Int), ((dl ((nb s).drop at_.toNat)).2 : Int))) := by
    intro n0 many a1 a2 a3 a4
    rw [← fin2_eq _ (drop_lt s at_.toNat) hne n0 many a2 (by rw [hx]; exact a4)]
    exact l2At_j0 s at_ h0 h1 hs n0 many a1 a2 a3
  by_cases c1 : 192 ≤ x ∧ x ≤ 223
  · have k := key (x - 192) 2 (by omega) (by omega) (by omega) (fun n hn he => by
      rcases heads n x hn he with h | ⟨_, _, g1, g2⟩ | h | h
      · omega
      · rw [eb_len_eq, if_neg g1, if_pos g2, if_neg g1, if_pos g2]; exact ⟨rfl, rfl⟩
      · omega
      · omega)
    have e : ((x - 192 : Nat) : Int) = (x : Int) - 192 := by omega
    rw [e] at k
    simp only [ge_iff_le, show (192 : Int) ≤ x by omega, show (x : Int) ≤ 223 by omega, decide_true, if_true, Option.bind_some]
    rw [w64 (by omega) (by omega)]; exact k
  have n1 : (if (x : Int) ≥ 192 then some (decide ((x : Int) ≤ 223)) else some false) = some false := by
    by_cases q : (x : Int) ≥ 192
    · rw [if_pos q, decide_eq_false (by omega)]
    · rw [if_neg q]
  simp only [n1, Option.bind_some, Bool.false_eq_true, if_false]
  by_cases c2 : 224 ≤ x ∧ x ≤ 239
  · have k := key (x - 224) 3 (by omega) (by omega) (by omega) (fun n hn he => by
      rcases heads n x hn he with h | h | ⟨_, _, g1, g2, g3⟩ | h
      · omega
      · omega
      · rw [eb_len_eq, if_neg g1, if_neg g2, if_pos g3, if_neg g1, if_neg g2, if_pos g3]; exact ⟨rfl, rfl⟩
      · omega)
    have e : ((x - 224 : Nat) : Int) = (x : Int) - 224 := by omega
    rw [e] at k
    simp only [ge_iff_le, show (224 : Int) ≤ x by omega, show (x : Int) ≤ 239 by omega, decide_true, if_true, Option.bind_some]
    rw [w64 (by omega) (by omega)]; exact k
  have n2 : (if (x : Int) ≥ 224 then some (decide ((x : Int) ≤ 239)) else some false) = some false := by
    by_cases q : (x : Int) ≥ 224
    · rw [if_pos q, decide_eq_false (by omega)]
    · rw [if_neg q]
  simp only [n2, Option.bind_some, Bool.false_eq_true, if_false]
  by_cases c3 : 240 ≤ x ∧ x ≤ 247
  · have k := key (x - 240) 4 (by omega) (by omega) (by omega) (fun n hn he => by
      rcases heads n x hn he with h | h | h | ⟨_, _, g1, g2, g3⟩
      · omega
      · omega
      · omega
      · rw [eb_len_eq, if_neg g1, if_neg g2, if_neg g3, if_neg g1, if_neg g2, if_neg g3]; exact ⟨rfl, rfl⟩)
    have e : ((x - 240 : Nat) : Int) = (x : Int) - 240 := by omega
    rw [e] at k
    simp only [ge_iff_le, show (240 : Int) ≤ x by omega, show (x : Int) ≤ 247 by omega, decide_true, if_true, Option.bind_some]
    rw [w64 (by omega) (by omega)]; exact k
  have n3 : (if (x : Int) ≥ 240 then some (decide ((x : Int) ≤ 247)) else some false) = some false := by
    by_cases q : (x : Int) ≥ 240
    · rw [if_pos q, decide_eq_false (by omega)]
    · rw [if_neg q]
  simp only [n3, Option.bind_some, Bool.false_eq_true, if_false]
  by_cases c4 : (x : Int) ≥ 128
  · simp only [c4, if_true]
    have hbad : bad ((nb s).drop at_.toNat) := by
      by_cases hb' : bad ((nb s).drop at_.toNat)
      · exact hb'
      exfalso
      obtain ⟨g, e, w⟩ := dl_ok _ (drop_lt s at_.toNat) hne hb'
      have hp := (eb_length (dl ((nb s).drop at_.toNat)).1).1
      have hh : (eb (dl ((nb s).drop at_.toNat)).1).getD 0 0 = x := by
        rw [← hx]
        conv => rhs; rw [e]
        rw [List.getD_eq_getElem?_getD, List.getD_eq_getElem?_getD, List.getElem?_append_left (by omega)]
      rcases heads _ x (by have := g.2.1; omega) hh with h | h | h | h <;> omega
    rw [if_pos hbad]; exact Ev.now _
  · simp only [c4, if_false]
    have k := key x 1 (by omega) (by omega) (by omega) (fun n hn he => by
      rcases heads n x hn he with ⟨_, g1⟩ | h | h | h
      · rw [eb_len_eq, if_pos g1, if_pos g1]; exact ⟨rfl, rfl⟩
      · omega
      · omega
      · omega)
    exact k

/-! the functions over whole strings -/
def rimp (acc : List Int) : Option (List Int) → List Int × Bool
  | some l => if acc.length + l.length ≤ 60 then (acc ++ l, true) else ([], false)
  | none => ([], false)
def rspec (acc : List Int) : Option (List Int) → List Int × Bool
  | some l => (acc ++ l, true)
  | none => ([], false)
theorem drop_nil (s : ByteArray) (at_ : Int) (h0 : 0 ≤ at_) : (nb s).drop at_.toNat = [] ↔ (s.size : Int) ≤ at_ := by
  rw [List.drop_eq_nil_iff, nb_length]; omega
theorem drop_drop_at (s : ByteArray) (at_ : Int) (h0 : 0 ≤ at_) (w : Nat) : ((nb s).drop at_.toNat).drop w = (nb s).drop (at_ + w).toNat := by
  rw [List.drop_drop]; congr 1; omega
theorem runesOfImpl_l0 (s : ByteArray) (hs : s.size < 1000000000000) (f : Nat) : ∀ (acc : List Int) (at_ : Int), 0 ≤ at_ → at_ ≤ s.size → ((nb s).drop at_.toNat).length < f → acc.length ≤ 60 →
    Ev (fun k => impl_runesOf.l0 k s acc at_) (rimp acc (decAll f ((nb s).drop at_.toNat))) := by
  induction f with
  | zero => intro acc at_ h0 h1 hf; omega
  | succ f ih =>
    intro acc at_ h0 h1 hf ha
    unfold decAll
    by_cases c : (nb s).drop at_.toNat = []
    · rw [if_pos c]
      have := (drop_nil s at_ h0).1 c
      refine Ev.step (f := fun _ => some (rimp acc (some []))) (fun k => ?_) (Ev.now _)
      rw [impl_runesOf.l0, if_neg (by omega)]
      simp [rimp]; omega
    · rw [if_neg c]
      have hlt : at_ < s.size := by
        rcases Int.lt_or_le at_ s.size with h | h
        · exact h
        · exact absurd ((drop_nil s at_ h0).2 h) c
      have hr := runeAtImpl s at_ h0 hlt hs
      have hle := dl_le s at_.toNat (by omega)
      have hp := dl_pos ((nb s).drop at_.toNat)
      by_cases b : bad ((nb s).drop at_.toNat)
      · rw [if_pos b] at hr
        rw [if_pos (show (dl ((nb s).drop at_.toNat)).1 = 65533 ∧ (dl ((nb s).drop at_.toNat)).2 < 2 from b)]
        refine Ev.step (f := fun _ => some (([] : List Int), false)) (fun k => ?_) (Ev.now _)
        rw [impl_runesOf.l0, if_pos hlt, hr]
        simp only [Option.bind_some]
        rw [if_neg (by decide)]
      · rw [if_neg b] at hr
        rw [if_neg (show ¬ ((dl ((nb s).drop at_.toNat)).1 = 65533 ∧ (dl ((nb s).drop at_.toNat)).2 < 2) from b)]
        by_cases e : acc.length = 60
        · have hres : rimp acc ((decAll f (((nb s).drop at_.toNat).drop (dl ((nb s).drop at_.toNat)).2)).map fun r => ((dl ((nb s).drop at_.toNat)).1 : Int) :: r) = ([], false) := by
            cases decAll f (((nb s).drop at_.toNat).drop (dl ((nb s).drop at_.toNat)).2) with
            | none => rfl
            | some l => simp [rimp, e]
          rw [hres]
          refine Ev.step (f := fun _ => some (([] : List Int), false)) (fun k => ?_) (Ev.now _)
          rw [impl_runesOf.l0, if_pos hlt, hr]
          simp only [Option.bind_some]
          rw [if_pos trivial, if_pos (by omega)]
        · have hne : 1 ≤ ((nb s).drop at_.toNat).length := List.length_pos_iff.2 c
          have hl : (((nb s).drop at_.toNat).drop (dl ((nb s).drop at_.toNat)).2).length < f := by rw [List.length_drop]; omega
          rw [drop_drop_at s at_ h0] at hl ⊢
          have hi := ih (acc ++ [((dl ((nb s).drop at_.toNat)).1 : Int)]) (at_ + (dl ((nb s).drop at_.toNat)).2) (by omega) (by omega) hl (by simp; omega)
          have hres : ∀ o : Option (List Int), rimp (acc ++ [((dl ((nb s).drop at_.toNat)).1 : Int)]) o = rimp acc (o.map fun r => ((dl ((nb s).drop at_.toNat)).1 : Int) :: r) := by
            intro o
            cases o with
            | none => rfl
            | some l => simp only [rimp, Option.map_some, List.length_append, List.length_cons, List.length_nil, List.append_assoc, List.cons_append, List.nil_append, Nat.add_assoc, Nat.add_comm 1 l.length]
          rw [← hres]
          refine Ev.step (fun k => ?_) hi
          rw [impl_runesOf.l0, if_pos hlt, hr]
          simp only [Option.bind_some]
          rw [if_pos trivial, if_neg (by omega), if_pos (by omega)]
theorem runesSpec_l0 (s : ByteArray) (hs : s.size < 1000000000000) (f : Nat) : ∀ (acc : List Int) (at_ : Int), 0 ≤ at_ → at_ ≤ s.size → ((nb s).drop at_.toNat).length < f → acc.length + s.size < 10000000000000 + at_ →
    Ev (fun k => spec_l2Runes.l0 k s acc at_) (rspec acc (decAll f ((nb s).drop at_.toNat))) := by
  induction f with
  | zero => intro acc at_ h0 h1 hf; omega
  | succ f ih =>
    intro acc at_ h0 h1 hf ha
    unfold decAll
    by_cases c : (nb s).drop at_.toNat = []
    · rw [if_pos c]
      have := (drop_nil s at_ h0).1 c
      refine Ev.step (f := fun _ => some (rspec acc (some []))) (fun k => ?_) (Ev.now _)
      rw [spec_l2Runes.l0, if_neg (by omega)]
      simp [rspec]
    · rw [if_neg c]
      have hlt : at_ < s.size := by
        rcases Int.lt_or_le at_ s.size with h | h
        · exact h
        · exact absurd ((drop_nil s at_ h0).2 h) c
      have hr := l2At s at_ h0 hlt hs
      have hle := dl_le s at_.toNat (by omega)
      have hp := dl_pos ((nb s).drop at_.toNat)
      by_cases b : bad ((nb s).drop at_.toNat)
      · rw [if_pos b] at hr
        rw [if_pos (show (dl ((nb s).drop at_.toNat)).1 = 65533 ∧ (dl ((nb s).drop at_.toNat)).2 < 2 from b)]
        refine Ev.step (f := fun k => (spec_l2At.f k s at_).bind fun b => if b.2 = 0 then some (([] : List Int), false) else if acc.length < 17592186044416 then spec_l2Runes.l0 k s (acc ++ [b.1]) (wrap64 (at_ + b.2)) else none) (fun k => ?_) (Ev.bind hr ?_)
        · rw [spec_l2Runes.l0, if_pos hlt]
        · simp only [if_true]; exact Ev.now _
      · rw [if_neg b] at hr
        rw [if_neg (show ¬ ((dl ((nb s).drop at_.toNat)).1 = 65533 ∧ (dl ((nb s).drop at_.toNat)).2 < 2) from b)]
        have hne : 1 ≤ ((nb s).drop at_.toNat).length := List.length_pos_iff.2 c
        have hl : (((nb s).drop at_.toNat).drop (dl ((nb s).drop at_.toNat)).2).length < f := by rw [List.length_drop]; omega
        rw [drop_drop_at s at_ h0] at hl ⊢
        have hi := ih (acc ++ [((dl ((nb s).drop at_.toNat)).1 : Int)]) (at_ + (dl ((nb s).drop at_.toNat)).2) (by omega) (by omega) hl (by simp; omega)
        have hres : ∀ o : Option (List Int), rspec (acc ++ [((dl ((nb s).drop at_.toNat)).1 : Int)]) o = rspec acc (o.map fun r => ((dl ((nb s).drop at_.toNat)).1 : Int) :: r) := by
          intro o
          cases o with
          | none => rfl
          | some l => simp [rspec]
        rw [← hres]
        refine Ev.step (f := fun k => (spec_l2At.f k s at_).bind fun b => if b.2 = 0 then some (([] : List Int), false) else if acc.length < 17592186044416 then spec_l2Runes.l0 k s (acc ++ [b.1]) (wrap64 (at_ + b.2)) else none) (fun k => ?_) (Ev.bind hr ?_)
        · rw [spec_l2Runes.l0, if_pos hlt]
        · simp only
          rw [w64 (by omega) (by omega)]
          simp only [show ¬ ((dl ((nb s).drop at_.toNat)).2 : Int) = 0 by omega, if_false, show acc.length < 17592186044416 by omega, if_true]
          exact hi
def R (s : ByteArray) : List Int × Bool := if s.size ≤ 240 then rimp [] (decAll (s.size + 1) (nb s)) else ([], false)
theorem runesOfImpl (s : ByteArray) (hs : s.size < 1000000000000) : Ev (fun k => impl_RunesOf.f k s) (R s) := by
  unfold impl_RunesOf.f impl_runesOf.f R
  by_cases c : s.size ≤ 240
  · have := runesOfImpl_l0 s hs (s.size + 1) [] 0 (by omega) (by omega) (by rw [List.length_drop, nb_length]; omega) (by simp)
    simp only [Int.toNat_zero, List.drop_zero] at this
    simp only [c, if_true, show ¬ (s.size : Int) > 240 by omega, if_false]
    exact Ev.bind this (Ev.now _)
  · simp only [c, if_false, show (s.size : Int) > 240 by omega, if_true]
    exact Ev.now _
theorem runesOfSpec (s : ByteArray) (hs : s.size < 1000000000000) : Ev (fun k => spec_RunesOf.f k s) (R s) := by
  unfold spec_RunesOf.f spec_l2Long.f spec_l2Runes.f R
  by_cases c : s.size ≤ 240
  · have := runesSpec_l0 s hs (s.size + 1) [] 0 (by omega) (by omega) (by rw [List.length_drop, nb_length]; omega) (by simp; omega)
    simp only [Int.toNat_zero, List.drop_zero] at this
    simp only [c, if_true, show (s.size : Int) ≤ 240 by omega, decide_true, Option.bind_some]
    refine Ev.bind this ?_
    cases decAll (s.size + 1) (nb s) with
    | none => simp only [rspec, rimp, Bool.false_eq_true, if_false]; exact Ev.now _
    | some l =>
      simp only [rspec, rimp, if_true, List.nil_append, List.length_nil, Nat.zero_add]
      by_cases g : l.length ≤ 60
      · simp only [g, if_true, show ¬ (l.length : Int) > 60 by omega, if_false]; exact Ev.now _
      · simp only [g, if_false, show (l.length : Int) > 60 by omega, if_true]; exact Ev.now _
  · simp only [c, if_false, show ¬ (s.size : Int) ≤ 240 by omega, decide_false, Option.bind_some, Bool.false_eq_true]
    exact Ev.now _
theorem R_true {s : ByteArray} {l : List Int} (h : R s = (l, true)) : Goods l ∧ nb s = encs l ∧ l.length ≤ 60 ∧ s.size ≤ 240 := by
  unfold R at h
  by_cases c : s.size ≤ 240
  · rw [if_pos c] at h
    cases e : decAll (s.size + 1) (nb s) with
    | none => rw [e] at h; simp [rimp] at h
    | some m =>
      rw [e] at h
      simp only [rimp, List.length_nil, Nat.zero_add, List.nil_append] at h
      by_cases g : m.length ≤ 60
      · rw [if_pos g] at h
        obtain rfl : m = l := congrArg Prod.fst h
        obtain ⟨h1, h2⟩ := decAll_some (fun x hx => nb_lt hx) e
        exact ⟨h1, h2, g, c⟩
      · rw [if_neg g] at h; simp at h
  · rw [if_neg c] at h; simp at h
theorem R_mk {s : ByteArray} {l : List Int} (h1 : Goods l) (h2 : nb s = encs l) (h3 : l.length ≤ 60) : R s = (l, true) := by
  have hl := congrArg List.length h2
  have := encs_length_le l
  rw [nb_length] at hl
  unfold R
  rw [if_pos (by omega), h2, decAll_encs h1 (by omega)]
  simp [rimp, h3]
theorem R_false {s : ByteArray} (h : (R s).2 = false) : (R s).1 = [] := by
  unfold R at h ⊢
  split
  · rename_i c
    rw [if_pos c] at h
    cases e : decAll (s.size + 1) (nb s) with
    | none => rfl
    | some m =>
      rw [e] at h
      simp only [rimp] at h ⊢
      split
      · rename_i g; rw [if_pos g] at h; simp at h
      · rfl
  · rfl

/-- What a node holds besides its key and its parts. -/
def nodeRest (x : S61) : Bool :=
  if x.f1 = 1 ∨ x.f1 = 2 ∨ x.f1 = 3 then x.f2 == 0 && (x.f3.toList.isEmpty && x.f4 == 0)
  else if x.f1 = 4 then decide (-9007199254740991 ≤ x.f2 ∧ x.f2 ≤ 9007199254740991) && (x.f3.toList.isEmpty && x.f4 == 0)
  else if x.f1 = 5 then x.f2 == 0 && ((R x.f3).2 && x.f4 == 0)
  else if x.f1 = 6 ∨ x.f1 = 7 then x.f2 == 0 && x.f3.toList.isEmpty
  else false
theorem isTextI (s : ByteArray) (hs : s.size < 1000000000000) : Ev (fun k => impl_isText.f k s) (R s).2 := by
  unfold impl_isText.f
  exact Ev.bind (runesOfImpl s hs) (Ev.now _)
theorem isTextS (s : ByteArray) (hs : s.size < 1000000000000) : Ev (fun k => spec_l7Runes.f k s) (R s).2 := by
  unfold spec_l7Runes.f
  exact Ev.bind (runesOfSpec s hs) (Ev.now _)
theorem withinI (a b c : Int) : impl_within.f a b c = some (decide (b ≤ a ∧ a ≤ c)) := by
  unfold impl_within.f
  by_cases h : a ≥ b
  · rw [if_pos h]; simp [h]
  · rw [if_neg h]; simp; intro h2; omega
theorem withinS (a b c : Int) : spec_l1In.f a b c = some (decide (b ≤ a ∧ a ≤ c)) := by
  unfold spec_l1In.f
  by_cases h : a ≥ b
  · rw [if_pos h]; simp [h]
  · rw [if_neg h]; simp; intro h2; omega
theorem isEmpty_beq (l : List UInt8) : (l == ([] : List UInt8)) = l.isEmpty := by cases l <;> rfl
theorem isEmpty_iff (l : List UInt8) : l = ([] : List UInt8) ↔ l.isEmpty = true := by cases l <;> simp
theorem isNodeI (x : S61) (hs : x.f3.size < 1000000000000) : Ev (fun k => impl_isNode.f k x.f0 x.f1 x.f2 x.f3 x.f4) (nodeRest x) := by
  unfold impl_isNode.f nodeRest
  have hz : ((⟨#[]⟩ : ByteArray).toList == ([] : List UInt8)) = true := by rw [ByteArray.toList]; unfold ByteArray.toList.loop; rfl
  by_cases c1 : x.f1 = 1
  · simp only [c1, if_true]
    refine Ev.step (f := fun _ => some (x.f2 == 0 && (x.f3.toList.isEmpty && x.f4 == 0))) (fun k => ?_) (Ev.now _)
    simp only [impl_isNode.j0]
    simp [hz, isEmpty_beq]
  by_cases c2 : x.f1 = 2
  · simp only [c2]
    refine Ev.step (f := fun _ => some (x.f2 == 0 && (x.f3.toList.isEmpty && x.f4 == 0))) (fun k => ?_) (Ev.now _)
    simp only [impl_isNode.j0]
    simp [hz, isEmpty_beq]
  by_cases c3 : x.f1 = 3
  · simp only [c3]
    refine Ev.step (f := fun _ => some (x.f2 == 0 && (x.f3.toList.isEmpty && x.f4 == 0))) (fun k => ?_) (Ev.now _)
    simp only [impl_isNode.j0]
    simp [hz, isEmpty_beq]
  have c3b : (x.f1 == 3) = false := beq_eq_false_iff_ne.mpr c3
  simp only [c1, c2, c3, c3b, if_false, or_false, false_or]
  by_cases c4 : x.f1 = 4
  · simp only [c4, if_true]
    refine Ev.step (f := fun _ => some (decide (-9007199254740991 ≤ x.f2 ∧ x.f2 ≤ 9007199254740991) && (x.f3.toList.isEmpty && x.f4 == 0))) (fun k => ?_) (Ev.now _)
    simp only [impl_isNode.j0, withinI, hz, isEmpty_beq, Bool.false_eq_true, if_false, if_true, Option.bind_some]
    cases x.f3.toList.isEmpty <;> cases (x.f4 == 0) <;> simp
  by_cases c5 : x.f1 = 5
  · simp only [c5, c4, if_true, if_false]
    refine Ev.step (f := fun k => if (x.f2 == 0 && x.f4 == 0) = true then (impl_isText.f k x.f3).bind fun t => some t else some false) (fun k => ?_) ?_
    · simp only [impl_isNode.j0, hz, Bool.false_eq_true, if_false, if_true, Bool.true_and, show ((0 : Int) == 0) = true from rfl]
      rfl
    · cases (x.f2 == 0) <;> cases (x.f4 == 0) <;> simp only [Bool.false_and, Bool.and_false, Bool.true_and, Bool.and_true, if_true, if_false, Bool.false_eq_true]
      · exact Ev.now _
      · exact Ev.now _
      · exact Ev.now _
      · exact Ev.bind (isTextI _ hs) (Ev.now _)
  by_cases c6 : x.f1 = 6
  · simp only [c6]
    refine Ev.step (f := fun _ => some (x.f2 == 0 && x.f3.toList.isEmpty)) (fun k => ?_) (Ev.now _)
    simp only [impl_isNode.j0]
    simp [hz, isEmpty_beq]
  by_cases c7 : x.f1 = 7
  · simp only [c7]
    refine Ev.step (f := fun _ => some (x.f2 == 0 && x.f3.toList.isEmpty)) (fun k => ?_) (Ev.now _)
    simp only [impl_isNode.j0]
    simp [hz, isEmpty_beq]
  simp only [c4, c5, c6, c7, if_false, or_self]
  refine Ev.step (f := fun _ => some false) (fun k => ?_) (Ev.now _)
  simp only [impl_isNode.j0, c4, c5, c6, c7, if_false, Bool.false_eq_true]
/-- What the reference asks of a node at its place. -/
def nodeAt (x : S61) (ir : Bool) : Bool := (ir || x.f0.toList.isEmpty) && ((R x.f0).2 && (nodeRest x && (decide (x.f1 < 6) || decide (0 ≤ x.f4 ∧ x.f4 ≤ 40))))
theorem l7NodeS_j (x : S61) (hs : x.f3.size < 1000000000000) (b : Bool) : Ev (fun k => spec_l7Node.j0 k (!b) x.f0 x.f1 x.f2 x.f3 x.f4) (b && (nodeRest x && (decide (x.f1 < 6) || decide (0 ≤ x.f4 ∧ x.f4 ≤ 40)))) := by
  cases b with
  | false => exact Ev.step (f := fun _ => some false) (fun k => by simp [spec_l7Node.j0]) (Ev.now _)
  | true =>
  unfold nodeRest
  simp only [Bool.not_true, Bool.true_and]
  by_cases c1 : x.f1 = 1
  · refine Ev.step (f := fun k => spec_l7Node.j1 k 1 true x.f0 1 x.f2 x.f3 x.f4) (fun k => by simp [spec_l7Node.j0, c1]) (Ev.step (f := fun _ => some (x.f2 == 0 && (x.f3.toList.isEmpty && x.f4 == 0))) (fun k => ?_) (by simp [c1]; exact Ev.now _))
    simp only [spec_l7Node.j1, if_true, isEmpty_iff]
    by_cases h2 : x.f2 = 0 <;> cases x.f3.toList.isEmpty <;> simp [h2]
  by_cases c2 : x.f1 = 2
  · refine Ev.step (f := fun k => spec_l7Node.j1 k 2 true x.f0 2 x.f2 x.f3 x.f4) (fun k => by simp [spec_l7Node.j0, c2]) (Ev.step (f := fun _ => some (x.f2 == 0 && (x.f3.toList.isEmpty && x.f4 == 0))) (fun k => ?_) (by simp [c2]; exact Ev.now _))
    simp only [spec_l7Node.j1, if_true, isEmpty_iff]
    by_cases h2 : x.f2 = 0 <;> cases x.f3.toList.isEmpty <;> simp [h2]
  by_cases c3 : x.f1 = 3
  · refine Ev.step (f := fun k => spec_l7Node.j1 k 3 true x.f0 3 x.f2 x.f3 x.f4) (fun k => by simp [spec_l7Node.j0, c3]) (Ev.step (f := fun _ => some (x.f2 == 0 && (x.f3.toList.isEmpty && x.f4 == 0))) (fun k => ?_) (by simp [c3]; exact Ev.now _))
    simp only [spec_l7Node.j1, if_true, isEmpty_iff]
    by_cases h2 : x.f2 = 0 <;> cases x.f3.toList.isEmpty <;> simp [h2]
  have c3b : (x.f1 == 3) = false := beq_eq_false_iff_ne.mpr c3
  refine Ev.step (f := fun k => spec_l7Node.j1 k x.f1 false x.f0 x.f1 x.f2 x.f3 x.f4) (fun k => by simp [spec_l7Node.j0, c1, c2, c3b]) ?_
  simp only [c1, c2, c3, or_false, false_or, if_false]
  by_cases c4 : x.f1 = 4
  · refine Ev.step (f := fun _ => some (decide (-9007199254740991 ≤ x.f2 ∧ x.f2 ≤ 9007199254740991) && (x.f3.toList.isEmpty && x.f4 == 0))) (fun k => ?_) (by simp [c4]; exact Ev.now _)
    simp only [spec_l7Node.j1, c4, if_true, Bool.false_eq_true, if_false, isEmpty_iff, withinS, Option.bind_some]
    cases x.f3.toList.isEmpty <;> by_cases h : (-9007199254740991 ≤ x.f2 ∧ x.f2 ≤ 9007199254740991) <;> simp [h]
  by_cases c5 : x.f1 = 5
  · refine Ev.step (f := fun k => if x.f2 = 0 then (spec_l7Runes.f k x.f3).bind fun t => if t = true then some (x.f4 == 0) else some false else some false) (fun k => by simp [spec_l7Node.j1, c5]) ?_
    by_cases h : x.f2 = 0
    · simp only [h, if_true, c5]
      refine Ev.bind (isTextS _ hs) ?_
      cases (R x.f3).2 <;> simp <;> exact Ev.now _
    · have hb : (x.f2 == 0) = false := beq_eq_false_iff_ne.mpr h
      simp only [h, if_false, hb, Bool.false_and, c5, if_true]; simp; exact Ev.now _
  by_cases c6 : x.f1 = 6
  · refine Ev.step (f := fun _ => some ((x.f2 == 0 && x.f3.toList.isEmpty) && decide (0 ≤ x.f4 ∧ x.f4 ≤ 40))) (fun k => ?_) (by simp [c6]; exact Ev.now _)
    simp only [spec_l7Node.j1, c6, if_false, if_true, Bool.false_eq_true, isEmpty_iff, withinS, Option.bind_some]
    by_cases h2 : x.f2 = 0 <;> cases x.f3.toList.isEmpty <;> simp [h2]
  by_cases c7 : x.f1 = 7
  · refine Ev.step (f := fun _ => some ((x.f2 == 0 && x.f3.toList.isEmpty) && decide (0 ≤ x.f4 ∧ x.f4 ≤ 40))) (fun k => ?_) (by simp [c7]; exact Ev.now _)
    simp only [spec_l7Node.j1, c7, if_false, if_true, Bool.false_eq_true, isEmpty_iff, withinS, Option.bind_some]
    by_cases h2 : x.f2 = 0 <;> cases x.f3.toList.isEmpty <;> simp [h2]
  refine Ev.step (f := fun _ => some false) (fun k => ?_) (by simp [c4, c5, c6, c7]; exact Ev.now _)
  simp [spec_l7Node.j1, c4, c5, c6, c7]
theorem l7NodeS (x : S61) (ir : Bool) (h0 : x.f0.size < 1000000000000) (hs : x.f3.size < 1000000000000) : Ev (fun k => spec_l7Node.f k x.f0 x.f1 x.f2 x.f3 x.f4 ir) (nodeAt x ir) := by
  unfold spec_l7Node.f nodeAt
  cases ir with
  | true =>
    simp only [if_true, Bool.true_or, Bool.true_and]
    exact Ev.bind (isTextS _ h0) (l7NodeS_j x hs _)
  | false =>
    simp only [Bool.false_eq_true, if_false, Bool.false_or, isEmpty_iff]
    cases x.f0.toList.isEmpty with
    | true => simp only [if_true, Bool.true_and]; exact Ev.bind (isTextS _ h0) (l7NodeS_j x hs _)
    | false => simp only [Bool.false_eq_true, if_false, Bool.false_and]; exact l7NodeS_j x hs false

/-! UTF-16 -/
def pr (n : Int) : List Int := if n < 65536 then [n] else [55296 + (n - 65536) / 1024, 56320 + (n - 65536) % 1024]
def prs (l : List Int) : List Int := l.flatMap pr
theorem prs_cons (n : Int) (l : List Int) : prs (n :: l) = pr n ++ prs l := rfl
theorem pr_length (n : Int) : 1 ≤ (pr n).length ∧ (pr n).length ≤ 2 := by unfold pr; split <;> simp
theorem prs_length (l : List Int) : l.length ≤ (prs l).length ∧ (prs l).length ≤ 2 * l.length := by
  induction l with
  | nil => simp [prs]
  | cons n l ih => have := pr_length n; rw [prs_cons, List.length_append, List.length_cons]; omega
def isHi (n : Int) : Prop := 55296 ≤ n ∧ n ≤ 56319
def isLo (n : Int) : Prop := 56320 ≤ n ∧ n ≤ 57343
instance (n : Int) : Decidable (isHi n) := inferInstanceAs (Decidable (55296 ≤ n ∧ n ≤ 56319))
instance (n : Int) : Decidable (isLo n) := inferInstanceAs (Decidable (56320 ≤ n ∧ n ≤ 57343))
def comb (a b : Int) : Int := 65536 + (a - 55296) * 1024 + b - 56320
theorem comb_good {a b : Int} (ha : isHi a) (hb : isLo b) : Good (comb a b) ∧ 65536 ≤ comb a b := by unfold isHi at ha; unfold isLo at hb; unfold comb Good; omega
theorem pr_comb {a b : Int} (ha : isHi a) (hb : isLo b) : pr (comb a b) = [a, b] := by
  have := (comb_good ha hb).2
  unfold isHi at ha; unfold isLo at hb
  unfold pr; rw [if_neg (by omega)]; unfold comb; congr 1
  · omega
  · congr 1; omega
/-- Reading pairs: none where a unit is no rune and no half of a pair. -/
def decP : List Int → Option (List Int)
  | [] => some []
  | [a] => if Good a ∧ a ≤ 65535 then some [a] else none
  | a :: b :: t => if isHi a ∧ isLo b then (decP t).map (comb a b :: ·) else if Good a ∧ a ≤ 65535 then (decP (b :: t)).map (a :: ·) else none
/-- The same, but what is no rune stays. -/
def decS : List Int → Option (List Int)
  | [] => some []
  | [a] => if 0 ≤ a ∧ a ≤ 65535 then some [a] else none
  | a :: b :: t => if isHi a ∧ isLo b then (decS t).map (comb a b :: ·) else if 0 ≤ a ∧ a ≤ 65535 then (decS (b :: t)).map (a :: ·) else none
theorem decP_decS : ∀ (d : List Int), (∀ r, decP d = some r → decS d = some r ∧ Goods r) ∧ (decP d = none → ∀ r, decS d = some r → ¬ Goods r)
  | [] => by
    refine ⟨fun r h => ?_, fun h => ?_⟩
    · simp only [decP, Option.some.injEq] at h; subst h; exact ⟨rfl, fun x hx => by simp at hx⟩
    · simp [decP] at h
  | [a] => by
    unfold decP decS
    by_cases g : Good a ∧ a ≤ 65535
    · rw [if_pos g]
      refine ⟨fun r h => ?_, fun h => by cases h⟩
      obtain rfl := Option.some.inj h
      rw [if_pos ⟨g.1.1, g.2⟩]
      exact ⟨rfl, fun x hx => by simp at hx; subst hx; exact g.1⟩
    · rw [if_neg g]
      refine ⟨fun r h => (by cases h), fun _ r h => ?_⟩
      split at h
      · rename_i q
        obtain rfl := Option.some.inj h
        exact fun hg => g ⟨hg a (List.mem_cons_self ..), q.2⟩
      · cases h
  | a :: b :: t => by
    unfold decP decS
    by_cases c : isHi a ∧ isLo b
    · rw [if_pos c, if_pos c]
      obtain ⟨i1, i2⟩ := decP_decS t
      refine ⟨fun r h => ?_, fun h r hr => ?_⟩
      · obtain ⟨q, hq, rfl⟩ := Option.map_eq_some_iff.1 h
        obtain ⟨h1, h2⟩ := i1 q hq
        rw [h1]
        exact ⟨rfl, goods_cons.2 ⟨(comb_good c.1 c.2).1, h2⟩⟩
      · obtain ⟨q, hq, rfl⟩ := Option.map_eq_some_iff.1 hr
        exact fun hg => i2 (Option.map_eq_none_iff.1 h) q hq (fun x hx => hg x (List.mem_cons_of_mem _ hx))
    · rw [if_neg c, if_neg c]
      obtain ⟨i1, i2⟩ := decP_decS (b :: t)
      by_cases g : Good a ∧ a ≤ 65535
      · rw [if_pos g, if_pos ⟨g.1.1, g.2⟩]
        refine ⟨fun r h => ?_, fun h r hr => ?_⟩
        · obtain ⟨q, hq, rfl⟩ := Option.map_eq_some_iff.1 h
          obtain ⟨h1, h2⟩ := i1 q hq
          rw [h1]
          exact ⟨rfl, goods_cons.2 ⟨g.1, h2⟩⟩
        · obtain ⟨q, hq, rfl⟩ := Option.map_eq_some_iff.1 hr
          exact fun hg => i2 (Option.map_eq_none_iff.1 h) q hq (fun x hx => hg x (List.mem_cons_of_mem _ hx))
      · rw [if_neg g]
        refine ⟨fun r h => (by cases h), fun _ r hr => ?_⟩
        split at hr
        · rename_i q
          obtain ⟨u, hu, rfl⟩ := Option.map_eq_some_iff.1 hr
          exact fun hg => g ⟨hg a (List.mem_cons_self ..), q.2⟩
        · cases hr
theorem decP_prs : ∀ (d r : List Int), decP d = some r → prs r = d
  | [], r, h => by simp only [decP, Option.some.injEq] at h; subst h; rfl
  | [a], r, h => by
    unfold decP at h
    split at h
    · rename_i g
      obtain rfl := Option.some.inj h
      simp [prs, pr]; have := g.2; omega
    · cases h
  | a :: b :: t, r, h => by
    unfold decP at h
    by_cases c : isHi a ∧ isLo b
    · rw [if_pos c] at h
      obtain ⟨q, hq, rfl⟩ := Option.map_eq_some_iff.1 h
      rw [prs_cons, pr_comb c.1 c.2, decP_prs t q hq]; rfl
    · rw [if_neg c] at h
      by_cases g : Good a ∧ a ≤ 65535
      · rw [if_pos g] at h
        obtain ⟨q, hq, rfl⟩ := Option.map_eq_some_iff.1 h
        rw [prs_cons, decP_prs (b :: t) q hq]
        unfold pr; rw [if_pos (by have := g.2; omega)]; rfl
      · rw [if_neg g] at h; cases h
theorem prs_decP : ∀ (l : List Int), Goods l → decP (prs l) = some l
  | [], _ => rfl
  | n :: l, h => by
    have gn := h n (List.mem_cons_self ..)
    have ih := prs_decP l (fun x hx => h x (List.mem_cons_of_mem _ hx))
    rw [prs_cons]
    unfold pr
    by_cases c : n < 65536
    · rw [if_pos c]
      have hh : ¬ isHi n := by have := gn.2.2; unfold isHi; omega
      cases e : prs l with
      | nil =>
        rw [e] at ih
        have : l = [] := by simpa [decP] using ih.symm
        subst this
        show decP [n] = _
        unfold decP; rw [if_pos ⟨gn, by omega⟩]
      | cons b t =>
        rw [e] at ih
        show decP (n :: b :: t) = _
        unfold decP; rw [if_neg (fun q => hh q.1), if_pos ⟨gn, by omega⟩, ih]; rfl
    · rw [if_neg c]
      have g2 := gn.2.1
      show decP (_ :: _ :: prs l) = _
      unfold decP
      rw [if_pos (by unfold isHi isLo; omega), ih]
      simp only [Option.map_some, Option.some.injEq, List.cons.injEq, and_true]
      unfold comb; omega
theorem prs_inj {a b : List Int} (ha : Goods a) (hb : Goods b) (h : prs a = prs b) : a = b := by
  have := prs_decP a ha
  rw [h, prs_decP b hb] at this
  exact (Option.some.inj this).symm
theorem iless_asymm : ∀ (x y : List Int), iless x y = true → iless y x = false
  | _, [], h => by cases ‹List Int› <;> simp [iless] at h
  | [], _ :: _, _ => rfl
  | a :: x, b :: y, h => by
    simp only [iless, Bool.or_eq_true, decide_eq_true_eq, Bool.and_eq_true, beq_iff_eq] at h
    simp only [iless, Bool.or_eq_false_iff, decide_eq_false_iff_not, Bool.and_eq_false_iff, beq_eq_false_iff_ne]
    rcases h with h | ⟨rfl, h⟩
    · exact ⟨by omega, .inl (by omega)⟩
    · exact ⟨by omega, .inr (iless_asymm x y h)⟩
theorem iless_total : ∀ (x y : List Int), iless x y = false → iless y x = false → x = y
  | [], [], _, _ => rfl
  | _ :: _, [], _, h => by simp [iless] at h
  | [], _ :: _, h, _ => by simp [iless] at h
  | a :: x, b :: y, h1, h2 => by
    simp only [iless, Bool.or_eq_false_iff, decide_eq_false_iff_not, Bool.and_eq_false_iff, beq_eq_false_iff_ne] at h1 h2
    have e : a = b := by omega
    subst e
    rw [iless_total x y (by simpa using h1.2) (by simpa using h2.2)]

theorem and1023 (x : Int) (h0 : 0 ≤ x) (h1 : x < 9223372036854775808) : Go.bits .and .i64 x 1023 = x % 1024 := by
  have h := bits_mask .i64 63 (by decide) (fun n h₀ h₁ => by rw [IntKind.wrap_i64]; omega) 10 (by decide) x h0 (by omega)
  simpa using h
theorem pairsOfImpl_l0 (b : List Int) : ∀ (a acc : List Int), Goods b → (a ++ b).length < 100000000 → acc.length + 2 * b.length < 1000000000 →
    Ev (fun k => impl_pairsOf.l0 k acc (a ++ b) (a ++ b).length a.length) (acc ++ prs b) := by
  induction b with
  | nil =>
    intro a acc _ h1 h2
    refine Ev.step (f := fun _ => some (acc ++ prs [])) (fun k => ?_) (Ev.now _)
    rw [impl_pairsOf.l0, if_neg (by simp)]; simp [prs]
  | cons n b ih =>
    intro a acc hg h1 h2
    have hl : (a ++ n :: b).length = a.length + (b.length + 1) := by simp
    have gn := (goods_cons.1 hg).1
    have g0 := gn.1; have g1 := gn.2.1
    simp only [List.length_cons] at h2
    have hi := ih (a ++ [n]) (acc ++ pr n) (goods_cons.1 hg).2 (by simpa using h1) (by have := pr_length n; rw [List.length_append]; omega)
    simp only [List.append_assoc, List.cons_append, List.nil_append, List.length_append, List.length_cons, List.length_nil, Nat.zero_add] at hi
    rw [prs_cons]
    refine Ev.step (fun k => ?_) hi
    rw [impl_pairsOf.l0, if_pos (by omega), if_pos (by omega), if_pos (by omega), rd_mid]
    unfold pr
    by_cases c : n < 65536
    · rw [if_pos c, if_pos c, if_pos (by omega), w64 (by omega) (by omega), hl]; rfl
    · rw [if_neg c, if_neg c]
      simp only [Option.bind_some]
      rw [if_pos (by simp; omega), w64 (n := n - 65536) (by omega) (by omega), and1023 _ (by omega) (by omega), w64 (n := 55296 + (n - 65536) / 1024) (by omega) (by omega), w64 (n := 56320 + (n - 65536) % 1024) (by omega) (by omega), w64 (by omega) (by omega), hl]; rfl
theorem pairsOfSpec_l0 (b : List Int) : ∀ (a acc : List Int), Goods b → (a ++ b).length < 100000000 → acc.length + 2 * b.length < 1000000000 →
    Ev (fun k => spec_l2Pairs.l0 k acc (a ++ b) (a ++ b).length a.length) (acc ++ prs b) := by
  induction b with
  | nil =>
    intro a acc _ h1 h2
    refine Ev.step (f := fun _ => some (acc ++ prs [])) (fun k => ?_) (Ev.now _)
    rw [spec_l2Pairs.l0, if_neg (by simp)]; simp [prs]
  | cons n b ih =>
    intro a acc hg h1 h2
    have hl : (a ++ n :: b).length = a.length + (b.length + 1) := by simp
    have gn := (goods_cons.1 hg).1
    have g0 := gn.1; have g1 := gn.2.1
    simp only [List.length_cons] at h2
    have hi := ih (a ++ [n]) (acc ++ pr n) (goods_cons.1 hg).2 (by simpa using h1) (by have := pr_length n; rw [List.length_append]; omega)
    simp only [List.append_assoc, List.cons_append, List.nil_append, List.length_append, List.length_cons, List.length_nil, Nat.zero_add] at hi
    rw [prs_cons]
    refine Ev.step (fun k => ?_) hi
    rw [spec_l2Pairs.l0, if_pos (by omega), if_pos (by omega), if_pos (by omega), rd_mid]
    unfold pr
    by_cases c : n < 65536
    · rw [if_pos c, if_pos c, if_pos (by omega), w64 (by omega) (by omega), hl]; rfl
    · rw [if_neg c, if_neg c]
      simp only [Option.bind_some]
      rw [if_pos (by simp; omega), w64 (n := n - 65536) (by omega) (by omega), and1023 _ (by omega) (by omega), w64 (n := 55296 + (n - 65536) / 1024) (by omega) (by omega), w64 (n := 56320 + (n - 65536) % 1024) (by omega) (by omega), w64 (by omega) (by omega), hl]; rfl
theorem pairsImpl (l : List Int) (hg : Goods l) (hl : l.length < 10000000) : Ev (fun k => impl_pairsOf.f k l) (prs l) := by
  have := pairsOfImpl_l0 l [] [] hg (by simp; omega) (by simp; omega)
  unfold impl_pairsOf.f
  simpa using this
theorem pairsSpec (l : List Int) (hg : Goods l) (hl : l.length < 10000000) : Ev (fun k => spec_l2Pairs.f k l) (prs l) := by
  have := pairsOfSpec_l0 l [] [] hg (by simp; omega) (by simp; omega)
  unfold spec_l2Pairs.f
  simpa using this
/-! comparing lists -/
theorem cmpInt (a b : Int) : cmp_Compare_int.f a b = some (if a < b then -1 else if a > b then 1 else 0) := by
  unfold cmp_Compare_int.f cmp_isNaN_int.f
  simp only [Option.bind_some, bne_self_eq_false, Bool.false_eq_true, if_false]
  by_cases c : a < b
  · rw [if_pos c, if_pos c]
  · rw [if_neg c, if_neg c]
    by_cases d : a > b
    · rw [if_pos d, if_pos d]
    · rw [if_neg d, if_neg d]
theorem compare_l0 (x y : List Int) (hx : x.length < 100000000) (hy : y.length < 100000000) (x' : List Int) : ∀ (p y' : List Int), x = p ++ x' → y = p ++ y' →
    ∃ c, Ev (fun k => slices_Compare_int_int.l0 k x y x x.length p.length) c ∧ (c < 0 ↔ iless x y = true) := by
  induction x' with
  | nil =>
    intro p y' e1 e2
    have n1 := congrArg List.length e1
    have n2 := congrArg List.length e2
    simp only [List.length_append, List.length_nil] at n1 n2
    cases y' with
    | nil =>
      simp only [List.length_nil] at n2
      refine ⟨0, Ev.step (f := fun _ => some 0) (fun k => ?_) (Ev.now _), ?_⟩
      · rw [slices_Compare_int_int.l0, if_neg (by omega), if_neg (by omega)]
      · rw [e1, e2, iless_app]; simp [iless]
    | cons b y' =>
      simp only [List.length_cons] at n2
      refine ⟨-1, Ev.step (f := fun _ => some (-1)) (fun k => ?_) (Ev.now _), ?_⟩
      · rw [slices_Compare_int_int.l0, if_neg (by omega), if_pos (by omega)]
      · rw [e1, e2, iless_app]; simp [iless]
  | cons a x' ih =>
    intro p y' e1 e2
    have n1 := congrArg List.length e1
    have n2 := congrArg List.length e2
    simp only [List.length_append, List.length_cons] at n1 n2
    have r1 : rd x p.length = a := by rw [e1]; exact rd_mid p a x'
    cases y' with
    | nil =>
      simp only [List.length_nil] at n2
      refine ⟨1, Ev.step (f := fun _ => some 1) (fun k => ?_) (Ev.now _), ?_⟩
      · rw [slices_Compare_int_int.l0, if_pos (by omega), if_pos (by omega), if_pos (by omega), if_pos (by omega)]
      · rw [e1, e2, iless_app]; simp [iless]
    | cons b y' =>
      simp only [List.length_cons] at n2
      have r2 : rd y p.length = b := by rw [e2]; exact rd_mid p b y'
      by_cases c : a = b
      · subst c
        obtain ⟨c, h1, h2⟩ := ih (p ++ [a]) y' (by rw [e1]; simp) (by rw [e2]; simp)
        simp only [List.length_append, List.length_cons, List.length_nil] at h1
        refine ⟨c, Ev.step (fun k => ?_) h1, h2⟩
        rw [slices_Compare_int_int.l0, if_pos (by omega), if_pos (by omega), if_pos (by omega), if_neg (by omega), if_pos (by omega), r1, r2, cmpInt]
        simp only [Option.bind_some]
        simp only [Int.lt_irrefl, if_false, gt_iff_lt, if_true]
        rw [w64 (by omega) (by omega)]; rfl
      · have hc := cmpInt a b
        refine ⟨if a < b then -1 else if a > b then 1 else 0, Ev.step (f := fun _ => some (if a < b then -1 else if a > b then 1 else 0)) (fun k => ?_) (Ev.now _), ?_⟩
        · rw [slices_Compare_int_int.l0, if_pos (by omega), if_pos (by omega), if_pos (by omega), if_neg (by omega), if_pos (by omega), r1, r2, cmpInt]
          simp only [Option.bind_some]
          rw [if_neg]
          by_cases d : a < b
          · rw [if_pos d]; decide
          · rw [if_neg d, if_pos (by omega)]; decide
        · rw [e1, e2, iless_app]
          by_cases d : a < b
          · simp [iless, d]
          · rw [if_neg d, if_pos (by omega)]; simp [iless, d, c]
theorem compareInts (x y : List Int) (hx : x.length < 100000000) (hy : y.length < 100000000) : ∃ c, Ev (fun k => slices_Compare_int_int.f k x y) c ∧ decide (c < 0) = iless x y := by
  obtain ⟨c, h1, h2⟩ := compare_l0 x y hx hy x [] y rfl rfl
  refine ⟨c, h1, ?_⟩
  by_cases d : iless x y = true
  · rw [d, decide_eq_true (h2.2 d)]
  · rw [Bool.not_eq_true] at d
    rw [d, decide_eq_false (fun h => by have := h2.1 h; rw [d] at this; cases this)]
theorem l2Less_l0 (x y : List Int) (hx : x.length < 100000000) (hy : y.length < 100000000) (x' : List Int) : ∀ (p y' : List Int), x = p ++ x' → y = p ++ y' →
    Ev (fun k => spec_l2Less.l0 k x y x x.length p.length) (iless x y) := by
  induction x' with
  | nil =>
    intro p y' e1 e2
    have n1 := congrArg List.length e1
    have n2 := congrArg List.length e2
    simp only [List.length_append, List.length_nil] at n1 n2
    have : decide (x.length < y.length) = iless x y := by
      rw [e1, e2, iless_app]
      cases y' with
      | nil => simp [iless]
      | cons => simp [iless]
    rw [← this]
    refine Ev.step (f := fun _ => some (decide (x.length < y.length))) (fun k => ?_) (Ev.now _)
    rw [spec_l2Less.l0, if_neg (by omega)]
  | cons a x' ih =>
    intro p y' e1 e2
    have n1 := congrArg List.length e1
    have n2 := congrArg List.length e2
    simp only [List.length_append, List.length_cons] at n1 n2
    have r1 : rd x p.length = a := by rw [e1]; exact rd_mid p a x'
    cases y' with
    | nil =>
      simp only [List.length_nil] at n2
      have : iless x y = false := by rw [e1, e2, iless_app]; simp [iless]
      rw [this]
      refine Ev.step (f := fun k => spec_l2Less.j1 k x y p.length a x x.length p.length true) (fun k => ?_) (Ev.step (f := fun _ => some false) (fun k => ?_) (Ev.now _))
      · rw [spec_l2Less.l0, if_pos (by omega), if_pos (by omega), if_pos (by omega), if_pos (by omega), r1]
      · rw [spec_l2Less.j1, if_pos rfl]
    | cons b y' =>
      simp only [List.length_cons] at n2
      have r2 : rd y p.length = b := by rw [e2]; exact rd_mid p b y'
      refine Ev.step (f := fun k => spec_l2Less.j1 k x y p.length a x x.length p.length (decide (a > b))) (fun k => ?_) ?_
      · rw [spec_l2Less.l0, if_pos (by omega), if_pos (by omega), if_pos (by omega), if_neg (by omega), if_pos (by omega), r1, r2]
      rcases Int.lt_trichotomy a b with h | h | h
      · have : iless x y = true := by rw [e1, e2, iless_app]; simp [iless, h]
        rw [this]
        refine Ev.step (f := fun _ => some true) (fun k => ?_) (Ev.now _)
        rw [spec_l2Less.j1, decide_eq_false (by omega), if_neg (by decide), if_pos (by omega), if_pos (by omega), r2, if_pos h]
      · subst h
        have := ih (p ++ [a]) y' (by rw [e1]; simp) (by rw [e2]; simp)
        simp only [List.length_append, List.length_cons, List.length_nil] at this
        refine Ev.step (fun k => ?_) this
        rw [spec_l2Less.j1, decide_eq_false (by omega), if_neg (by decide), if_pos (by omega), if_pos (by omega), r2, if_neg (by omega), w64 (by omega) (by omega)]; rfl
      · have : iless x y = false := by
          rw [e1, e2, iless_app]
          simp only [iless, List.cons_append, Bool.or_eq_false_iff, decide_eq_false_iff_not, Bool.and_eq_false_iff, beq_eq_false_iff_ne]; omega
        rw [this]
        refine Ev.step (f := fun _ => some false) (fun k => ?_) (Ev.now _)
        rw [spec_l2Less.j1, decide_eq_true h, if_pos rfl]
theorem l2Less (x y : List Int) (hx : x.length < 100000000) (hy : y.length < 100000000) : Ev (fun k => spec_l2Less.f k x y) (iless x y) := l2Less_l0 x y hx hy x [] y rfl rfl

def Lp (a b : ByteArray) : Bool × Bool := if (R a).2 = true ∧ (R b).2 = true then (iless (prs (R a).1) (prs (R b).1), true) else (false, false)
theorem R_len (s : ByteArray) : (R s).1.length ≤ 60 := by
  rcases h : R s with ⟨l, ok⟩
  cases ok with
  | true => exact (R_true h).2.2.1
  | false => have := R_false (s := s) (by rw [h]); rw [h] at this; simp only at this ⊢; rw [this]; simp
theorem R_goods (s : ByteArray) (h : (R s).2 = true) : Goods (R s).1 := by
  rcases e : R s with ⟨l, ok⟩
  rw [e] at h
  simp only at h
  subst h
  exact (R_true e).1
theorem lessSpec (a b : ByteArray) (ha : a.size < 1000000000000) (hb : b.size < 1000000000000) : Ev (fun k => spec_LessPairs.f k a b) (Lp a b) := by
  unfold spec_LessPairs.f Lp
  have la := R_len a
  have lb := R_len b
  refine Ev.bind (runesOfSpec a (by omega)) (Ev.bind (runesOfSpec b (by omega)) ?_)
  by_cases c : (R a).2 = true
  · simp only [c, if_true, true_and]
    by_cases d : (R b).2 = true
    · simp only [d, if_true, Bool.not_true]
      have pa := prs_length (R a).1
      have pb := prs_length (R b).1
      refine Ev.step (f := fun k => spec_LessPairs.j0 (k + 1) (R a).1 (R b).1 false) (fun k => rfl) ?_
      simp only [spec_LessPairs.j0, Bool.false_eq_true, if_false]
      exact Ev.bind (pairsSpec _ (R_goods a c) (by omega)) (Ev.bind (pairsSpec _ (R_goods b d) (by omega)) (Ev.bind (l2Less _ _ (by omega) (by omega)) (Ev.now _)))
    · rw [Bool.not_eq_true] at d
      simp only [d, Bool.false_eq_true, if_false, Bool.not_false]
      refine Ev.step (f := fun _ => some (false, false)) (fun k => ?_) (Ev.now _)
      rw [spec_LessPairs.j0, if_pos rfl]
  · rw [Bool.not_eq_true] at c
    simp only [c, Bool.false_eq_true, if_false, false_and]
    refine Ev.step (f := fun _ => some (false, false)) (fun k => ?_) (Ev.now _)
    rw [spec_LessPairs.j0, if_pos rfl]
/-- Which of two keys stands first. -/
def less (a b : ByteArray) : Bool := (Lp a b).1
theorem lessKeyS (a b : ByteArray) (ha : a.size < 1000000000000) (hb : b.size < 1000000000000) : Ev (fun k => spec_l7LessKey.f k a b) (less a b) := by
  unfold spec_l7LessKey.f
  exact Ev.bind (lessSpec a b ha hb) (Ev.now _)
theorem runesI (s : ByteArray) (hs : s.size < 1000000000000) (h : (R s).2 = true) : Ev (fun k => impl_runesOf.f k s) (R s) := by
  have c : s.size ≤ 240 := by
    rcases e : R s with ⟨l, ok⟩
    rw [e] at h
    simp only at h
    subst h
    exact (R_true e).2.2.2
  unfold impl_runesOf.f R
  have := runesOfImpl_l0 s hs (s.size + 1) [] 0 (by omega) (by omega) (by rw [List.length_drop, nb_length]; omega) (by simp)
  simp only [Int.toNat_zero, List.drop_zero] at this
  simp only [c, if_true]
  exact this
theorem cmpKeyI (a b : ByteArray) (ha : a.size < 1000000000000) (hb : b.size < 1000000000000) (ta : (R a).2 = true) (tb : (R b).2 = true) : ∃ c, Ev (fun k => impl_compareKeys.f k a b) c ∧ decide (0 ≤ c) = !less a b := by
  have la := R_len a
  have lb := R_len b
  have pa := prs_length (R a).1
  have pb := prs_length (R b).1
  obtain ⟨c, e, hc⟩ := compareInts (prs (R a).1) (prs (R b).1) (by omega) (by omega)
  refine ⟨c, ?_, ?_⟩
  · unfold impl_compareKeys.f
    exact Ev.bind (runesI a ha ta) (Ev.bind (runesI b hb tb) (Ev.bind (pairsImpl _ (R_goods a ta) (by omega)) (Ev.bind (pairsImpl _ (R_goods b tb) (by omega)) (Ev.bind e (Ev.now _)))))
  · unfold less Lp
    rw [if_pos ⟨ta, tb⟩]
    simp only
    rw [← hc]
    by_cases h : c < 0
    · rw [decide_eq_true h, decide_eq_false (by omega)]; rfl
    · rw [decide_eq_false h, decide_eq_true (by omega)]; rfl

/-- The reference's reading of so many more parts, g reading one. -/
def Sl (g : List S61 → Bool → Option (T7 × List S61)) (x : S61) : Nat → List T7 → List S61 → Option (T7 × List S61)
  | 0, acc, l => some (.mk x acc, l)
  | n + 1, acc, l => (g l (x.f1 == 7)).bind fun r => if x.f1 = 7 ∧ 0 < acc.length then acc.getLast?.bind fun u => if less u.x.f0 r.1.x.f0 = true then Sl g x n (acc ++ [r.1]) r.2 else none else Sl g x n (acc ++ [r.1]) r.2
/-- The reference's reading of a tree of at most so many levels. -/
def Sp : Nat → List S61 → Bool → Option (T7 × List S61)
  | 0, _, _ => none
  | d + 1, l, ir => l.head?.bind fun x => if nodeAt x ir = true then Sl (Sp d) x x.f4.toNat [] l.tail else none
theorem Sl_suffix {g : List S61 → Bool → Option (T7 × List S61)} (hg : ∀ l ir t r, g l ir = some (t, r) → r <:+ l) (x : S61) : ∀ (n : Nat) (acc : List T7) (l : List S61) (t : T7) (r : List S61), Sl g x n acc l = some (t, r) → r <:+ l ∧ t.x = x
  | 0, acc, l, t, r, h => by
    simp only [Sl, Option.some.injEq, Prod.mk.injEq] at h
    rw [← h.1, ← h.2]; exact ⟨List.suffix_refl _, rfl⟩
  | n + 1, acc, l, t, r, h => by
    simp only [Sl] at h
    obtain ⟨⟨t1, r1⟩, h1, h⟩ := Option.bind_eq_some_iff.mp h
    have h0 := hg _ _ _ _ h1
    have key : Sl g x n (acc ++ [t1]) r1 = some (t, r) := by
      by_cases c : x.f1 = 7 ∧ 0 < acc.length
      · rw [if_pos c] at h
        obtain ⟨u, _, h⟩ := Option.bind_eq_some_iff.mp h
        by_cases e : less u.x.f0 t1.x.f0 = true
        · rw [if_pos e] at h; exact h
        · rw [if_neg e] at h; cases h
      · rw [if_neg c] at h; exact h
    obtain ⟨a, b⟩ := Sl_suffix hg x n (acc ++ [t1]) r1 t r key
    exact ⟨a.trans h0, b⟩
theorem Sp_suffix : ∀ (d : Nat) (l : List S61) (ir : Bool) (t : T7) (r : List S61), Sp d l ir = some (t, r) → r <:+ l ∧ t.x ∈ l ∧ r.length < l.length
  | 0, l, ir, t, r, h => by cases h
  | d + 1, l, ir, t, r, h => by
    simp only [Sp] at h
    obtain ⟨x, hx, h⟩ := Option.bind_eq_some_iff.mp h
    by_cases c : nodeAt x ir = true
    · rw [if_pos c] at h
      obtain ⟨a, b⟩ := Sl_suffix (fun l ir t r h => (Sp_suffix d l ir t r h).1) x _ _ _ t r h
      cases l with
      | nil => cases hx
      | cons y l =>
        injection hx with hx
        subst hx
        refine ⟨a.trans (List.suffix_cons _ _), by rw [b]; simp, ?_⟩
        have := a.length_le
        simp only [List.tail_cons, List.length_cons] at this ⊢
        omega
    · rw [if_neg c] at h; cases h
/-- How the reference tells what it read. -/
def res (n : Nat) : Option (T7 × List S61) → Option T7 × Int
  | none => (none, -1)
  | some (t, r) => (some t, (n : Int) - r.length)
theorem drop_suffix {l r : List S61} {a : Nat} (h : r <:+ l.drop a) : r = l.drop (l.length - r.length) :=
  List.suffix_iff_eq_drop.1 (h.trans (List.drop_suffix a l))
theorem treeLoop (l : List S61) (hl : l.length ≤ 40) (hs : ∀ x ∈ l, x.f0.size < 1000000000000 ∧ x.f3.size < 1000000000000) (d a : Nat) (dp : Int) (x : S61) (hx : rd_T61 l a = x) (hdp : wrap64 (dp + 1) = dp + 1)
    (ih : ∀ (b : Nat) (ir : Bool), b ≤ l.length → Ev (fun k => spec_l7Tree.f k l b (dp + 1) ir) (res l.length (Sp d (l.drop b) ir))) : ∀ (n : Nat) (acc : List T7) (b : Nat), b ≤ l.length → acc.length + n = x.f4.toNat → acc.length + n ≤ 40 → (∀ u ∈ acc, u.x ∈ l) →
      Ev (fun k => spec_l7Tree.l k l a dp acc.length acc b) (res l.length (Sl (Sp d) x n acc (l.drop b)))
  | 0, acc, b, hb, hn, h40, hacc => by
    refine Ev.step (f := fun _ => some (some (.mk x acc), (b : Int))) (fun k => ?_) ?_
    · rw [spec_l7Tree.l, hx, if_neg (by omega)]
    · simp only [Sl, res, List.length_drop]
      rw [show ((l.length : Int) - ((l.length - b : Nat) : Int)) = b by omega]
      exact Ev.now _
  | n + 1, acc, b, hb, hn, h40, hacc => by
    refine Ev.step (f := fun k => (spec_l7Tree.f k l b (dp + 1) (x.f1 == 7)).bind fun r => if r.2 < 0 then some (none, -1) else r.1.bind fun t =>
          if x.f1 = 7 ∧ 0 < (acc.length : Int) then acc.getLast?.bind fun u => (spec_l7LessKey.f k u.x.f0 t.x.f0).bind fun b => if b = true then spec_l7Tree.l k l a dp (acc.length + 1) (acc ++ [t]) r.2 else some (none, -1)
          else spec_l7Tree.l k l a dp (acc.length + 1) (acc ++ [t]) r.2) (fun k => ?_) ?_
    · rw [spec_l7Tree.l, hx, if_pos (by omega), if_pos (by omega), hdp, w64 (n := (acc.length : Int) + 1) (by omega) (by omega)]
    · refine Ev.bind (ih b _ hb) ?_
      simp only [Sl]
      cases e : Sp d (l.drop b) (x.f1 == 7) with
      | none => simp only [res, Option.bind_none]; exact Ev.now _
      | some v =>
        obtain ⟨t, r⟩ := v
        obtain ⟨s1, s2, s3⟩ := Sp_suffix _ _ _ _ _ e
        have hr := drop_suffix s1
        have hrl : r.length ≤ l.length := Nat.le_trans s1.length_le (by rw [List.length_drop]; omega)
        have htl : t.x ∈ l := List.mem_of_mem_drop s2
        have hnn : ¬ ((l.length : Int) - r.length < 0) := by omega
        have next := treeLoop l hl hs d a dp x hx hdp ih n (acc ++ [t]) (l.length - r.length) (by omega) (by rw [List.length_append, List.length_singleton]; omega) (by rw [List.length_append, List.length_singleton]; omega) (fun u hu => by
          rcases List.mem_append.1 hu with h | h
          · exact hacc u h
          · rw [List.mem_singleton.1 h]; exact htl)
        rw [← hr, List.length_append, List.length_singleton, show (((l.length - r.length : Nat) : Int)) = (l.length : Int) - r.length by omega, show ((acc.length + 1 : Nat) : Int) = (acc.length : Int) + 1 by omega] at next
        simp only [res, hnn, if_false, Option.bind_some]
        by_cases c : x.f1 = 7 ∧ 0 < acc.length
        · rw [if_pos c]
          simp only [if_pos (show x.f1 = 7 ∧ 0 < (acc.length : Int) from ⟨c.1, by omega⟩)]
          cases g : acc.getLast? with
          | none => rw [List.getLast?_eq_none_iff.1 g] at c; simp at c
          | some u =>
            have hu := hacc u (List.mem_of_getLast? g)
            simp only [Option.bind_some]
            refine Ev.bind (lessKeyS _ _ (hs _ hu).1 (hs _ htl).1) ?_
            cases less u.x.f0 t.x.f0 with
            | true => simp only [if_true]; exact next
            | false => simp only [Bool.false_eq_true, if_false, res]; exact Ev.now _
        · rw [if_neg c]
          simp only [if_neg (show ¬ (x.f1 = 7 ∧ 0 < (acc.length : Int)) from fun h => c ⟨h.1, by omega⟩)]
          exact next
theorem treeEv (l : List S61) (hl : l.length ≤ 40) (hs : ∀ x ∈ l, x.f0.size < 1000000000000 ∧ x.f3.size < 1000000000000) : ∀ (d : Nat), d ≤ 6 → ∀ (a : Nat) (ir : Bool), a ≤ l.length → Ev (fun k => spec_l7Tree.f k l a (7 - d) ir) (res l.length (Sp d (l.drop a) ir))
  | 0, _, a, ir, ha => by
    refine Ev.step (f := fun _ => some (none, -1)) (fun k => ?_) (Ev.now _)
    rw [spec_l7Tree.f]
    by_cases c : (a : Int) ≥ l.length
    · rw [if_pos c]
    · rw [if_neg c, if_pos (by omega)]
  | d + 1, hd, a, ir, ha => by
    by_cases c : (a : Int) ≥ l.length
    · refine Ev.step (f := fun _ => some (none, -1)) (fun k => by rw [spec_l7Tree.f, if_pos c]) ?_
      rw [List.drop_of_length_le (by omega)]
      exact Ev.now _
    have ha' : a < l.length := by omega
    obtain ⟨x, hx⟩ : ∃ x, x = rd_T61 l a := ⟨_, rfl⟩
    have he : x = l[a] := by rw [hx]; simp [rd_T61, List.getD_eq_getElem?_getD, ha']
    have hxm : x ∈ l := by rw [he]; exact List.getElem_mem ha'
    refine Ev.step (f := fun k => (spec_l7Node.f k x.f0 x.f1 x.f2 x.f3 x.f4 ir).bind fun b => if b = true then spec_l7Tree.l k l a (7 - ((d + 1 : Nat) : Int)) 0 [] (a + 1) else some (none, -1)) (fun k => ?_) ?_
    · rw [spec_l7Tree.f, if_neg c, if_neg (by omega), if_pos (by omega), ← hx, w64 (n := (a : Int) + 1) (by omega) (by omega)]
    · refine Ev.bind (l7NodeS x ir (hs x hxm).1 (hs x hxm).2) ?_
      rw [List.drop_eq_getElem_cons ha', ← he]
      simp only [Sp, List.head?_cons, List.tail_cons, Option.bind_some]
      cases n : nodeAt x ir with
      | false => simp only [Bool.false_eq_true, if_false, res]; exact Ev.now _
      | true =>
        simp only [if_true]
        have h40 : x.f4.toNat ≤ 40 := by
          unfold nodeAt nodeRest at n
          simp only [Bool.and_eq_true, Bool.or_eq_true, decide_eq_true_eq] at n
          obtain ⟨_, _, n1, n2⟩ := n
          rcases n2 with h | h
          · split at n1
            · simp only [Bool.and_eq_true, beq_iff_eq] at n1; omega
            · split at n1
              · simp only [Bool.and_eq_true, beq_iff_eq] at n1; omega
              · split at n1
                · simp only [Bool.and_eq_true, beq_iff_eq] at n1; omega
                · split at n1
                  · omega
                  · cases n1
          · omega
        have := treeLoop l hl hs d a (7 - ((d + 1 : Nat) : Int)) x hx.symm (w64 (by omega) (by omega)) (fun b ir2 hb => by
          have := treeEv l hl hs d (by omega) b ir2 hb
          rw [show (7 - ((d + 1 : Nat) : Int)) + 1 = 7 - (d : Int) by omega]
          exact this) x.f4.toNat [] (a + 1) (by omega) (by simp) (by simpa using h40) (fun u hu => by cases hu)
        simpa using this
/-- What the reference's GoodValue says. -/
def sgood (l : List S61) : Bool := decide (l.length ≤ 40) && (match Sp 6 l false with | some (_, r) => r.isEmpty | none => false)
theorem ofS (l : List S61) (hl : l.length ≤ 40) (hs : ∀ x ∈ l, x.f0.size < 1000000000000 ∧ x.f3.size < 1000000000000) : Ev (fun k => spec_l7Of.f k l) ((res l.length (Sp 6 l false)).1, (res l.length (Sp 6 l false)).2 == (l.length : Int)) := by
  unfold spec_l7Of.f
  simp only [show ¬ (l.length : Int) > 40 by omega, if_false]
  have := treeEv l hl hs 6 (Nat.le_refl _) 0 false (by omega)
  simp only [List.drop_zero] at this
  exact Ev.bind this (Ev.now _)
theorem res_end (l : List S61) (v : Option (T7 × List S61)) : ((res l.length v).2 == (l.length : Int)) = (match v with | some (_, r) => r.isEmpty | none => false) := by
  cases v with
  | none => simp only [res]; exact beq_eq_false_iff_ne.mpr (by omega)
  | some v =>
    obtain ⟨t, r⟩ := v
    simp only [res]
    cases r with
    | nil => simp
    | cons y r => simp only [List.length_cons, List.isEmpty_cons]; exact beq_eq_false_iff_ne.mpr (by omega)

mutual
/-- A tree's nodes in a row. -/
def flat : T7 → List S61
  | .mk x l => x :: flats l
def flats : List T7 → List S61
  | [] => []
  | t :: l => flat t ++ flats l
end
mutual
/-- Each node has the parts that it tells. -/
def Sh : T7 → Prop
  | .mk x l => (x.f1 < 6 → l = []) ∧ (6 ≤ x.f1 → x.f4 = l.length ∧ l.length ≤ 40) ∧ Shs l
def Shs : List T7 → Prop
  | [] => True
  | t :: l => Sh t ∧ Shs l
end
def keyOk (ir : Bool) (x : S61) : Bool := (ir || x.f0.toList.isEmpty) && (R x.f0).2
/-- Is a part's key wrong behind this last one? -/
def badKey (kind : Int) (key last : ByteArray) (fst : Bool) : Bool :=
  if kind = 7 then (if (R key).2 = true then (if fst = true then false else !less last key) else true) else if kind = 6 then !key.toList.isEmpty else false
def Pl (g : T7 → Bool) (x : S61) : ByteArray → Bool → List T7 → Bool
  | _, _, [] => true
  | last, fst, t :: l => !badKey x.f1 t.x.f0 last fst && (g t && Pl g x t.x.f0 false l)
/-- What the program asks of a tree of at most so many levels. -/
def Pt : Nat → T7 → Bool
  | 0, _ => false
  | d + 1, t => nodeRest t.x && Pl (Pt d) t.x ⟨#[]⟩ true t.kids
def lastKey (acc : List T7) : ByteArray := match acc.getLast? with | some u => u.x.f0 | none => ⟨#[]⟩
theorem empty_text (s : ByteArray) (h : s.toList.isEmpty = true) : (R s).2 = true := by
  have hs : s.toList = [] := List.isEmpty_iff.1 h
  have hn : nb s = encs [] := by
    rw [ByteArray.toList_eq] at hs
    unfold nb
    rw [hs]
    rfl
  have := R_mk (s := s) (l := []) (fun n hn => by cases hn) hn (by simp)
  rw [this]
theorem key_step (x t : S61) (acc : List T7) (hk : x.f1 = 6 ∨ x.f1 = 7) : (keyOk (x.f1 == 7) t = true ∧ (x.f1 = 7 ∧ 0 < acc.length → ∃ u, acc.getLast? = some u ∧ less u.x.f0 t.f0 = true)) ↔ badKey x.f1 t.f0 (lastKey acc) acc.isEmpty = false := by
  unfold keyOk badKey
  rcases hk with h | h
  · rw [h]
    simp only [show ((6 : Int) == 7) = false from rfl, Bool.false_or, show ¬ ((6 : Int) = 7) by decide, if_false, if_true, false_and]
    constructor
    · rintro ⟨a, _⟩
      simp only [Bool.and_eq_true] at a
      rw [a.1]; rfl
    · intro a
      have a : t.f0.toList.isEmpty = true := by cases e : t.f0.toList.isEmpty <;> simp_all
      rw [a, empty_text _ a]
      exact ⟨rfl, fun h => h.elim⟩
  · rw [h]
    simp only [show ((7 : Int) == 7) = true from rfl, Bool.true_or, Bool.true_and, if_true, true_and]
    cases e : (R t.f0).2 with
    | false => simp
    | true =>
      simp only [if_true, true_and]
      rcases List.eq_nil_or_concat acc with rfl | ⟨a, u, rfl⟩
      · simp
      · simp [lastKey]
theorem Sl_iff (g : List S61 → Bool → Option (T7 × List S61)) (p : T7 → Bool) (hg : ∀ l ir t r, g l ir = some (t, r) ↔ l = flat t ++ r ∧ Sh t ∧ keyOk ir t.x = true ∧ p t = true) (x : S61) :
    ∀ (n : Nat) (acc : List T7) (l : List S61) (t : T7) (r : List S61), (n = 0 ∨ x.f1 = 6 ∨ x.f1 = 7) → (Sl g x n acc l = some (t, r) ↔ ∃ ts, ts.length = n ∧ t = .mk x (acc ++ ts) ∧ l = flats ts ++ r ∧ Shs ts ∧ Pl p x (lastKey acc) acc.isEmpty ts = true)
  | 0, acc, l, t, r, _ => by
    simp only [Sl, Option.some.injEq, Prod.mk.injEq]
    constructor
    · rintro ⟨rfl, rfl⟩; exact ⟨[], rfl, by simp, by simp [flats], by simp [Shs], rfl⟩
    · rintro ⟨ts, h1, h2, h3, _, _⟩
      obtain rfl := List.length_eq_zero_iff.1 h1
      exact ⟨by rw [h2]; simp, by rw [h3]; simp [flats]⟩
  | n + 1, acc, l, t, r, hn => by
    have hk : x.f1 = 6 ∨ x.f1 = 7 := by
      rcases hn with h | h
      · cases h
      · exact h
    have hlast : ∀ t1 : T7, lastKey (acc ++ [t1]) = t1.x.f0 ∧ (acc ++ [t1]).isEmpty = false := fun t1 => by simp [lastKey]
    constructor
    · intro h
      simp only [Sl] at h
      obtain ⟨⟨t1, r1⟩, h1, h⟩ := Option.bind_eq_some_iff.mp h
      obtain ⟨g1, g2, g3, g4⟩ := (hg _ _ _ _).1 h1
      have key : (x.f1 = 7 ∧ 0 < acc.length → ∃ u, acc.getLast? = some u ∧ less u.x.f0 t1.x.f0 = true) ∧ Sl g x n (acc ++ [t1]) r1 = some (t, r) := by
        by_cases c : x.f1 = 7 ∧ 0 < acc.length
        · rw [if_pos c] at h
          obtain ⟨u, hu, h⟩ := Option.bind_eq_some_iff.mp h
          by_cases e : less u.x.f0 t1.x.f0 = true
          · rw [if_pos e] at h; exact ⟨fun _ => ⟨u, hu, e⟩, h⟩
          · rw [if_neg e] at h; cases h
        · rw [if_neg c] at h; exact ⟨fun h => absurd h c, h⟩
      obtain ⟨ts, i1, i2, i3, i4, i5⟩ := (Sl_iff g p hg x n (acc ++ [t1]) r1 t r (Or.inr hk)).1 key.2
      refine ⟨t1 :: ts, by simp [i1], by rw [i2]; simp, by rw [g1, i3]; simp [flats], by simp only [Shs]; exact ⟨g2, i4⟩, ?_⟩
      simp only [Pl]
      rw [(key_step x t1.x acc hk).1 ⟨g3, key.1⟩, g4]
      rw [(hlast t1).1, (hlast t1).2] at i5
      rw [i5]; rfl
    · rintro ⟨ts, i1, i2, i3, i4, i5⟩
      cases ts with
      | nil => cases i1
      | cons t1 ts =>
        simp only [Pl, Bool.and_eq_true, Bool.not_eq_true'] at i5
        obtain ⟨b1, b2, b3⟩ := i5
        obtain ⟨k1, k2⟩ := (key_step x t1.x acc hk).2 b1
        simp only [Shs] at i4
        have h1 : g l (x.f1 == 7) = some (t1, flats ts ++ r) := (hg _ _ _ _).2 ⟨by rw [i3]; simp [flats], i4.1, k1, b2⟩
        have h2 : Sl g x n (acc ++ [t1]) (flats ts ++ r) = some (t, r) := (Sl_iff g p hg x n (acc ++ [t1]) _ t r (Or.inr hk)).2 ⟨ts, by simpa using i1, by rw [i2]; simp, rfl, i4.2, by rw [(hlast t1).1, (hlast t1).2]; exact b3⟩
        simp only [Sl, h1, Option.bind_some]
        by_cases c : x.f1 = 7 ∧ 0 < acc.length
        · obtain ⟨u, hu, e⟩ := k2 c
          rw [if_pos c, hu]
          simp only [Option.bind_some]
          rw [if_pos e]; exact h2
        · rw [if_neg c]; exact h2
theorem rest_kind (x : S61) (h : nodeRest x = true) : (x.f1 < 6 → x.f4 = 0) ∧ (6 ≤ x.f1 → x.f1 = 6 ∨ x.f1 = 7) := by
  unfold nodeRest at h
  split at h
  · simp only [Bool.and_eq_true, beq_iff_eq] at h; exact ⟨fun _ => h.2.2, fun _ => by omega⟩
  · split at h
    · simp only [Bool.and_eq_true, beq_iff_eq] at h; exact ⟨fun _ => h.2.2, fun _ => by omega⟩
    · split at h
      · simp only [Bool.and_eq_true, beq_iff_eq] at h; exact ⟨fun _ => h.2.2, fun _ => by omega⟩
      · split at h
        · exact ⟨fun _ => by omega, fun _ => by omega⟩
        · cases h
theorem Sp_iff : ∀ (d : Nat) (l : List S61) (ir : Bool) (t : T7) (r : List S61), Sp d l ir = some (t, r) ↔ l = flat t ++ r ∧ Sh t ∧ keyOk ir t.x = true ∧ Pt d t = true
  | 0, l, ir, t, r => by simp [Sp, Pt]
  | d + 1, l, ir, t, r => by
    have ih := Sl_iff (Sp d) (Pt d) (fun l ir t r => Sp_iff d l ir t r)
    cases t with
    | mk y kids =>
    simp only [Sp, Pt, flat, T7.x, T7.kids]
    constructor
    · intro h
      obtain ⟨x, hx, h⟩ := Option.bind_eq_some_iff.mp h
      by_cases c : nodeAt x ir = true
      · rw [if_pos c] at h
        have c' := c
        unfold nodeAt at c'
        simp only [Bool.and_eq_true, Bool.or_eq_true, decide_eq_true_eq] at c'
        obtain ⟨c1, c2, c3, c4⟩ := c'
        have hk := rest_kind x c3
        have hn : x.f4.toNat = 0 ∨ x.f1 = 6 ∨ x.f1 = 7 := by
          by_cases h6 : x.f1 < 6
          · exact Or.inl (by rw [hk.1 h6]; rfl)
          · exact Or.inr (hk.2 (by omega))
        obtain ⟨ts, i1, i2, i3, i4, i5⟩ := (ih x _ [] _ _ _ hn).1 h
        injection i2 with i2a i2b
        subst i2a
        simp only [List.nil_append] at i2b
        subst i2b
        cases l with
        | nil => cases hx
        | cons z l =>
          injection hx with hx
          subst hx
          refine ⟨by simpa using i3, ?_, ?_, ?_⟩
          · simp only [Sh]
            refine ⟨fun h6 => ?_, fun h6 => ?_, i4⟩
            · have := hk.1 h6; rw [this] at i1; exact List.length_eq_zero_iff.1 i1
            · omega
          · unfold keyOk; simp only [Bool.and_eq_true, Bool.or_eq_true]; exact ⟨c1, c2⟩
          · rw [c3]; simpa [lastKey] using i5
      · rw [if_neg c] at h; cases h
    · rintro ⟨h1, h2, h3, h4⟩
      simp only [Bool.and_eq_true] at h4
      simp only [Sh] at h2
      obtain ⟨s1, s2, s3⟩ := h2
      have hk := rest_kind y h4.1
      subst h1
      simp only [List.cons_append, List.head?_cons, List.tail_cons, Option.bind_some]
      have hat : nodeAt y ir = true := by
        unfold nodeAt
        unfold keyOk at h3
        simp only [Bool.and_eq_true, Bool.or_eq_true, decide_eq_true_eq] at h3 ⊢
        refine ⟨h3.1, h3.2, h4.1, ?_⟩
        by_cases h6 : y.f1 < 6
        · exact Or.inl h6
        · have := s2 (by omega); exact Or.inr (by omega)
      rw [if_pos hat]
      have hlen : kids.length = y.f4.toNat := by
        by_cases h6 : y.f1 < 6
        · rw [s1 h6, hk.1 h6]; rfl
        · have := s2 (by omega); omega
      have hn : y.f4.toNat = 0 ∨ y.f1 = 6 ∨ y.f1 = 7 := by
        by_cases h6 : y.f1 < 6
        · exact Or.inl (by rw [hk.1 h6]; rfl)
        · exact Or.inr (hk.2 (by omega))
      exact (ih y _ [] _ _ _ hn).2 ⟨kids, hlen, by simp, rfl, s3, by simpa [lastKey] using h4.2⟩

theorem flats_append : ∀ (a b : List T7), flats (a ++ b) = flats a ++ flats b
  | [], b => by simp [flats]
  | t :: a, b => by simp [flats, flats_append a b]
theorem Shs_append : ∀ (a b : List T7), Shs (a ++ b) ↔ Shs a ∧ Shs b
  | [], b => by simp [Shs]
  | t :: a, b => by simp [Shs, Shs_append a b, and_assoc]
/-- How many nodes so many trees take. -/
def szo : List S61 → Nat → Option Nat
  | [], o => if o = 0 then some 0 else none
  | x :: l, o => if o = 0 then some 0 else if 6 ≤ x.f1 then (if 0 ≤ x.f4 ∧ x.f4 ≤ 40 then (szo l (o - 1 + x.f4.toNat)).map (· + 1) else none) else (szo l (o - 1)).map (· + 1)
theorem szo_some : ∀ (l : List S61) (o n : Nat), szo l o = some n → ∃ ts r, ts.length = o ∧ Shs ts ∧ (flats ts).length = n ∧ l = flats ts ++ r
  | [], o, n, h => by
    simp only [szo] at h
    by_cases c : o = 0
    · rw [if_pos c] at h; injection h with h; exact ⟨[], [], by simp [c], by simp [Shs], by simp [flats, h], by simp [flats]⟩
    · rw [if_neg c] at h; cases h
  | x :: l, o, n, h => by
    simp only [szo] at h
    by_cases c : o = 0
    · rw [if_pos c] at h; injection h with h; exact ⟨[], x :: l, by simp [c], by simp [Shs], by simp [flats, h], by simp [flats]⟩
    rw [if_neg c] at h
    by_cases c6 : 6 ≤ x.f1
    · rw [if_pos c6] at h
      by_cases c7 : 0 ≤ x.f4 ∧ x.f4 ≤ 40
      · rw [if_pos c7] at h
        obtain ⟨m, hm, hmn⟩ := Option.map_eq_some_iff.1 h
        obtain ⟨ts, r, t1, t2, t3, t4⟩ := szo_some l _ m hm
        have e := (List.take_append_drop x.f4.toNat ts).symm
        have s2 := (Shs_append _ _).1 (e ▸ t2)
        have hk : (ts.take x.f4.toNat).length = x.f4.toNat := by rw [List.length_take]; omega
        have f2 : flats (ts.take x.f4.toNat) ++ flats (ts.drop x.f4.toNat) = flats ts := by rw [← flats_append, List.take_append_drop]
        refine ⟨.mk x (ts.take x.f4.toNat) :: ts.drop x.f4.toNat, r, by rw [List.length_cons, List.length_drop]; omega, ?_, ?_, ?_⟩
        · simp only [Shs, Sh]; exact ⟨⟨fun h => by omega, fun _ => ⟨by omega, by omega⟩, s2.1⟩, s2.2⟩
        · simp only [flats, flat, List.cons_append, f2, List.length_cons]; omega
        · simp only [flats, flat, List.cons_append, f2, t4]
      · rw [if_neg c7] at h; cases h
    · rw [if_neg c6] at h
      obtain ⟨m, hm, hmn⟩ := Option.map_eq_some_iff.1 h
      obtain ⟨ts, r, t1, t2, t3, t4⟩ := szo_some l _ m hm
      refine ⟨.mk x [] :: ts, r, by rw [List.length_cons]; omega, ?_, ?_, ?_⟩
      · simp only [Shs, Sh]; exact ⟨⟨fun _ => trivial, fun h => absurd h c6, trivial⟩, t2⟩
      · simp only [flats, flat, List.cons_append, List.nil_append, List.length_cons]; omega
      · simp only [flats, flat, List.cons_append, List.nil_append, t4]
theorem szo_of : ∀ (l : List S61) (ts : List T7) (r : List S61), l = flats ts ++ r → Shs ts → szo l ts.length = some (flats ts).length
  | l, [], r, h, hs => by cases l <;> simp [szo, flats]
  | [], .mk x kids :: ts, r, h, hs => by simp [flats, flat] at h
  | y :: l, .mk x kids :: ts, r, h, hs => by
    simp only [flats, flat, List.cons_append, List.cons.injEq] at h
    obtain ⟨rfl, h⟩ := h
    simp only [Shs, Sh] at hs
    obtain ⟨⟨s1, s2, s3⟩, s4⟩ := hs
    have := szo_of l (kids ++ ts) r (by rw [flats_append]; exact h) ((Shs_append _ _).2 ⟨s3, s4⟩)
    simp only [szo, List.length_cons, Nat.add_eq_zero_iff, Nat.one_ne_zero, and_false, if_false]
    by_cases c6 : 6 ≤ y.f1
    · have s2 := s2 c6
      rw [if_pos c6, if_pos ⟨by omega, by omega⟩, show ts.length + 1 - 1 + y.f4.toNat = (kids ++ ts).length by rw [List.length_append]; omega, this, flats_append]
      simp [flats, flat]
    · have s1 := s1 (by omega)
      subst s1
      rw [if_neg c6, show ts.length + 1 - 1 = ([] ++ ts : List T7).length by simp, this]
      simp [flats, flat]
theorem sizeI_l0 (l : List S61) (hl : l.length ≤ 40) : ∀ (m a o : Nat), a + m = l.length → o ≤ 100 + 40 * a → Ev (fun k => impl_sizeOf.l0 k l a o) (match szo (l.drop a) o with | some n => ((a + n : Nat) : Int) | none => 0)
  | 0, a, o, hm, ho => by
    rw [List.drop_of_length_le (by omega)]
    simp only [szo]
    by_cases c : o = 0
    · subst c
      refine Ev.step (f := fun _ => some (a : Int)) (fun k => ?_) (Ev.now _)
      simp [impl_sizeOf.l0]
    · simp only [c, if_false]
      refine Ev.step (f := fun k => impl_sizeOf.j1 k l a o true) (fun k => ?_) (Ev.step (f := fun _ => some 0) (fun k => ?_) (Ev.now _))
      · rw [impl_sizeOf.l0, if_pos (by omega), if_pos (by omega)]
      · rw [impl_sizeOf.j1, if_pos rfl]
  | m + 1, a, o, hm, ho => by
    have ha : a < l.length := by omega
    rw [List.drop_eq_getElem_cons ha]
    simp only [szo]
    by_cases c : o = 0
    · subst c
      refine Ev.step (f := fun _ => some (a : Int)) (fun k => ?_) (Ev.now _)
      simp [impl_sizeOf.l0]
    simp only [c, if_false]
    obtain ⟨x, hx⟩ : ∃ x, x = l[a] := ⟨_, rfl⟩
    have hr : rd_T61 l a = x := by rw [hx]; simp [rd_T61, List.getD_eq_getElem?_getD, ha]
    rw [← hx]
    refine Ev.step (f := fun k => impl_sizeOf.j1 k l a o false) (fun k => ?_) ?_
    · rw [impl_sizeOf.l0, if_pos (by omega), if_neg (by omega), beq_eq_false_iff_ne.mpr (show (a : Int) ≠ 40 by omega)]
    by_cases c6 : 6 ≤ x.f1
    · simp only [c6, if_true]
      by_cases c7 : 0 ≤ x.f4 ∧ x.f4 ≤ 40
      · have ih := sizeI_l0 l hl m (a + 1) (o - 1 + x.f4.toNat) (by omega) (by omega)
        refine Ev.step (f := fun k => impl_sizeOf.l0 k l ((a + 1 : Nat) : Int) ((o - 1 + x.f4.toNat : Nat) : Int)) (fun k => ?_) ?_
        · rw [impl_sizeOf.j1, if_neg (by decide), if_pos (by omega), if_pos (by omega), hr, if_pos c6, withinI, decide_eq_true c7]
          simp only [Option.bind_some, if_true]
          rw [w64 (n := (a : Int) + 1) (by omega) (by omega), w64 (n := (o : Int) + x.f4) (by omega) (by omega), w64 (by omega) (by omega)]
          congr 1; omega
        · simp only [c7, and_self, if_true]
          refine Ev.congr (fun k => rfl) ?_
          cases e : szo (l.drop (a + 1)) (o - 1 + x.f4.toNat) with
          | none => rw [e] at ih; exact ih
          | some n => rw [e] at ih; simp only [Option.map_some] at ih ⊢; rw [show a + (n + 1) = a + 1 + n by omega]; exact ih
      · refine Ev.step (f := fun _ => some 0) (fun k => ?_) (by simp only [c7, if_false]; exact Ev.now _)
        rw [impl_sizeOf.j1, if_neg (by decide), if_pos (by omega), if_pos (by omega), hr, if_pos c6, withinI, decide_eq_false c7]
        rfl
    · simp only [c6, if_false]
      have ih := sizeI_l0 l hl m (a + 1) (o - 1) (by omega) (by omega)
      refine Ev.step (f := fun k => impl_sizeOf.l0 k l ((a + 1 : Nat) : Int) ((o - 1 : Nat) : Int)) (fun k => ?_) ?_
      · rw [impl_sizeOf.j1, if_neg (by decide), if_pos (by omega), if_pos (by omega), hr, if_neg c6]
        rw [w64 (n := (a : Int) + 1) (by omega) (by omega), w64 (n := (o : Int) - 1) (by omega) (by omega)]
        congr 1; omega
      · cases e : szo (l.drop (a + 1)) (o - 1) with
        | none => rw [e] at ih; exact ih
        | some n => rw [e] at ih; simp only [Option.map_some] at ih ⊢; rw [show a + (n + 1) = a + 1 + n by omega]; exact ih
theorem sizeI (l : List S61) (hl : l.length ≤ 40) : Ev (fun k => impl_sizeOf.f k l) (match szo l 1 with | some n => (n : Int) | none => 0) := by
  unfold impl_sizeOf.f
  have := sizeI_l0 l hl l.length 0 1 (by omega) (by omega)
  simpa using this

theorem flat_pos : ∀ (t : T7), 0 < (flat t).length
  | .mk x l => by simp [flat]
theorem flat_head (t : T7) : rd_T61 (flat t) 0 = t.x := by cases t; simp [flat, rd_T61, T7.x]
theorem partsI_l0 : ∀ (ts : List T7) (acc : List (List S61)), Shs ts → (flats ts).length ≤ 40 → acc.length + ts.length ≤ 100 → Ev (fun k => impl_partsOf.l0 k acc (flats ts)) (acc ++ ts.map flat)
  | [], acc, _, _, _ => by
    refine Ev.step (f := fun _ => some acc) (fun k => ?_) (by simpa using Ev.now _)
    simp [impl_partsOf.l0, flats]
  | t :: ts, acc, hs, hl, ha => by
    have hp := flat_pos t
    simp only [Shs] at hs
    simp only [flats, List.length_append] at hl
    rw [List.length_cons] at ha
    have hz : szo (flat t ++ flats ts) 1 = some (flat t).length := by
      have := szo_of (flat t ++ flats ts) [t] (flats ts) (by simp [flats]) (by simp [Shs, hs.1])
      simpa [flats] using this
    have h1 := sizeI (flat t ++ flats ts) (by rw [List.length_append]; exact hl)
    rw [hz] at h1
    have ih := partsI_l0 ts (acc ++ [flat t]) hs.2 (by omega) (by rw [List.length_append, List.length_singleton]; omega)
    refine Ev.step (f := fun k => (impl_sizeOf.f k (flat t ++ flats ts)).bind fun n => (if 0 ≤ n then (if n ≤ ((flat t ++ flats ts).length : Int) then (if acc.length < 5864062014805 then (impl_partsOf.l0 k (acc ++ [((flat t ++ flats ts).take (n : Int).toNat)]) ((flat t ++ flats ts).drop (n : Int).toNat)) else (none)) else (none)) else (none))) (fun k => ?_) ?_
    · rw [impl_partsOf.l0, flats, if_pos (by rw [List.length_append]; omega)]
    · refine Ev.bind h1 ?_
      simp only [Int.toNat_natCast, List.take_left, List.drop_left]
      simp only [show (0 : Int) ≤ ((flat t).length : Int) by omega, show ((flat t).length : Int) ≤ ((flat t ++ flats ts).length : Int) by rw [List.length_append]; omega, show acc.length < 5864062014805 by omega, if_true]
      simpa using ih
theorem partsI (x : S61) (kids : List T7) (hs : Shs kids) (hl : (flats kids).length ≤ 40) (hk : kids.length ≤ 40) : Ev (fun k => impl_partsOf.f k (flat (.mk x kids))) (kids.map flat) := by
  unfold impl_partsOf.f
  simp only [flat, List.length_cons, List.drop_succ_cons, List.drop_zero]
  have := partsI_l0 kids [] hs hl (by simp; omega)
  rw [List.nil_append] at this
  simp only [show (1 : Int) ≤ (((flats kids).length + 1 : Nat) : Int) by omega, if_true]
  exact this
theorem badI (kind : Int) (key last : ByteArray) (i : Int) (h1 : key.size < 1000000000000) (h2 : last.size < 1000000000000) (ht : kind = 7 → 0 < i → (R last).2 = true) : Ev (fun k => impl_isPart.bad k kind key last i) (badKey kind key last (decide (i ≤ 0))) := by
  unfold impl_isPart.bad badKey
  by_cases c : kind = 7
  · simp only [c, if_true]
    refine Ev.bind (isTextI key h1) ?_
    cases e : (R key).2 with
    | false => simp only [Bool.false_eq_true, if_false]; exact Ev.now _
    | true =>
      simp only [if_true]
      by_cases d : 0 < i
      · obtain ⟨v, e1, e2⟩ := cmpKeyI last key h2 h1 (ht c d) e
        simp only [d, if_true, decide_eq_false (show ¬ i ≤ 0 by omega), Bool.false_eq_true, if_false]
        rw [← e2]
        exact Ev.bind e1 (Ev.now _)
      · simp only [d, if_false, decide_eq_true (show i ≤ 0 by omega), if_true]; exact Ev.now _
  · simp only [c, if_false]
    by_cases d : kind = 6
    · simp only [d, if_true]; exact Ev.now _
    · simp only [d, if_false]; exact Ev.now _
theorem partLoop (l : List S61) (x : S61) (hx : rd_T61 l 0 = x) (dp : Int) (hdp : wrap64 (dp + 1) = dp + 1) (kids : List T7) (hk : kids.length ≤ 40) (hs : ∀ t ∈ kids, t.x.f0.size < 1000000000000) (g : T7 → Bool) (ih : ∀ t ∈ kids, Ev (fun k => impl_isPart.f k (flat t) (dp + 1)) (g t)) :
    ∀ (rest pre : List T7) (last : ByteArray), kids = pre ++ rest → last.size < 1000000000000 → (x.f1 = 7 → pre ≠ [] → (R last).2 = true) → Ev (fun k => impl_isPart.l k l dp (kids.map flat) last pre.length) (Pl g x last pre.isEmpty rest)
  | [], pre, last, e, _, _ => by
    refine Ev.step (f := fun _ => some true) (fun k => ?_) (by simp only [Pl]; exact Ev.now _)
    rw [impl_isPart.l, if_neg (by rw [e]; simp)]
  | t :: rest, pre, last, e, hlast, htx => by
    have htm : t ∈ kids := by rw [e]; simp
    have hlen : kids.length = pre.length + (rest.length + 1) := by rw [e]; simp
    have hr : rd_L5 (kids.map flat) pre.length = flat t := by rw [e]; simp [rd_L5, List.getD_eq_getElem?_getD]
    have hp := flat_pos t
    refine Ev.step (f := fun k => (impl_isPart.bad k x.f1 t.x.f0 last pre.length).bind fun b => if b = true then some false else (impl_isPart.f k (flat t) (dp + 1)).bind fun b => if b = true then impl_isPart.l k l dp (kids.map flat) t.x.f0 (pre.length + 1) else some false) (fun k => ?_) ?_
    · rw [impl_isPart.l, if_pos (by rw [List.length_map]; omega), hr, if_pos (by omega), hx, flat_head, hdp]
    · refine Ev.bind (badI x.f1 t.x.f0 last pre.length (hs t htm) hlast (fun h7 hi => htx h7 (by intro h; rw [h] at hi; simp at hi))) ?_
      have hf : decide ((pre.length : Int) ≤ 0) = pre.isEmpty := by cases pre <;> simp
      rw [hf]
      simp only [Pl]
      cases hb : badKey x.f1 t.x.f0 last pre.isEmpty with
      | true => simp only [if_true, Bool.not_true, Bool.false_and]; exact Ev.now _
      | false =>
        simp only [Bool.false_eq_true, if_false, Bool.not_false, Bool.true_and]
        refine Ev.bind (ih t htm) ?_
        cases g t with
        | false => simp only [Bool.false_eq_true, if_false, Bool.false_and]; exact Ev.now _
        | true =>
          simp only [if_true, Bool.true_and]
          have := partLoop l x hx dp hdp kids hk hs g ih rest (pre ++ [t]) t.x.f0 (by rw [e]; simp) (hs t htm) (fun h7 _ => by
            unfold badKey at hb
            rw [if_pos h7] at hb
            cases e : (R t.x.f0).2 with
            | true => rfl
            | false => rw [e] at hb; simp at hb)
          rw [show (pre ++ [t]).isEmpty = false by cases pre <;> rfl, List.length_append, List.length_singleton, show ((pre.length + 1 : Nat) : Int) = (pre.length : Int) + 1 by omega] at this
          exact this
theorem flats_mem {t : T7} : ∀ {ts : List T7}, t ∈ ts → (flat t).length ≤ (flats ts).length ∧ (∀ y ∈ flat t, y ∈ flats ts)
  | a :: ts, h => by
    rcases List.mem_cons.1 h with rfl | h
    · simp only [flats, List.length_append]; exact ⟨by omega, fun y hy => List.mem_append_left _ hy⟩
    · obtain ⟨h1, h2⟩ := flats_mem h
      simp only [flats, List.length_append]; exact ⟨by omega, fun y hy => List.mem_append_right _ (h2 y hy)⟩
theorem Shs_mem {t : T7} : ∀ {ts : List T7}, Shs ts → t ∈ ts → Sh t
  | a :: ts, h, hm => by
    simp only [Shs] at h
    rcases List.mem_cons.1 hm with rfl | hm
    · exact h.1
    · exact Shs_mem h.2 hm
theorem flats_len : ∀ (ts : List T7), ts.length ≤ (flats ts).length
  | [] => by simp [flats]
  | t :: ts => by have := flats_len ts; have := flat_pos t; simp only [flats, List.length_append, List.length_cons]; omega
theorem partI : ∀ (d : Nat), d ≤ 6 → ∀ (t : T7), Sh t → (flat t).length ≤ 40 → (∀ y ∈ flat t, y.f0.size < 1000000000000 ∧ y.f3.size < 1000000000000) → Ev (fun k => impl_isPart.f k (flat t) (7 - d)) (Pt d t)
  | 0, _, t, _, _, _ => by
    refine Ev.step (f := fun _ => some false) (fun k => ?_) (by simp only [Pt]; exact Ev.now _)
    rw [impl_isPart.f, if_pos (by omega)]
  | d + 1, hd, .mk x kids, hsh, hl, hs => by
    simp only [Sh] at hsh
    have hp := flat_pos (.mk x kids)
    have hx := flat_head (.mk x kids)
    simp only [T7.x] at hx
    have hxs := hs x (by simp [flat])
    have hfl : (flats kids).length ≤ 40 := by simp only [flat, List.length_cons] at hl; omega
    have hkl : kids.length ≤ 40 := Nat.le_trans (flats_len kids) hfl
    refine Ev.step (f := fun k => (impl_isNode.f k x.f0 x.f1 x.f2 x.f3 x.f4).bind fun b => if b = true then (impl_partsOf.f k (flat (.mk x kids))).bind fun ps => if ps.length < 1000000 then impl_isPart.l k (flat (.mk x kids)) (7 - ((d + 1 : Nat) : Int)) ps ⟨#[]⟩ 0 else none else some false) (fun k => ?_) ?_
    · rw [impl_isPart.f, if_neg (by omega), if_pos (by omega), hx]
    · refine Ev.bind (isNodeI x hxs.2) ?_
      simp only [Pt, T7.x, T7.kids]
      cases nodeRest x with
      | false => simp only [Bool.false_eq_true, if_false, Bool.false_and]; exact Ev.now _
      | true =>
        simp only [if_true, Bool.true_and]
        refine Ev.bind (partsI x kids hsh.2.2 hfl hkl) ?_
        simp only [List.length_map, show kids.length < 1000000 by omega, if_true]
        have hin : ∀ t ∈ kids, ∀ y ∈ flat t, y.f0.size < 1000000000000 ∧ y.f3.size < 1000000000000 := fun t ht y hy => hs y (by simp only [flat]; exact List.mem_cons_of_mem _ ((flats_mem ht).2 y hy))
        have := partLoop (flat (.mk x kids)) x hx (7 - ((d + 1 : Nat) : Int)) (w64 (by omega) (by omega)) kids hkl (fun t ht => (hin t ht t.x (by cases t; simp [flat, T7.x])).1) (Pt d) (fun t ht => by
          have := partI d (by omega) t (Shs_mem hsh.2.2 ht) (Nat.le_trans (flats_mem ht).1 hfl) (hin t ht)
          rw [show (7 - ((d + 1 : Nat) : Int)) + 1 = 7 - (d : Int) by omega]
          exact this) kids [] ⟨#[]⟩ rfl (by decide) (fun _ h => absurd rfl h)
        simpa using this
mutual
theorem flat_inj' : ∀ (t u : T7) (a b : List S61), Sh t → Sh u → flat t ++ a = flat u ++ b → t = u ∧ a = b
  | .mk x l, .mk y m, a, b, h1, h2, e => by
    simp only [flat, List.cons_append, List.cons.injEq] at e
    obtain ⟨rfl, e⟩ := e
    simp only [Sh] at h1 h2
    have hlen : l.length = m.length := by
      by_cases c : x.f1 < 6
      · rw [h1.1 c, h2.1 c]
      · have := h1.2.1 (by omega); have := h2.2.1 (by omega); omega
    obtain ⟨e1, e2⟩ := flats_inj' l m a b h1.2.2 h2.2.2 hlen e
    exact ⟨by rw [e1], e2⟩
theorem flats_inj' : ∀ (t u : List T7) (a b : List S61), Shs t → Shs u → t.length = u.length → flats t ++ a = flats u ++ b → t = u ∧ a = b
  | [], [], a, b, _, _, _, e => ⟨rfl, by simpa [flats] using e⟩
  | [], y :: m, a, b, _, _, hl, _ => by simp at hl
  | x :: l, [], a, b, _, _, hl, _ => by simp at hl
  | x :: l, y :: m, a, b, h1, h2, hl, e => by
    simp only [flats, List.append_assoc] at e
    simp only [Shs] at h1 h2
    obtain ⟨e1, e2⟩ := flat_inj' x y _ _ h1.1 h2.1 e
    obtain ⟨e3, e4⟩ := flats_inj' l m a b h1.2 h2.2 (by simpa using hl) e2
    exact ⟨by rw [e1, e3], e4⟩
end
theorem flat_inj (t u : T7) (h1 : Sh t) (h2 : Sh u) (e : flat t = flat u) : t = u := (flat_inj' t u [] [] h1 h2 (by rw [List.append_nil, List.append_nil]; exact e)).1

/-- What the program's isValue says. -/
theorem isValueI (l : List S61) (hs : ∀ x ∈ l, x.f0.size < 1000000000000 ∧ x.f3.size < 1000000000000) (h62 : l.length < 1000000000000) : Ev (fun k => impl_isValue.f k l) (sgood l) := by
  unfold impl_isValue.f
  simp only [withinI, Option.bind_some]
  by_cases c : (1 : Int) ≤ l.length ∧ (l.length : Int) ≤ 40
  · rw [decide_eq_true c]
    simp only [if_true]
    have hl : l.length ≤ 40 := by omega
    refine Ev.bind (sizeI l hl) ?_
    cases e : szo l 1 with
    | none =>
      simp only [show ¬ (0 : Int) = l.length by omega, if_false]
      have : sgood l = false := by
        unfold sgood
        rw [decide_eq_true hl, Bool.true_and]
        cases f : Sp 6 l false with
        | none => rfl
        | some v =>
          obtain ⟨t, r⟩ := v
          obtain ⟨s1, s2, _, _⟩ := (Sp_iff _ _ _ _ _).1 f
          have := szo_of l [t] r (by rw [s1]; simp [flats]) (by simp [Shs, s2])
          simp [e] at this
      rw [this]; exact Ev.now _
    | some n =>
      obtain ⟨ts, r, t1, t2, t3, t4⟩ := szo_some l 1 n e
      obtain ⟨t, rfl⟩ := List.length_eq_one_iff.1 t1
      have t3 : (flat t).length = n := by simpa [flats] using t3
      have t4 : l = flat t ++ r := by simpa [flats] using t4
      have t2 : Sh t := by simpa [Shs] using t2
      have hll : l.length = n + r.length := by rw [t4, List.length_append, t3]
      simp only
      by_cases hn : (n : Int) = l.length
      · simp only [if_pos hn]
        have hr : r = [] := List.length_eq_zero_iff.1 (by omega)
        subst hr
        rw [List.append_nil] at t4
        have hx : rd_T61 l 0 = t.x := by rw [t4]; exact flat_head t
        simp only [if_pos (show 0 < (l.length : Int) by omega), hx]
        have sg : sgood l = (keyOk false t.x && Pt 6 t) := by
          unfold sgood
          rw [decide_eq_true hl, Bool.true_and]
          cases k1 : keyOk false t.x && Pt 6 t with
          | true =>
            simp only [Bool.and_eq_true] at k1
            rw [(Sp_iff 6 l false t []).2 ⟨by rw [t4]; simp, t2, k1.1, k1.2⟩]; rfl
          | false =>
            cases f : Sp 6 l false with
            | none => rfl
            | some v =>
              obtain ⟨t', r⟩ := v
              cases r with
              | cons y r => rfl
              | nil =>
                obtain ⟨s1, s2, s3, s4⟩ := (Sp_iff _ _ _ _ _).1 f
                exfalso
                have : t' = t := flat_inj t' t s2 t2 (by rw [← t4, s1]; simp)
                subst this
                rw [s3, s4] at k1; cases k1
        rw [sg]
        unfold keyOk
        rw [Bool.false_or]
        by_cases ke : t.x.f0.toList = ([] : List UInt8)
        · have ke' := (isEmpty_iff _).1 ke
          simp only [if_pos ke]
          rw [ke', empty_text _ ke', Bool.true_and, Bool.true_and, t4]
          refine Ev.bind (partI 6 (Nat.le_refl _) t t2 (by omega) (by rw [← t4]; exact hs)) (Ev.now _)
        · have ke' : t.x.f0.toList.isEmpty = false := by cases e : t.x.f0.toList.isEmpty with | false => rfl | true => exact absurd ((isEmpty_iff _).2 e) ke
          simp only [if_neg ke]
          rw [ke', Bool.false_and, Bool.false_and]; exact Ev.now _
      · simp only [if_neg hn]
        have : sgood l = false := by
          unfold sgood
          rw [decide_eq_true hl, Bool.true_and]
          cases f : Sp 6 l false with
          | none => rfl
          | some v =>
            obtain ⟨t', r'⟩ := v
            obtain ⟨s1, s2, _, _⟩ := (Sp_iff _ _ _ _ _).1 f
            have := szo_of l [t'] r' (by rw [s1]; simp [flats]) (by simp [Shs, s2])
            rw [List.length_singleton, e] at this
            injection this with this
            cases r' with
            | nil => exfalso; rw [s1] at hn; simp [flats] at this; simp at hn; omega
            | cons y r' => rfl
        rw [this]; exact Ev.now _
  · rw [decide_eq_false c]
    simp only [Bool.false_eq_true, if_false, Option.bind_some]
    have : sgood l = false := by
      unfold sgood
      by_cases h : l.length ≤ 40
      · have : l = [] := List.length_eq_zero_iff.1 (by omega)
        subst this
        rfl
      · rw [decide_eq_false h]; rfl
    rw [this]; exact Ev.now _

/-- Pieces behind what stands, a comma between two. -/
def cat (first : Bool) (s : ByteArray) : List ByteArray → ByteArray
  | [] => s
  | p :: ps => cat false ((if first then s else s ++ ⟨#[44]⟩) ++ p) ps
def wrp (kind : Int) (j : ByteArray) : ByteArray := if kind = 7 then ⟨#[123]⟩ ++ j ++ ⟨#[125]⟩ else ⟨#[91]⟩ ++ j ++ ⟨#[93]⟩
mutual
/-- A tree's text. -/
def tx : T7 → ByteArray
  | .mk x l => if x.f1 = 1 then ⟨#[110, 117, 108, 108]⟩ else if x.f1 = 2 then ⟨#[102, 97, 108, 115, 101]⟩ else if x.f1 = 3 then ⟨#[116, 114, 117, 101]⟩ else if x.f1 = 4 then ⟨(Lib.itoa x.f2).toArray⟩ else if x.f1 = 5 then qt x.f3 else wrp x.f1 (cat true ⟨#[]⟩ (txs x.f1 l))
def txs (kind : Int) : List T7 → List ByteArray
  | [] => []
  | t :: l => (if kind = 7 then qt t.x.f0 ++ (⟨#[58]⟩ : ByteArray) ++ tx t else tx t) :: txs kind l
end
theorem txs_length (kind : Int) : ∀ l : List T7, (txs kind l).length = l.length
  | [] => rfl
  | t :: l => by rw [txs, List.length_cons, List.length_cons, txs_length kind l]
theorem txs_map (kind : Int) : ∀ l : List T7, txs kind l = l.map fun t => if kind = 7 then qt t.x.f0 ++ (⟨#[58]⟩ : ByteArray) ++ tx t else tx t
  | [] => rfl
  | t :: l => by rw [txs, List.map_cons, txs_map kind l]
/-- How long a row of pieces is, with its commas. -/
def lens : List ByteArray → Nat
  | [] => 0
  | p :: ps => 1 + p.size + lens ps
theorem cat_size : ∀ (ps : List ByteArray) (f : Bool) (s : ByteArray), (cat f s ps).size ≤ s.size + lens ps
  | [], f, s => by simp [cat, lens]
  | p :: ps, f, s => by
    have := cat_size ps false ((if f then s else s ++ ⟨#[44]⟩) ++ p)
    rw [ByteArray.size_append] at this
    simp only [cat, lens]
    cases f with
    | true => simp only [if_true] at this ⊢; omega
    | false => simp only [Bool.false_eq_true, if_false, ByteArray.size_append, show (⟨#[44]⟩ : ByteArray).size = 1 from rfl] at this ⊢; omega
/-- What bounds a text: so much for each node. -/
def TB : Nat := 30000000
theorem itoa_size (n : Int) (h0 : -9007199254740991 ≤ n) (h1 : n ≤ 9007199254740991) : (Lib.itoa n).length ≤ 20 := by
  have hd : ∀ m : Nat, m ≤ 9007199254740991 → (Lib.decDigits m).length ≤ 17 := by
    have h : ∀ (d m : Nat), m < 10 ^ (d + 1) → (Lib.decDigits m).length ≤ d + 1 := by
      intro d
      induction d with
      | zero => intro m hm; rw [Lib.decDigits, dif_pos (by omega)]; simp
      | succ d ih =>
        intro m hm
        rw [Lib.decDigits]
        by_cases c : m < 10
        · rw [dif_pos c]; simp
        · rw [dif_neg c]
          have := ih (m / 10) (by rw [Nat.div_lt_iff_lt_mul (by omega)]; rw [Nat.pow_succ] at hm; exact hm)
          simp only [List.length_append, List.length_cons, List.length_nil]
          omega
    intro m hm
    have := h 16 m (by have : (10 : Nat) ^ 17 = 100000000000000000 := by decide
                       omega)
    omega
  unfold Lib.itoa
  by_cases c : n < 0
  · rw [if_pos c, List.length_cons]; have := hd n.natAbs (by omega); omega
  · rw [if_neg c]; have := hd n.toNat (by omega); omega
/-- The nodes whose numbers and texts are small. -/
def Lit (y : S61) : Prop := y.f0.size ≤ 2000000 ∧ y.f3.size ≤ 2000000 ∧ (y.f1 = 4 → -9007199254740991 ≤ y.f2 ∧ y.f2 ≤ 9007199254740991) ∧ (y.f1 ≠ 1 → y.f1 ≠ 2 → y.f1 ≠ 3 → y.f1 ≠ 4 → y.f1 ≠ 5 → y.f1 ≠ 7 → y.f1 = 6)
mutual
theorem tx_size : ∀ (t : T7), (∀ y ∈ flat t, Lit y) → (tx t).size + 15000000 ≤ (flat t).length * TB
  | .mk x l, h => by
    have hx := h x (by simp [flat])
    have hl := txs_size x.f1 l (fun y hy => h y (by simp [flat, hy]))
    have hc := cat_size (txs x.f1 l) true ⟨#[]⟩
    have hq := qt_size x.f3
    have h2 := hx.2.1
    simp only [flat, List.length_cons, tx]
    unfold TB at hl ⊢
    have e0 : (⟨#[]⟩ : ByteArray).size = 0 := rfl
    by_cases c1 : x.f1 = 1
    · rw [if_pos c1]; show 4 + 15000000 ≤ _; omega
    rw [if_neg c1]
    by_cases c2 : x.f1 = 2
    · rw [if_pos c2]; show 5 + 15000000 ≤ _; omega
    rw [if_neg c2]
    by_cases c3 : x.f1 = 3
    · rw [if_pos c3]; show 4 + 15000000 ≤ _; omega
    rw [if_neg c3]
    by_cases c4 : x.f1 = 4
    · rw [if_pos c4, ba_size]
      have := itoa_size x.f2 (hx.2.2.1 c4).1 (hx.2.2.1 c4).2
      omega
    rw [if_neg c4]
    by_cases c5 : x.f1 = 5
    · rw [if_pos c5]; omega
    rw [if_neg c5]
    unfold wrp
    have w1 : (⟨#[123]⟩ : ByteArray).size = 1 := rfl
    have w2 : (⟨#[125]⟩ : ByteArray).size = 1 := rfl
    have w3 : (⟨#[91]⟩ : ByteArray).size = 1 := rfl
    have w4 : (⟨#[93]⟩ : ByteArray).size = 1 := rfl
    by_cases c7 : x.f1 = 7
    · rw [if_pos c7]; simp only [ByteArray.size_append, w1, w2]; omega
    · rw [if_neg c7]; simp only [ByteArray.size_append, w3, w4]; omega
theorem txs_size (kind : Int) : ∀ (l : List T7), (∀ y ∈ flats l, Lit y) → lens (txs kind l) ≤ (flats l).length * TB
  | [], h => by simp [txs, lens]
  | t :: l, h => by
    have h1 := tx_size t (fun y hy => h y (by simp [flats, hy]))
    have h2 := txs_size kind l (fun y hy => h y (by simp [flats, hy]))
    have hr := (h t.x (by cases t; simp [flats, flat, T7.x])).1
    have hq := qt_size t.x.f0
    have w : (⟨#[58]⟩ : ByteArray).size = 1 := rfl
    simp only [txs, lens, flats, List.length_append, List.length_cons]
    unfold TB at h1 h2 ⊢
    by_cases c : kind = 7
    · rw [if_pos c]; simp only [ByteArray.size_append, w]; omega
    · rw [if_neg c]; omega
end

theorem flats_in {y : S61} : ∀ {l : List T7}, y ∈ flats l → ∃ t ∈ l, y ∈ flat t
  | [], h => by simp [flats] at h
  | t :: l, h => by
    rw [flats, List.mem_append] at h
    rcases h with h | h
    · exact ⟨t, by simp, h⟩
    · obtain ⟨u, hu, hy⟩ := flats_in h
      exact ⟨u, by simp [hu], hy⟩
theorem Pl_mem (g : T7 → Bool) (x : S61) : ∀ (l : List T7) (last : ByteArray) (fst : Bool), Pl g x last fst l = true → ∀ t ∈ l, g t = true
  | [], _, _, _, t, ht => by cases ht
  | u :: l, last, fst, h, t, ht => by
    simp only [Pl, Bool.and_eq_true] at h
    rcases List.mem_cons.1 ht with rfl | ht
    · exact h.2.1
    · exact Pl_mem g x l _ _ h.2.2 t ht
theorem Pt_nodes : ∀ (d : Nat) (t : T7), Pt d t = true → ∀ y ∈ flat t, nodeRest y = true
  | 0, _, h, _, _ => by cases h
  | d + 1, .mk x l, h, y, hy => by
    simp only [Pt, Bool.and_eq_true, T7.x, T7.kids] at h
    simp only [flat, List.mem_cons] at hy
    rcases hy with rfl | hy
    · exact h.1
    · obtain ⟨u, hu, hy⟩ := flats_in hy
      exact Pt_nodes d u (Pl_mem _ _ _ _ _ h.2 u hu) y hy
theorem rest_lit (y : S61) (h : nodeRest y = true) (h0 : y.f0.size ≤ 2000000) (h3 : y.f3.size ≤ 2000000) : Lit y := by
  refine ⟨h0, h3, fun c => ?_, fun c1 c2 c3 c4 c5 c7 => ?_⟩
  · unfold nodeRest at h
    rw [if_neg (by omega), if_pos c] at h
    simp only [Bool.and_eq_true, decide_eq_true_eq] at h
    exact h.1
  · unfold nodeRest at h
    rw [if_neg (by omega), if_neg c4, if_neg c5] at h
    by_cases c : y.f1 = 6 ∨ y.f1 = 7
    · omega
    · rw [if_neg c] at h; cases h
/-- One part's text behind its key. -/
def piece (kind : Int) (t : T7) : ByteArray := if kind = 7 then qt t.x.f0 ++ (⟨#[58]⟩ : ByteArray) ++ tx t else tx t
theorem textLoopS (kind : Int) (ks : List T7) (hk : ks.length ≤ 40) (hl : ∀ t ∈ ks, t.x.f0.size ≤ 2000000) (ih : ∀ t ∈ ks, Ev (fun k => spec_l7Text.f k t) (tx t)) : ∀ (rest pre : List T7) (s : ByteArray), ks = pre ++ rest → s.size + lens (txs kind rest) ≤ 100000000000 →
    Ev (fun k => spec_l7Text.l k kind ks s pre.length) (wrp kind (cat pre.isEmpty s (txs kind rest)))
  | [], pre, s, e, hs => by
    refine Ev.step (f := fun _ => some (wrp kind (cat pre.isEmpty s (txs kind [])))) (fun k => ?_) (Ev.now _)
    simp only [txs, lens, cat] at hs ⊢
    rw [spec_l7Text.l, if_neg (by rw [e]; simp), if_pos (by omega)]
    unfold wrp
    by_cases c : kind = 7
    · rw [if_pos c, if_pos c]
    · rw [if_neg c, if_neg c]
  | t :: rest, pre, s, e, hs => by
    have htm : t ∈ ks := by rw [e]; simp
    have hg : ks[pre.length]? = some t := by rw [e]; simp
    have hlen : ks.length = pre.length + (rest.length + 1) := by rw [e]; simp
    have hks := hl t htm
    have hq := qt_size t.x.f0
    obtain ⟨s1, hs1⟩ : ∃ s1, s1 = if pre.isEmpty = true then s else s ++ ⟨#[44]⟩ := ⟨_, rfl⟩
    have e44 : (⟨#[44]⟩ : ByteArray).size = 1 := rfl
    have e58 : (⟨#[58]⟩ : ByteArray).size = 1 := rfl
    have hz1 : s1.size ≤ s.size + 1 := by
      rw [hs1]
      cases pre.isEmpty with
      | true => simp
      | false => simp only [Bool.false_eq_true, if_false, ByteArray.size_append, e44]; omega
    have hp : lens (txs kind (t :: rest)) = 1 + (piece kind t).size + lens (txs kind rest) := by simp only [txs, lens, piece]
    have hcat : cat pre.isEmpty s (txs kind (t :: rest)) = cat (pre ++ [t]).isEmpty (s1 ++ piece kind t) (txs kind rest) := by
      have hf : (pre ++ [t]).isEmpty = false := by cases pre <;> rfl
      rw [hs1, hf]
      simp only [txs, cat, piece]
    have next := textLoopS kind ks hk hl ih rest (pre ++ [t]) (s1 ++ piece kind t) (by rw [e]; simp) (by rw [ByteArray.size_append]; omega)
    rw [← hcat, List.length_append, List.length_singleton, show ((pre.length + 1 : Nat) : Int) = (pre.length : Int) + 1 by omega] at next
    have hif : (if 0 < (pre.length : Int) then s ++ (⟨#[44]⟩ : ByteArray) else s) = s1 := by
      rw [hs1]
      cases pre with
      | nil => simp
      | cons a l => simp only [List.isEmpty_cons, Bool.false_eq_true, if_false]; rw [if_pos (by simp only [List.length_cons]; omega)]
    refine Ev.step (f := fun k => (if kind = 7 then (spec_l7Quote.f k t.x.f0).bind fun q => if q.size + 1 ≤ 9223372036854775807 ∧ s1.size + (q.size + 1) ≤ 9223372036854775807 then some (s1 ++ (q ++ ⟨#[58]⟩)) else none else some s1).bind fun s2 => (spec_l7Text.f k t).bind fun r => if s2.size + r.size ≤ 9223372036854775807 then spec_l7Text.l k kind ks (s2 ++ r) ((pre.length : Int) + 1) else none) (fun k => ?_) ?_
    · rw [spec_l7Text.l, if_pos (by omega), Int.toNat_natCast, hg, Option.bind_some, if_pos (by omega), hif]
    · by_cases c : kind = 7
      · simp only [c, if_true]
        rw [c] at next hp hs
        have hpz : (piece 7 t).size = (qt t.x.f0).size + 1 + (tx t).size := by unfold piece; rw [if_pos rfl]; simp only [ByteArray.size_append, e58]
        refine Ev.bind (a := s1 ++ (qt t.x.f0 ++ (⟨#[58]⟩ : ByteArray))) (Ev.bind (quoteS t.x.f0 hks) ?_) ?_
        · simp only [show (qt t.x.f0).size + 1 ≤ 9223372036854775807 ∧ s1.size + ((qt t.x.f0).size + 1) ≤ 9223372036854775807 from ⟨by omega, by omega⟩, and_self, if_true]; exact Ev.now _
        · refine Ev.bind (ih t htm) ?_
          simp only [ByteArray.size_append, e58, show s1.size + ((qt t.x.f0).size + 1) + (tx t).size ≤ 9223372036854775807 from by omega, if_true]
          have : s1 ++ (qt t.x.f0 ++ (⟨#[58]⟩ : ByteArray)) ++ tx t = s1 ++ piece 7 t := by unfold piece; rw [if_pos rfl]; simp only [ByteArray.append_assoc]
          rw [this]
          exact next
      · simp only [c, if_false]
        have hpz : piece kind t = tx t := by unfold piece; rw [if_neg c]
        rw [hpz] at next hp
        refine Ev.bind (Ev.now s1) (Ev.bind (ih t htm) ?_)
        simp only [show s1.size + (tx t).size ≤ 9223372036854775807 from by omega, if_true]
        exact next
theorem textS : ∀ (n : Nat) (t : T7), Sh t → (∀ y ∈ flat t, Lit y) → (flat t).length ≤ n → n ≤ 40 → Ev (fun k => spec_l7Text.f k t) (tx t)
  | 0, t, _, _, h, _ => by have := flat_pos t; omega
  | n + 1, .mk x kids, hsh, hy, h, hn => by
    have h' := h
    simp only [flat, List.length_cons] at h'
    simp only [Sh] at hsh
    have hfl := flats_len kids
    have hx := hy x (by simp [flat])
    have hks : ∀ y ∈ flats kids, Lit y := fun y h => hy y (by simp [flat, h])
    have hlz := txs_size x.f1 kids hks
    unfold TB at hlz
    have loop := textLoopS x.f1 kids (by omega) (fun t ht => (hks t.x (by
      obtain ⟨a, b⟩ := flats_mem ht
      exact b _ (by cases t; simp [flat, T7.x]))).1) (fun t ht => textS n t (Shs_mem hsh.2.2 ht) (fun y h => hks y ((flats_mem ht).2 y h)) (Nat.le_trans (flats_mem ht).1 (by omega)) (by omega)) kids [] ⟨#[]⟩ rfl (by
        have e0 : (⟨#[]⟩ : ByteArray).size = 0 := rfl
        have : (flats kids).length * 30000000 ≤ 40 * 30000000 := Nat.mul_le_mul_right _ (by omega)
        omega)
    have hk1 : kids.length < 1000000 := by omega
    by_cases c1 : x.f1 = 1
    · refine Ev.step (f := fun _ => some (tx (.mk x kids))) (fun k => ?_) (Ev.now _)
      rw [spec_l7Text.f]; simp only [T7.kids, T7.x, tx, hk1, c1, if_true]
    by_cases c2 : x.f1 = 2
    · refine Ev.step (f := fun _ => some (tx (.mk x kids))) (fun k => ?_) (Ev.now _)
      rw [spec_l7Text.f]; simp only [T7.kids, T7.x, tx, hk1, c2, if_true, show ¬ ((2 : Int) = 1) by decide, if_false]
    by_cases c3 : x.f1 = 3
    · refine Ev.step (f := fun _ => some (tx (.mk x kids))) (fun k => ?_) (Ev.now _)
      rw [spec_l7Text.f]; simp only [T7.kids, T7.x, tx, hk1, c3, if_true, show ¬ ((3 : Int) = 1) by decide, show ¬ ((3 : Int) = 2) by decide, if_false]
    by_cases c4 : x.f1 = 4
    · refine Ev.step (f := fun k => spec_l7Whole.f k x.f2) (fun k => ?_) ?_
      · rw [spec_l7Text.f]; simp only [T7.kids, T7.x, hk1, c1, c2, c3, c4, if_true, if_false]; simp
      · have := (wholeS x.f2 (hx.2.2.1 c4).1 (hx.2.2.1 c4).2).1
        simp only [tx, c1, c2, c3, c4, if_true, if_false]; simpa using this
    by_cases c5 : x.f1 = 5
    · refine Ev.step (f := fun k => spec_l7Quote.f k x.f3) (fun k => ?_) ?_
      · rw [spec_l7Text.f]; simp only [T7.kids, T7.x, hk1, c1, c2, c3, c4, c5, if_true, if_false]; simp
      · have := quoteS x.f3 hx.2.1
        simp only [tx, c1, c2, c3, c4, c5, if_true, if_false]; simpa using this
    · refine Ev.step (f := fun k => spec_l7Text.l k x.f1 kids ⟨#[]⟩ 0) (fun k => ?_) ?_
      · rw [spec_l7Text.f]; simp only [T7.kids, T7.x, hk1, c1, c2, c3, c4, c5, if_true, if_false]
      · simp only [tx, c1, c2, c3, c4, c5, if_false]
        simpa using loop

theorem cat_join : ∀ (ps : List ByteArray) (s : ByteArray), (cat false s ps).data.toList = s.data.toList ++ Lib.joinTail [44] (ps.map (·.data.toList))
  | [], s => by simp [cat, Lib.joinTail]
  | p :: ps, s => by
    rw [cat, cat_join ps]
    simp [Lib.joinTail, List.append_assoc]
theorem join_cat (ps : List ByteArray) : (⟨(Lib.join (ps.map (·.data.toList)) [44]).toArray⟩ : ByteArray) = cat true ⟨#[]⟩ ps := by
  apply ByteArray.ext
  apply Array.ext'
  cases ps with
  | nil => rfl
  | cons p ps =>
    rw [List.map_cons, Lib.join_cons, cat, cat_join]
    simp
theorem textLoopI (kind : Int) (ks : List T7) (hk : ks.length ≤ 40) (hl : ∀ t ∈ ks, t.x.f0.size ≤ 2000000) (hkd : kind ≠ 7 → kind = 6) (hz : lens (txs kind ks) ≤ 100000000000) (ih : ∀ t ∈ ks, Ev (fun k => impl_valueText.f k (flat t)) (tx t)) : ∀ (rest pre : List T7), ks = pre ++ rest →
    Ev (fun k => impl_valueText.l k kind (ks.map flat) (txs kind pre) pre.length) (wrp kind (cat true ⟨#[]⟩ (txs kind ks)))
  | [], pre, e => by
    have e2 : pre = ks := by rw [e]; simp
    have hcs := cat_size (txs kind ks) true ⟨#[]⟩
    have e0 : (⟨#[]⟩ : ByteArray).size = 0 := rfl
    have hj := join_cat (txs kind ks)
    have hjl : (Lib.join ((txs kind ks).map (·.data.toList)) (⟨#[44]⟩ : ByteArray).data.toList).length ≤ 140737488355328 := by
      have : (Lib.join ((txs kind ks).map (·.data.toList)) [44]).length = (cat true ⟨#[]⟩ (txs kind ks)).size := by rw [← hj, ba_size]
      show (Lib.join ((txs kind ks).map (·.data.toList)) [44]).length ≤ _
      omega
    refine Ev.step (f := fun _ => some (wrp kind (cat true ⟨#[]⟩ (txs kind ks)))) (fun k => ?_) (Ev.now _)
    rw [impl_valueText.l, if_neg (by rw [List.length_map, e2]; omega), e2]
    unfold strings_Join.f
    rw [if_pos ⟨by rw [txs_length]; omega, hjl⟩, Option.bind_some]
    have hj2 : (⟨(Lib.join ((txs kind ks).map (·.data.toList)) (⟨#[44]⟩ : ByteArray).data.toList).toArray⟩ : ByteArray) = cat true ⟨#[]⟩ (txs kind ks) := hj
    rw [hj2]
    unfold impl_valueText.wrap wrp
    rw [if_pos (by omega)]
    by_cases c : kind = 7
    · rw [if_neg (by omega), if_pos c]
    · rw [if_pos (hkd c), if_neg c]
  | t :: rest, pre, e => by
    have htm : t ∈ ks := by rw [e]; simp
    have hlen : ks.length = pre.length + (rest.length + 1) := by rw [e]; simp
    have hr : rd_L5 (ks.map flat) pre.length = flat t := by rw [e]; simp [rd_L5, List.getD_eq_getElem?_getD]
    have hp := flat_pos t
    have hh := flat_head t
    have hq := qt_size t.x.f0
    have hks := hl t htm
    have next := textLoopI kind ks hk hl hkd hz ih rest (pre ++ [t]) (by rw [e]; simp)
    have hts : txs kind (pre ++ [t]) = txs kind pre ++ [piece kind t] := by simp only [txs_map, List.map_append, List.map_cons, List.map_nil, piece]
    rw [hts, List.length_append, List.length_singleton, show ((pre.length + 1 : Nat) : Int) = (pre.length : Int) + 1 by omega] at next
    have hsz : ∀ (l : List T7), t ∈ l → (piece kind t).size ≤ lens (txs kind l) := by
      intro l
      induction l with
      | nil => intro h; cases h
      | cons u l ihl =>
        intro h
        simp only [txs, lens]
        rcases List.mem_cons.1 h with rfl | h
        · unfold piece; omega
        · have := ihl h; omega
    have hps := hsz ks htm
    have e58 : (⟨#[58]⟩ : ByteArray).size = 1 := rfl
    refine Ev.step (f := fun k => (impl_valueText.f k (flat t)).bind fun r => (impl_valueText.part kind t.x.f0 r).bind fun u => impl_valueText.l k kind (ks.map flat) (txs kind pre ++ [u]) ((pre.length : Int) + 1)) (fun k => ?_) ?_
    · rw [impl_valueText.l, if_pos (by rw [List.length_map]; omega), hr, hh, if_pos ⟨by omega, by rw [txs_length]; omega⟩]
    · refine Ev.bind (ih t htm) ?_
      have hpart : impl_valueText.part kind t.x.f0 (tx t) = some (piece kind t) := by
        unfold impl_valueText.part piece
        by_cases c : kind = 7
        · rw [if_pos c, if_pos c, quoteI _ (by omega), Option.bind_some, if_pos]
          unfold piece at hps
          rw [if_pos c] at hps
          simp only [ByteArray.size_append, e58] at hps
          omega
        · rw [if_neg c, if_neg c]
      rw [hpart]
      simp only [Option.bind_some]
      exact next
theorem textI : ∀ (n : Nat) (t : T7), Sh t → (∀ y ∈ flat t, Lit y) → (flat t).length ≤ n → n ≤ 40 → Ev (fun k => impl_valueText.f k (flat t)) (tx t)
  | 0, t, _, _, h, _ => by have := flat_pos t; omega
  | n + 1, .mk x kids, hsh, hy, h, hn => by
    have h' := h
    simp only [flat, List.length_cons] at h'
    simp only [Sh] at hsh
    have hfl := flats_len kids
    have hx := hy x (by simp [flat])
    have hks : ∀ y ∈ flats kids, Lit y := fun y h => hy y (by simp [flat, h])
    have hlz := txs_size x.f1 kids hks
    unfold TB at hlz
    have hb : (flats kids).length * 30000000 ≤ 40 * 30000000 := Nat.mul_le_mul_right _ (by omega)
    have hh : rd_T61 (flat (.mk x kids)) 0 = x := flat_head (.mk x kids)
    have hp : (0 : Int) < ((flat (.mk x kids)).length : Int) := by have := flat_pos (.mk x kids); omega
    by_cases c1 : x.f1 = 1
    · refine Ev.step (f := fun _ => some (tx (.mk x kids))) (fun k => ?_) (Ev.now _)
      rw [impl_valueText.f, if_pos hp, hh]; simp only [tx, c1, if_true]
    by_cases c2 : x.f1 = 2
    · refine Ev.step (f := fun _ => some (tx (.mk x kids))) (fun k => ?_) (Ev.now _)
      rw [impl_valueText.f, if_pos hp, hh]; simp only [tx, c2, if_true, show ¬ ((2 : Int) = 1) by decide, if_false]
    by_cases c3 : x.f1 = 3
    · refine Ev.step (f := fun _ => some (tx (.mk x kids))) (fun k => ?_) (Ev.now _)
      rw [impl_valueText.f, if_pos hp, hh]; simp only [tx, c3, if_true, show ¬ ((3 : Int) = 1) by decide, show ¬ ((3 : Int) = 2) by decide, if_false]
    by_cases c4 : x.f1 = 4
    · refine Ev.step (f := fun _ => some (tx (.mk x kids))) (fun k => ?_) (Ev.now _)
      rw [impl_valueText.f, if_pos hp, hh, if_neg c1, if_neg c2, if_neg c3, if_pos c4, (wholeS x.f2 (hx.2.2.1 c4).1 (hx.2.2.1 c4).2).2]
      simp only [tx]
      rw [if_neg c1, if_neg c2, if_neg c3, if_pos c4]
    by_cases c5 : x.f1 = 5
    · refine Ev.step (f := fun _ => some (tx (.mk x kids))) (fun k => ?_) (Ev.now _)
      have := hx.2.1
      rw [impl_valueText.f, if_pos hp, hh, if_neg c1, if_neg c2, if_neg c3, if_neg c4, if_pos c5, quoteI _ (by omega)]
      simp only [tx]
      rw [if_neg c1, if_neg c2, if_neg c3, if_neg c4, if_pos c5]
    · refine Ev.step (f := fun k => (impl_partsOf.f k (flat (.mk x kids))).bind fun ps => if ps.length < 1000000 then impl_valueText.l k x.f1 ps [] 0 else none) (fun k => ?_) ?_
      · rw [impl_valueText.f, if_pos hp, hh, if_neg c1, if_neg c2, if_neg c3, if_neg c4, if_neg c5]
      · refine Ev.bind (partsI x kids hsh.2.2 (by omega) (by omega)) ?_
        simp only [List.length_map, show kids.length < 1000000 from by omega, if_true]
        have loop := textLoopI x.f1 kids (by omega) (fun t ht => (hks t.x (by
          obtain ⟨a, b⟩ := flats_mem ht
          exact b _ (by cases t; simp [flat, T7.x]))).1) (hx.2.2.2 c1 c2 c3 c4 c5) (by omega) (fun t ht => textI n t (Shs_mem hsh.2.2 ht) (fun y h => hks y ((flats_mem ht).2 y h)) (Nat.le_trans (flats_mem ht).1 (by omega)) (by omega)) kids [] rfl
        simp only [tx]
        rw [if_neg c1, if_neg c2, if_neg c3, if_neg c4, if_neg c5]
        simpa [txs] using loop
/-- The program's and the reference's ValueText answer alike. -/
theorem textBoth (l : List S61) (hs2 : ∀ x ∈ l, x.f0.size ≤ 2000000 ∧ x.f3.size ≤ 2000000) (h62 : l.length < 1000000000000) : ∃ a b, Ev (fun k => spec_ValueText.f k l) (a, b) ∧ Ev (fun k => impl_ValueText.f k l) (a, b) := by
  have hs : ∀ x ∈ l, x.f0.size < 1000000000000 ∧ x.f3.size < 1000000000000 := fun x hx => by have := hs2 x hx; omega
  have hi := isValueI l hs h62
  unfold spec_ValueText.f impl_ValueText.f
  by_cases c : l.length ≤ 40
  · have ho := ofS l c hs
    rw [res_end l] at ho
    cases f : Sp 6 l false with
    | none =>
      have sg : sgood l = false := by unfold sgood; rw [f]; simp
      rw [f] at ho; rw [sg] at hi
      exact ⟨⟨#[]⟩, false, Ev.bind ho (by simp only [if_true]; exact Ev.now _), Ev.bind hi (by simp only [Bool.false_eq_true, if_false]; exact Ev.now _)⟩
    | some v =>
      obtain ⟨t, r⟩ := v
      cases r with
      | cons y r =>
        have sg : sgood l = false := by unfold sgood; rw [f]; simp
        rw [f] at ho; rw [sg] at hi
        exact ⟨⟨#[]⟩, false, Ev.bind ho (by simp only [List.isEmpty_cons, if_true]; exact Ev.now _), Ev.bind hi (by simp only [Bool.false_eq_true, if_false]; exact Ev.now _)⟩
      | nil =>
        have sg : sgood l = true := by unfold sgood; rw [f]; simp [c]
        obtain ⟨s1, s2, _, s4⟩ := (Sp_iff _ _ _ _ _).1 f
        rw [List.append_nil] at s1
        rw [f] at ho; rw [sg] at hi
        have hlit : ∀ y ∈ flat t, Lit y := fun y hy => rest_lit y (Pt_nodes 6 t s4 y hy) (hs2 y (by rw [s1]; exact hy)).1 (hs2 y (by rw [s1]; exact hy)).2
        have hS := textS 40 t s2 hlit (by rw [← s1]; exact c) (Nat.le_refl _)
        have hI := textI 40 t s2 hlit (by rw [← s1]; exact c) (Nat.le_refl _)
        rw [← s1] at hI
        by_cases c6 : 600 < (tx t).size
        · refine ⟨⟨#[]⟩, false, Ev.bind ho ?_, Ev.bind hi ?_⟩
          · simp only [List.isEmpty_nil, Bool.true_eq_false, if_false, res, Option.bind_some]
            refine Ev.bind hS ?_
            simp only [c6, if_true]; exact Ev.now _
          · simp only [if_true]
            refine Ev.bind hI ?_
            simp only [show ((tx t).size : Int) > 600 from by omega, if_true]; exact Ev.now _
        · refine ⟨tx t, true, Ev.bind ho ?_, Ev.bind hi ?_⟩
          · simp only [List.isEmpty_nil, Bool.true_eq_false, if_false, res, Option.bind_some]
            refine Ev.bind hS ?_
            simp only [c6, if_false]; exact Ev.now _
          · simp only [if_true]
            refine Ev.bind hI ?_
            simp only [show ¬ ((tx t).size : Int) > 600 from by omega, if_false]; exact Ev.now _
  · have sg : sgood l = false := by unfold sgood; simp [c]
    rw [sg] at hi
    refine ⟨⟨#[]⟩, false, ?_, Ev.bind hi (by simp only [Bool.false_eq_true, if_false]; exact Ev.now _)⟩
    unfold spec_l7Of.f
    simp only [show (l.length : Int) > 40 by omega, if_true, Option.bind_some]; exact Ev.now _

theorem FnExactValueText : laws_FnExactValueText.Pure := by
  intro l ⟨hl, hf⟩
  have hfit : ∀ x ∈ l, x.f0.size ≤ 140737488351232 ∧ x.f3.size ≤ 140737488351232 := fun x hx => by
    have h := hf x hx
    unfold fit64 at h
    omega
  obtain ⟨n, hn, hlen⟩ := szNodes l hl hfit 1048576 (by omega) (by omega)
  apply Ev.rounds (g := fun k => laws_FnExactValueText.f k l)
  unfold laws_FnExactValueText.f
  refine Ev.bind hn ?_
  by_cases h : n < 0
  · simp only [h, if_true]; exact Ev.now _
  obtain ⟨h1, h2⟩ := hlen h
  have hs : ∀ x ∈ l.map toN, x.f0.size ≤ 2000000 ∧ x.f3.size ≤ 2000000 := by
    intro x hx
    obtain ⟨y, hy, rfl⟩ := List.mem_map.1 hx
    have := h2 y hy
    simp only [toN]
    omega
  have ht := toNodes l h1
  have he := eqNodes (l.map toN) (by simpa using h1)
  obtain ⟨a, b, es, ei⟩ := textBoth (l.map toN) hs (by rw [List.length_map]; omega)
  simp only [h, if_false]
  refine Ev.bind ht (Ev.bind es (Ev.bind ht (Ev.bind ei ?_)))
  simp only [if_true, bne_self_eq_false]
  refine Ev.step (f := fun k => (laws_toNodeS.f k l).bind fun t => (laws_eqNodeS.f k (l.map toN) t).bind fun e => if e = true then some true else some false) (fun k => by simp [laws_FnExactValueText.j0]) ?_
  exact Ev.bind ht (Ev.bind he (by simp only [if_true]; exact Ev.now _))

end Go.Proofs.YtkfbdopfeacnfaaDoor.Pure
