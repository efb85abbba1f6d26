/-
The pure statement of FnExactHeadText is proved: the program's text of a head and the reference's are one.
Conditions: the head's strings are strings that Go can hold. None besides.
-/
import Derived.Test.YtgoedenbekedbaaDoorPFnExactHeadTextx3
import Derived.Test.YtgoedenbekedbaaDoorPreFnExactHeadText
set_option linter.unusedVariables false
set_option linter.unusedSimpArgs false
namespace Go.Proofs.YtgoedenbekedbaaDoor.Pure
open Go.RowKit Go.Proofs.YtgoedenbekedbaaDoor.PFnExactHeadText Go.Proofs.YtgoedenbekedbaaDoorW.PrintWords Go.Proofs.YtgoedenbekedbaaDoorW.PrintLast Go.Proofs.YtgoedenbekedbaaDoorW.PrintMore

theorem w64 {n : Int} (h0 : -9223372036854775808 ≤ n) (h1 : n ≤ 9223372036854775807) : wrap64 n = n := by unfold wrap64; omega
theorem rd_set (l : List Int) (i j v : Int) (h0 : 0 ≤ i) (h1 : i < l.length) (hj : 0 ≤ j) : rd (l.set i.toNat v) j = if j = i then v else rd l j := by
  unfold rd
  rw [List.getD_eq_getElem?_getD, List.getD_eq_getElem?_getD, List.getElem?_set]
  by_cases e : j = i
  · subst e; rw [if_pos rfl, if_pos (by omega), if_pos rfl]; rfl
  · rw [if_neg (by omega), if_neg e]
theorem rdOf_set {α : Type} (d : α) (l : List α) (i j : Int) (v : α) (h0 : 0 ≤ i) (h1 : i < l.length) (hj : 0 ≤ j) : rdOf d (l.set i.toNat v) j = if j = i then v else rdOf d l j := by
  unfold rdOf
  rw [List.getD_eq_getElem?_getD, List.getD_eq_getElem?_getD, List.getElem?_set]
  by_cases e : j = i
  · subst e; rw [if_pos rfl, if_pos (by omega), if_pos rfl]; rfl
  · rw [if_neg (by omega), if_neg e]

/-- Both loops over a name give one answer. -/
theorem origin_l0 (s : ByteArray) (hs : s.size ≤ 140737488351232) (d : Nat) : ∀ (k : Nat) (i : Int), 0 ≤ i → i ≤ s.size → (s.size : Int) - i = d → d < k →
    ∃ r : Bool, spec_l14Origin.l0 k s i = some r ∧ impl_isOrigin.l0 k s (s.size : Int) i = some r := by
  induction d with
  | zero =>
    intro k i h0 hi hd hk
    obtain ⟨k, rfl⟩ : ∃ m, k = m + 1 := ⟨k - 1, by omega⟩
    simp only [spec_l14Origin.l0, impl_isOrigin.l0]
    rw [if_neg (by omega), if_neg (by omega)]
    unfold spec_l1In.f impl_within.f
    by_cases h : (s.size : Int) ≥ 1
    · simp only [h, if_true, Option.bind_some]; exact ⟨_, rfl, rfl⟩
    · simp only [h, if_false, Option.bind_some]; exact ⟨_, rfl, rfl⟩
  | succ d ih =>
    intro k i h0 hi hd hk
    obtain ⟨k, rfl⟩ : ∃ m, k = m + 1 := ⟨k - 1, by omega⟩
    simp only [spec_l14Origin.l0, impl_isOrigin.l0]
    have hlt : i < (s.size : Int) := by omega
    simp only [if_pos hlt, if_pos h0]
    rw [w64 (by omega) (by omega)]
    by_cases ha : bt s i < 97
    · simp only [ha, if_true]; exact ⟨_, rfl, rfl⟩
    · by_cases hb : bt s i > 122
      · simp only [ha, hb, if_true, if_false]; exact ⟨_, rfl, rfl⟩
      · simp only [ha, hb, if_false]
        exact ih k (i + 1) (by omega) (by omega) (by omega) (by omega)
/-- Both tests of a head give one answer. -/
theorem head_good (s : ByteArray) (n : Int) (r : ByteArray) (hs : s.size ≤ 140737488351232) (k : Nat) (hk : s.size < k) :
    ∃ b : Bool, spec_GoodHead.f k s n r = some b ∧ impl_isHead.f k s n r = some b ∧ (b = true → 0 ≤ n ∧ n ≤ 1000000 ∧ r.size = 32) := by
  obtain ⟨b, h1, h2⟩ := origin_l0 s hs s.size k 0 (by omega) (by omega) (by omega) hk
  have h1' : spec_l14Origin.f k s = some b := h1
  have h2' : impl_isOrigin.f k s = some b := h2
  unfold spec_GoodHead.f impl_isHead.f
  rw [h1', h2']
  unfold spec_l1In.f impl_within.f impl_isDigest.f
  cases b with
  | false => exact ⟨false, rfl, rfl, fun h => by cases h⟩
  | true =>
    simp only [Option.bind_some, if_true]
    by_cases h : n ≥ 0
    · by_cases h' : n ≤ 1000000
      · simp only [h, h', if_true, Option.bind_some, decide_true]
        refine ⟨_, rfl, rfl, fun e => ⟨trivial, trivial, ?_⟩⟩
        have := eq_of_beq e
        omega
      · simp only [h, h', if_true, Option.bind_some, decide_false, Bool.false_eq_true, if_false]
        exact ⟨_, rfl, rfl, fun e => by cases e⟩
    · simp only [h, if_false, Option.bind_some, Bool.false_eq_true]
      exact ⟨_, rfl, rfl, fun e => by cases e⟩

theorem ba_app (a b : List UInt8) : (⟨a.toArray⟩ : ByteArray) ++ ⟨b.toArray⟩ = ⟨(a ++ b).toArray⟩ := by apply ByteArray.ext; simp
theorem ba_size (a : List UInt8) : (⟨a.toArray⟩ : ByteArray).size = a.length := by simp [ByteArray.size]
theorem num_one (x : Int) (n : Nat) (h : x = n) (hn : n < 10) : strOfNums [(wrap64 (48 + x)) % 256] = ⟨[UInt8.ofNat (48 + n)].toArray⟩ := by
  subst h
  rw [w64 (by omega) (by omega)]
  have e : ((48 + (n : Int)) % 256).toNat = 48 + n := by omega
  simp only [strOfNums, List.map_cons, List.map_nil, e]
theorem dec_len (n : Nat) : (Lib.decDigits n).length ≤ n + 1 := by
  induction n using Nat.strongRecOn with
  | _ n ih =>
    rw [Lib.decDigits]
    by_cases h : n < 10
    · rw [dif_pos h]; simp
    · rw [dif_neg h]
      have := ih (n / 10) (by omega)
      simp only [List.length_append, List.length_cons, List.length_nil]
      omega
theorem l1Num_eq (k : Nat) : ∀ n : Nat, n < k → (n : Int) < 4611686018427387904 → spec_l1Num.f k (n : Int) = some ⟨(Lib.decDigits n).toArray⟩ := by
  induction k with
  | zero => intro n h; omega
  | succ k ih =>
    intro n h hb
    rw [spec_l1Num.f]
    by_cases h10 : n < 10
    · rw [if_pos (by omega), num_one n n rfl h10, Lib.decDigits, dif_pos h10]
    · have e1 : Int.tdiv (n : Int) 10 = ((n / 10 : Nat) : Int) := rfl
      have e2 : Int.tmod (n : Int) 10 = ((n % 10 : Nat) : Int) := rfl
      rw [if_neg (by omega), e1, e2, w64 (n := ((n / 10 : Nat) : Int)) (by omega) (by omega), ih (n / 10) (by omega) (by omega)]
      simp only [Option.bind_some]
      have := dec_len (n / 10)
      rw [num_one _ (n % 10) rfl (by omega), if_pos (by rw [ba_size, ba_size]; simp only [List.length_cons, List.length_nil]; omega), Lib.decDigits.eq_def n, dif_neg h10, ba_app]
theorem itoa_nat (n : Nat) : Lib.itoa (n : Int) = Lib.decDigits n := by
  unfold Lib.itoa
  rw [if_neg (by omega)]
  rfl
theorem num_both (k n : Nat) (hk : n < k) (hb : (n : Int) < 4611686018427387904) : spec_l1Num.f k (n : Int) = some ⟨(Lib.decDigits n).toArray⟩ ∧ strconv_Itoa.f (n : Int) = some ⟨(Lib.decDigits n).toArray⟩ :=
  ⟨l1Num_eq k n hk hb, by unfold strconv_Itoa.f; rw [if_pos (by omega), itoa_nat]⟩

theorem sg_dl (s : ByteArray) : s.data.toList.length = s.size := Array.length_toList
theorem sg_app (a b : List UInt8) : (⟨a.toArray⟩ : ByteArray) ++ ⟨b.toArray⟩ = ⟨(a ++ b).toArray⟩ := by apply ByteArray.ext; simp
def sgInts (l : List UInt8) : List Int := l.map fun b => (b.toNat : Int)
theorem sgInts_str (l : List UInt8) : strOfNums (sgInts l) = ⟨l.toArray⟩ := by
  unfold strOfNums sgInts
  simp only [List.map_map]
  congr 2
  conv => rhs; rw [← List.map_id l]
  refine List.map_congr_left fun b _ => ?_
  simp
theorem bt_alpha : ∀ X : Fin 64, bt (⟨#[65, 66, 67, 68, 69, 70, 71, 72, 73, 74, 75, 76, 77, 78, 79, 80, 81, 82, 83, 84, 85, 86, 87, 88, 89, 90, 97, 98, 99, 100, 101, 102, 103, 104, 105, 106, 107, 108, 109, 110, 111, 112, 113, 114, 115, 116, 117, 118, 119, 120, 121, 122, 48, 49, 50, 51, 52, 53, 54, 55, 56, 57, 43, 47]⟩ : ByteArray) (X.val : Int) = ((sg_alpha.getD X.val 0).toNat : Int) := by decide +kernel
theorem sg_bt' (t : ByteArray) (k : Nat) (h : k < t.size) : bt t (k : Int) = ((t.data.toList.getD k 0).toNat : Int) := by
  unfold bt
  have h' : (k : Int).toNat < t.size := by simpa using h
  rw [dif_pos h', List.getD_eq_getElem?_getD, List.getElem?_eq_getElem (by rw [sg_dl]; exact h)]
  simp; rfl
/-- One sign of a group. -/
theorem sg_step (k : Nat) (s : ByteArray) (out : List Int) (at_ : Int) (g : List UInt8) (i : Nat) (hi : i < 4) (hl : out.length < 140737488355328) :
    spec_l3Signs.l2 (k + 1) s out at_ (sg_num g 3 : Int) (g.length : Int) (i : Int) = spec_l3Signs.l2 k s (out ++ sgInts [sg_one g i]) at_ (sg_num g 3 : Int) (g.length : Int) ((i + 1 : Nat) : Int) := by
  have hn := sg_num_lt g 3
  rw [spec_l3Signs.l2, if_pos (by omega)]
  have hw : wrap64 ((i : Int) + 1) = ((i + 1 : Nat) : Int) := by rw [w64 (by omega) (by omega)]; omega
  by_cases c : (i : Int) ≤ (g.length : Int)
  · have hone : sg_one g i = sg_alpha.getD (sg_num g 3 / 2 ^ (18 - 6 * i) % 64) 0 := by unfold sg_one; rw [if_neg (by omega)]
    have hs : IntKind.u64.wrap (wrap64 (18 - wrap64 (6 * (i : Int)))) = ((18 - 6 * i : Nat) : Int) := by
      rcases (by omega : i = 0 ∨ i = 1 ∨ i = 2 ∨ i = 3) with rfl | rfl | rfl | rfl <;> decide +kernel
    have hx : Go.bits .and .i64 (shr .i64 (sg_num g 3 : Int) (IntKind.u64.wrap (wrap64 (18 - wrap64 (6 * (i : Int)))))) 63 = ((sg_num g 3 / 2 ^ (18 - 6 * i) % 64 : Nat) : Int) := by
      rw [hs]
      have e : shr .i64 (sg_num g 3 : Int) ((18 - 6 * i : Nat) : Int) = ((sg_num g 3 / 2 ^ (18 - 6 * i) : Nat) : Int) := by
        rw [← shr_small (k := .i64) (x := (sg_num g 3 : Int)) (y := ((18 - 6 * i : Nat) : Int)) rfl (by show _ ≤ ((64 : Nat) : Int); omega), Int.toNat_natCast]
        norm_cast
      rw [e]
      have hd : sg_num g 3 / 2 ^ (18 - 6 * i) ≤ sg_num g 3 := Nat.div_le_self _ _
      have hn' : sg_num g 3 < 16777216 := hn
      generalize sg_num g 3 / 2 ^ (18 - 6 * i) = q at hd ⊢
      rw [sg_and63 _ (by omega) (by omega)]
      omega
    have hlt : sg_num g 3 / 2 ^ (18 - 6 * i) % 64 < 64 := Nat.mod_lt _ (by decide)
    have ha := bt_alpha ⟨_, hlt⟩
    simp only at ha
    rw [if_pos c, hx, hs, hw, if_pos (by omega), if_pos (by omega), if_pos (by omega), if_pos hl, ha, hone]
    rfl
  · have hone : sg_one g i = 61 := by unfold sg_one; rw [if_pos (by omega)]
    rw [if_neg c, hw, if_pos hl, hone]
    rfl
theorem sg_four (k : Nat) (s : ByteArray) (out : List Int) (at_ : Int) (g : List UInt8) (hl : out.length + 4 < 140737488355328) :
    spec_l3Signs.l2 (k + 5) s out at_ (sg_num g 3 : Int) (g.length : Int) 0 = spec_l3Signs.l0 k s (out ++ sgInts (sg_quad g)) (wrap64 (at_ + 3)) := by
  have h0 := sg_step (k + 4) s out at_ g 0 (by omega) (by omega)
  have h1 := sg_step (k + 3) s (out ++ sgInts [sg_one g 0]) at_ g 1 (by omega) (by simp [sgInts]; omega)
  have h2 := sg_step (k + 2) s (out ++ sgInts [sg_one g 0] ++ sgInts [sg_one g 1]) at_ g 2 (by omega) (by simp [sgInts]; omega)
  have h3 := sg_step (k + 1) s (out ++ sgInts [sg_one g 0] ++ sgInts [sg_one g 1] ++ sgInts [sg_one g 2]) at_ g 3 (by omega) (by simp [sgInts]; omega)
  refine h0.trans (h1.trans (h2.trans (h3.trans ?_)))
  rw [spec_l3Signs.l2, if_neg (by decide)]
  simp only [sgInts, sg_quad, List.append_assoc, List.map_cons, List.map_nil, List.cons_append, List.nil_append]
theorem sg_or' (n b : Nat) (hn : n < 65536) (hb : b < 256) : Go.bits .or .i64 ((n * 256 : Nat) : Int) (b : Int) = ((n * 256 : Nat) : Int) + (b : Int) :=
  sg_or _ _ (by omega) (by omega) (by omega) (by omega) (by omega)
theorem sg_shl (n : Nat) (hn : n < 65536) : wrap64 ((n : Int) * 256) = ((n * 256 : Nat) : Int) := by rw [w64 (by omega) (by omega)]; omega
theorem sg_small (b : Nat) (hb : b < 256) : wrap64 (b : Int) = (b : Int) := w64 (by omega) (by omega)
/-- One byte of a group. -/
theorem sg_byte (k : Nat) (s : ByteArray) (out : List Int) (a : Nat) (g : List UInt8) (hg : g = (s.data.toList.drop a).take 3) (hs : s.size ≤ 4194304) (ha : a < s.size) (i : Nat) (hi : i < 3) :
    spec_l3Signs.l1 (k + 1) s out (a : Int) (sg_num g i : Int) (g.length : Int) (i : Int) = spec_l3Signs.l1 k s out (a : Int) (sg_num g (i + 1) : Int) (g.length : Int) ((i + 1 : Nat) : Int) := by
  have hn : sg_num g i < 65536 := Nat.lt_of_lt_of_le (sg_num_lt g i) (by rcases (by omega : i = 0 ∨ i = 1 ∨ i = 2) with rfl | rfl | rfl <;> decide)
  have hlen : g.length = min 3 (s.size - a) := by rw [hg, List.length_take, List.length_drop, sg_dl]
  have hw : wrap64 ((i : Int) + 1) = ((i + 1 : Nat) : Int) := by rw [w64 (by omega) (by omega)]; omega
  have hw2 : wrap64 ((a : Int) + (i : Int)) = ((a + i : Nat) : Int) := by rw [w64 (by omega) (by omega)]; omega
  have hb := sg_b_lt g i
  have h3 : (i : Int) < 3 := by omega
  have e1 := sg_shl (sg_num g i) hn
  have e2 := sg_small (sg_b g i) hb
  have e3 := sg_or' (sg_num g i) (sg_b g i) hn hb
  have e4 : ((sg_num g (i + 1) : Nat) : Int) = ((sg_num g i * 256 : Nat) : Int) + (sg_b g i : Int) := Int.natCast_add _ _
  rw [e4, spec_l3Signs.l1, if_pos h3, hw, hw2, e1]
  by_cases c : (i : Int) < (g.length : Int)
  · have hbt : bt s ((a + i : Nat) : Int) = (sg_b g i : Int) := by
      rw [sg_bt' s (a + i) (by omega)]
      have : g.getD i 0 = s.data.toList.getD (a + i) 0 := by
        rw [hg, List.getD_eq_getElem?_getD, List.getD_eq_getElem?_getD, List.getElem?_take, if_pos hi, List.getElem?_drop]
      rw [sg_b, this]
    have p0 : (0 : Int) ≤ ((a + i : Nat) : Int) := by omega
    have p1 : ((a + i : Nat) : Int) < (s.size : Int) := by omega
    rw [if_pos c, if_pos p0, if_pos p1, hbt, e2, e3]
  · have hb0 : sg_b g i = 0 := by rw [sg_b, List.getD_eq_getElem?_getD, List.getElem?_eq_none (by omega)]; rfl
    rw [if_neg c, hb0, Int.natCast_zero, Int.add_zero]
theorem sg_three (k : Nat) (s : ByteArray) (out : List Int) (a : Nat) (g : List UInt8) (hg : g = (s.data.toList.drop a).take 3) (hs : s.size ≤ 4194304) (ha : a < s.size) :
    spec_l3Signs.l1 (k + 4) s out (a : Int) 0 (g.length : Int) 0 = spec_l3Signs.l2 k s out (a : Int) (sg_num g 3 : Int) (g.length : Int) 0 := by
  refine (sg_byte (k + 3) s out a g hg hs ha 0 (by omega)).trans ((sg_byte (k + 2) s out a g hg hs ha 1 (by omega)).trans ((sg_byte (k + 1) s out a g hg hs ha 2 (by omega)).trans ?_))
  rw [spec_l3Signs.l1, if_neg (by decide)]
/-- The whole text, group for group. -/
theorem sg_l0 (s : ByteArray) (hs : s.size ≤ 4194304) : ∀ (d a : Nat) (out : List UInt8) (k : Nat), s.size - a ≤ d → 10 * d + 1 ≤ k → out.length ≤ 4 * a → a ≤ s.size + 2 →
    spec_l3Signs.l0 k s (sgInts out) (a : Int) = some ⟨(out ++ sg_of (s.data.toList.drop a)).toArray⟩
  | 0, a, out, k, hd, hk, ho, ha => by
    obtain ⟨k, rfl⟩ : ∃ m, k = m + 1 := ⟨k - 1, by omega⟩
    rw [spec_l3Signs.l0, if_neg (by omega), sgInts_str, List.drop_eq_nil_of_le (by rw [sg_dl]; omega)]
    simp [sg_of, sg_all]
  | d + 1, a, out, k, hd, hk, ho, ha => by
    by_cases c : a < s.size
    · obtain ⟨k, rfl⟩ : ∃ m, k = m + 10 := ⟨k - 10, by omega⟩
      obtain ⟨g, hg⟩ : ∃ g, g = (s.data.toList.drop a).take 3 := ⟨_, rfl⟩
      have hlen : g.length = min 3 (s.size - a) := by rw [hg, List.length_take, List.length_drop, sg_dl]
      have hl : spec_l1Least.f 3 (wrap64 ((s.size : Int) - (a : Int))) = some (g.length : Int) := by
        rw [w64 (by omega) (by omega), spec_l1Least.f]
        by_cases q : (3 : Int) < (s.size : Int) - (a : Int)
        · rw [if_pos q, show (g.length : Int) = 3 by omega]
        · rw [if_neg q, show (g.length : Int) = (s.size : Int) - (a : Int) by omega]
      rw [spec_l3Signs.l0, if_pos (by omega), hl, Option.bind_some, show k + 9 = (k + 5) + 4 from rfl, sg_three (k + 5) s _ a g hg hs c, sg_four k s _ _ g (by simp [sgInts]; omega), w64 (by omega) (by omega)]
      have e := sg_l0 s hs d (a + 3) (out ++ sg_quad g) k (by omega) (by omega) (by rw [List.length_append, sg_quad_len]; omega) (by omega)
      have e1 : sgInts out ++ sgInts (sg_quad g) = sgInts (out ++ sg_quad g) := by simp [sgInts]
      rw [e1, show (a : Int) + 3 = ((a + 3 : Nat) : Int) by omega, e, sg_of_cons (s.data.toList.drop a) (fun h => by have := congrArg List.length h; rw [List.length_drop, sg_dl, List.length_nil] at this; omega), ← hg, List.drop_drop, List.append_assoc]
    · obtain ⟨k, rfl⟩ : ∃ m, k = m + 1 := ⟨k - 1, by omega⟩
      rw [spec_l3Signs.l0, if_neg (by omega), sgInts_str, List.drop_eq_nil_of_le (by rw [sg_dl]; omega)]
      simp [sg_of, sg_all]
theorem signs_both (s : ByteArray) (hs : s.size ≤ 4194304) (k : Nat) (hk : 10 * s.size + 1 ≤ k) :
    spec_l3Signs.f k s = some ⟨(sg_of s.data.toList).toArray⟩ ∧ impl_signsOf.f s = some ⟨(sg_of s.data.toList).toArray⟩ := by
  refine ⟨?_, by unfold impl_signsOf.f; rw [if_pos (by omega)]⟩
  have := sg_l0 s hs s.size 0 [] k (by omega) hk (by simp) (by omega)
  simpa [sgInts, spec_l3Signs.f] using this

theorem one10 : (⟨#[10]⟩ : ByteArray).size = 1 := rfl
/-- Both texts of a head are one. -/
theorem text_both (k : Nat) (s : ByteArray) (n : Nat) (r : ByteArray) (hs : s.size ≤ 140737488351232) (hn : n ≤ 1000000) (hr : r.size = 32) (hk : 1000001 ≤ k) :
    ∃ T : ByteArray, spec_l14Text.f k s (n : Int) r = some T ∧ impl_headText.f s (n : Int) r = some T ∧ T.size ≤ 281474976710656 := by
  obtain ⟨n1, n2⟩ := num_both k n (by omega) (by omega)
  obtain ⟨g1, g2⟩ := signs_both r (by omega) k (by omega)
  have hD : (⟨(Lib.decDigits n).toArray⟩ : ByteArray).size ≤ 1000001 := by rw [ba_size]; have := dec_len n; omega
  have hG : (⟨(sg_of r.data.toList).toArray⟩ : ByteArray).size ≤ 128 := by rw [ba_size]; have := sg_of_len _ r.data.toList (Nat.le_refl _); rw [sg_dl, hr] at this; omega
  generalize (⟨(Lib.decDigits n).toArray⟩ : ByteArray) = D at n1 n2 hD
  generalize (⟨(sg_of r.data.toList).toArray⟩ : ByteArray) = G at g1 g2 hG
  refine ⟨(((((s ++ (⟨#[10]⟩ : ByteArray)) ++ D) ++ (⟨#[10]⟩ : ByteArray)) ++ G) ++ (⟨#[10]⟩ : ByteArray)), ?_, ?_, by simp only [ByteArray.size_append, one10]; omega⟩
  · unfold spec_l14Text.f
    rw [if_pos (by omega), n1, Option.bind_some, if_pos (by simp only [ByteArray.size_append, one10]; omega), if_pos (by simp only [ByteArray.size_append, one10]; omega), g1, Option.bind_some, if_pos (by simp only [ByteArray.size_append, one10]; omega), if_pos (by simp only [ByteArray.size_append, one10]; omega)]
  · unfold impl_headText.f
    rw [if_pos (by omega), n2, Option.bind_some, if_pos (by simp only [ByteArray.size_append, one10]; omega), if_pos (by simp only [ByteArray.size_append, one10]; omega), g2, Option.bind_some, if_pos (by simp only [ByteArray.size_append, one10]; omega), if_pos (by simp only [ByteArray.size_append, one10]; omega)]

theorem FnExactHeadText : laws_FnExactHeadText.Pure := by
  intro s n r ⟨hs, _, hr⟩
  replace hs : s.size ≤ 140737488351232 := hs
  replace hr : r.size ≤ 140737488351232 := hr
  obtain ⟨k, hk⟩ : ∃ k : Nat, k = s.size + 1000001 := ⟨_, rfl⟩
  obtain ⟨b, h1, h2, h3⟩ := head_good s n r hs k (by omega)
  have both : ∃ x, spec_HeadText.f k s n r = some x ∧ impl_HeadText.f k s n r = some x := by
    unfold spec_HeadText.f impl_HeadText.f
    rw [h1, h2]
    cases b with
    | false => exact ⟨_, rfl, rfl⟩
    | true =>
      obtain ⟨a, c, e⟩ := h3 rfl
      obtain ⟨m, rfl⟩ : ∃ m : Nat, n = m := ⟨n.toNat, by omega⟩
      obtain ⟨T, t1, t2, _⟩ := text_both k s m r hs (by omega) e (by omega)
      simp only [Option.bind_some, if_true, t1, t2]
      exact ⟨_, rfl, rfl⟩
  obtain ⟨⟨x0, x1⟩, b1, b2⟩ := both
  refine ⟨k, ?_⟩
  simp only [laws_FnExactHeadText.f, laws_szHead.f, laws_toHead.f]
  rw [w64 (n := 1048576 - (s.size : Int)) (by omega) (by omega)]
  by_cases h4 : 1048576 - (s.size : Int) < 0
  · simp [h4]
  rw [if_neg h4, w64 (n := 1048576 - (s.size : Int) - (r.size : Int)) (by omega) (by omega)]
  by_cases h5 : 1048576 - (s.size : Int) - (r.size : Int) < 0
  · simp [h5]
  rw [if_neg h5]
  simp only [Option.bind_some, if_neg h5, b1, b2, bne_self_eq_false, Bool.false_eq_true, if_false, if_true]

end Go.Proofs.YtgoedenbekedbaaDoor.Pure
