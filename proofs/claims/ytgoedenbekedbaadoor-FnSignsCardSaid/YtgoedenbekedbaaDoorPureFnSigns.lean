/-
The pure statement of FnSigns is proved: bytes come back from their signs, each in one form alone, for whatever is drawn.
Conditions: the arguments are slices of bytes that Go can hold. None besides.
-/
import Derived.Test.YtgoedenbekedbaaDoorPFnSignsx6
set_option linter.unusedVariables false
set_option linter.unusedSimpArgs false
namespace Go.Proofs.YtgoedenbekedbaaDoor.Pure
open Go.RowKit Go.Proofs.YtgoedenbekedbaaDoor.PFnSigns Go.Proofs.YtgoedenbekedbaaDoorW.PrintWords Go.Proofs.YtgoedenbekedbaaDoorW.PrintLast Go.Proofs.YtgoedenbekedbaaDoorW.PrintMore

theorem w64 {n : Int} (h0 : -9223372036854775808 ≤ n) (h1 : n ≤ 9223372036854775807) : wrap64 n = n := by unfold wrap64; omega
theorem rd_set (l : List Int) (i j v : Int) (h0 : 0 ≤ i) (h1 : i < l.length) (hj : 0 ≤ j) : rd (l.set i.toNat v) j = if j = i then v else rd l j := by
  unfold rd
  rw [List.getD_eq_getElem?_getD, List.getD_eq_getElem?_getD, List.getElem?_set]
  by_cases e : j = i
  · subst e; rw [if_pos rfl, if_pos (by omega), if_pos rfl]; rfl
  · rw [if_neg (by omega), if_neg e]
theorem rdOf_set {α : Type} (d : α) (l : List α) (i j : Int) (v : α) (h0 : 0 ≤ i) (h1 : i < l.length) (hj : 0 ≤ j) : rdOf d (l.set i.toNat v) j = if j = i then v else rdOf d l j := by
  unfold rdOf
  rw [List.getD_eq_getElem?_getD, List.getD_eq_getElem?_getD, List.getElem?_set]
  by_cases e : j = i
  · subst e; rw [if_pos rfl, if_pos (by omega), if_pos rfl]; rfl
  · rw [if_neg (by omega), if_neg e]

theorem sg_dl (s : ByteArray) : s.data.toList.length = s.size := Array.length_toList
theorem sg_app (a b : List UInt8) : (⟨a.toArray⟩ : ByteArray) ++ ⟨b.toArray⟩ = ⟨(a ++ b).toArray⟩ := by apply ByteArray.ext; simp
def sgInts (l : List UInt8) : List Int := l.map fun b => (b.toNat : Int)
theorem sgInts_str (l : List UInt8) : strOfNums (sgInts l) = ⟨l.toArray⟩ := by
  unfold strOfNums sgInts
  simp only [List.map_map]
  congr 2
  conv => rhs; rw [← List.map_id l]
  refine List.map_congr_left fun b _ => ?_
  simp
theorem bt_alpha : ∀ X : Fin 64, bt (⟨#[65, 66, 67, 68, 69, 70, 71, 72, 73, 74, 75, 76, 77, 78, 79, 80, 81, 82, 83, 84, 85, 86, 87, 88, 89, 90, 97, 98, 99, 100, 101, 102, 103, 104, 105, 106, 107, 108, 109, 110, 111, 112, 113, 114, 115, 116, 117, 118, 119, 120, 121, 122, 48, 49, 50, 51, 52, 53, 54, 55, 56, 57, 43, 47]⟩ : ByteArray) (X.val : Int) = ((sg_alpha.getD X.val 0).toNat : Int) := by decide +kernel
theorem sg_bt' (t : ByteArray) (k : Nat) (h : k < t.size) : bt t (k : Int) = ((t.data.toList.getD k 0).toNat : Int) := by
  unfold bt
  have h' : (k : Int).toNat < t.size := by simpa using h
  rw [dif_pos h', List.getD_eq_getElem?_getD, List.getElem?_eq_getElem (by rw [sg_dl]; exact h)]
  simp; rfl
/-- One sign of a group. -/
theorem sg_step (k : Nat) (s : ByteArray) (out : List Int) (at_ : Int) (g : List UInt8) (i : Nat) (hi : i < 4) (hl : out.length < 140737488355328) :
    spec_l3Signs.l2 (k + 1) s out at_ (sg_num g 3 : Int) (g.length : Int) (i : Int) = spec_l3Signs.l2 k s (out ++ sgInts [sg_one g i]) at_ (sg_num g 3 : Int) (g.length : Int) ((i + 1 : Nat) : Int) := by
  have hn := sg_num_lt g 3
  rw [spec_l3Signs.l2, if_pos (by omega)]
  have hw : wrap64 ((i : Int) + 1) = ((i + 1 : Nat) : Int) := by rw [w64 (by omega) (by omega)]; omega
  by_cases c : (i : Int) ≤ (g.length : Int)
  · have hone : sg_one g i = sg_alpha.getD (sg_num g 3 / 2 ^ (18 - 6 * i) % 64) 0 := by unfold sg_one; rw [if_neg (by omega)]
    have hs : IntKind.u64.wrap (wrap64 (18 - wrap64 (6 * (i : Int)))) = ((18 - 6 * i : Nat) : Int) := by
      rcases (by omega : i = 0 ∨ i = 1 ∨ i = 2 ∨ i = 3) with rfl | rfl | rfl | rfl <;> decide +kernel
    have hx : Go.bits .and .i64 (shr .i64 (sg_num g 3 : Int) (IntKind.u64.wrap (wrap64 (18 - wrap64 (6 * (i : Int)))))) 63 = ((sg_num g 3 / 2 ^ (18 - 6 * i) % 64 : Nat) : Int) := by
      rw [hs]
      have e : shr .i64 (sg_num g 3 : Int) ((18 - 6 * i : Nat) : Int) = ((sg_num g 3 / 2 ^ (18 - 6 * i) : Nat) : Int) := by
        rw [← shr_small (k := .i64) (x := (sg_num g 3 : Int)) (y := ((18 - 6 * i : Nat) : Int)) rfl (by show _ ≤ ((64 : Nat) : Int); omega), Int.toNat_natCast]
        norm_cast
      rw [e]
      have hd : sg_num g 3 / 2 ^ (18 - 6 * i) ≤ sg_num g 3 := Nat.div_le_self _ _
      have hn' : sg_num g 3 < 16777216 := hn
      generalize sg_num g 3 / 2 ^ (18 - 6 * i) = q at hd ⊢
      rw [sg_and63 _ (by omega) (by omega)]
      omega
    have hlt : sg_num g 3 / 2 ^ (18 - 6 * i) % 64 < 64 := Nat.mod_lt _ (by decide)
    have ha := bt_alpha ⟨_, hlt⟩
    simp only at ha
    rw [if_pos c, hx, hs, hw, if_pos (by omega), if_pos (by omega), if_pos (by omega), if_pos hl, ha, hone]
    rfl
  · have hone : sg_one g i = 61 := by unfold sg_one; rw [if_pos (by omega)]
    rw [if_neg c, hw, if_pos hl, hone]
    rfl
theorem sg_four (k : Nat) (s : ByteArray) (out : List Int) (at_ : Int) (g : List UInt8) (hl : out.length + 4 < 140737488355328) :
    spec_l3Signs.l2 (k + 5) s out at_ (sg_num g 3 : Int) (g.length : Int) 0 = spec_l3Signs.l0 k s (out ++ sgInts (sg_quad g)) (wrap64 (at_ + 3)) := by
  have h0 := sg_step (k + 4) s out at_ g 0 (by omega) (by omega)
  have h1 := sg_step (k + 3) s (out ++ sgInts [sg_one g 0]) at_ g 1 (by omega) (by simp [sgInts]; omega)
  have h2 := sg_step (k + 2) s (out ++ sgInts [sg_one g 0] ++ sgInts [sg_one g 1]) at_ g 2 (by omega) (by simp [sgInts]; omega)
  have h3 := sg_step (k + 1) s (out ++ sgInts [sg_one g 0] ++ sgInts [sg_one g 1] ++ sgInts [sg_one g 2]) at_ g 3 (by omega) (by simp [sgInts]; omega)
  refine h0.trans (h1.trans (h2.trans (h3.trans ?_)))
  rw [spec_l3Signs.l2, if_neg (by decide)]
  simp only [sgInts, sg_quad, List.append_assoc, List.map_cons, List.map_nil, List.cons_append, List.nil_append]
theorem sg_or' (n b : Nat) (hn : n < 65536) (hb : b < 256) : Go.bits .or .i64 ((n * 256 : Nat) : Int) (b : Int) = ((n * 256 : Nat) : Int) + (b : Int) :=
  sg_or _ _ (by omega) (by omega) (by omega) (by omega) (by omega)
theorem sg_shl (n : Nat) (hn : n < 65536) : wrap64 ((n : Int) * 256) = ((n * 256 : Nat) : Int) := by rw [w64 (by omega) (by omega)]; omega
theorem sg_small (b : Nat) (hb : b < 256) : wrap64 (b : Int) = (b : Int) := w64 (by omega) (by omega)
/-- One byte of a group. -/
theorem sg_byte (k : Nat) (s : ByteArray) (out : List Int) (a : Nat) (g : List UInt8) (hg : g = (s.data.toList.drop a).take 3) (hs : s.size ≤ 4194304) (ha : a < s.size) (i : Nat) (hi : i < 3) :
    spec_l3Signs.l1 (k + 1) s out (a : Int) (sg_num g i : Int) (g.length : Int) (i : Int) = spec_l3Signs.l1 k s out (a : Int) (sg_num g (i + 1) : Int) (g.length : Int) ((i + 1 : Nat) : Int) := by
  have hn : sg_num g i < 65536 := Nat.lt_of_lt_of_le (sg_num_lt g i) (by rcases (by omega : i = 0 ∨ i = 1 ∨ i = 2) with rfl | rfl | rfl <;> decide)
  have hlen : g.length = min 3 (s.size - a) := by rw [hg, List.length_take, List.length_drop, sg_dl]
  have hw : wrap64 ((i : Int) + 1) = ((i + 1 : Nat) : Int) := by rw [w64 (by omega) (by omega)]; omega
  have hw2 : wrap64 ((a : Int) + (i : Int)) = ((a + i : Nat) : Int) := by rw [w64 (by omega) (by omega)]; omega
  have hb := sg_b_lt g i
  have h3 : (i : Int) < 3 := by omega
  have e1 := sg_shl (sg_num g i) hn
  have e2 := sg_small (sg_b g i) hb
  have e3 := sg_or' (sg_num g i) (sg_b g i) hn hb
  have e4 : ((sg_num g (i + 1) : Nat) : Int) = ((sg_num g i * 256 : Nat) : Int) + (sg_b g i : Int) := Int.natCast_add _ _
  rw [e4, spec_l3Signs.l1, if_pos h3, hw, hw2, e1]
  by_cases c : (i : Int) < (g.length : Int)
  · have hbt : bt s ((a + i : Nat) : Int) = (sg_b g i : Int) := by
      rw [sg_bt' s (a + i) (by omega)]
      have : g.getD i 0 = s.data.toList.getD (a + i) 0 := by
        rw [hg, List.getD_eq_getElem?_getD, List.getD_eq_getElem?_getD, List.getElem?_take, if_pos hi, List.getElem?_drop]
      rw [sg_b, this]
    have p0 : (0 : Int) ≤ ((a + i : Nat) : Int) := by omega
    have p1 : ((a + i : Nat) : Int) < (s.size : Int) := by omega
    rw [if_pos c, if_pos p0, if_pos p1, hbt, e2, e3]
  · have hb0 : sg_b g i = 0 := by rw [sg_b, List.getD_eq_getElem?_getD, List.getElem?_eq_none (by omega)]; rfl
    rw [if_neg c, hb0, Int.natCast_zero, Int.add_zero]
theorem sg_three (k : Nat) (s : ByteArray) (out : List Int) (a : Nat) (g : List UInt8) (hg : g = (s.data.toList.drop a).take 3) (hs : s.size ≤ 4194304) (ha : a < s.size) :
    spec_l3Signs.l1 (k + 4) s out (a : Int) 0 (g.length : Int) 0 = spec_l3Signs.l2 k s out (a : Int) (sg_num g 3 : Int) (g.length : Int) 0 := by
  refine (sg_byte (k + 3) s out a g hg hs ha 0 (by omega)).trans ((sg_byte (k + 2) s out a g hg hs ha 1 (by omega)).trans ((sg_byte (k + 1) s out a g hg hs ha 2 (by omega)).trans ?_))
  rw [spec_l3Signs.l1, if_neg (by decide)]
/-- The whole text, group for group. -/
theorem sg_l0 (s : ByteArray) (hs : s.size ≤ 4194304) : ∀ (d a : Nat) (out : List UInt8) (k : Nat), s.size - a ≤ d → 10 * d + 1 ≤ k → out.length ≤ 4 * a → a ≤ s.size + 2 →
    spec_l3Signs.l0 k s (sgInts out) (a : Int) = some ⟨(out ++ sg_of (s.data.toList.drop a)).toArray⟩
  | 0, a, out, k, hd, hk, ho, ha => by
    obtain ⟨k, rfl⟩ : ∃ m, k = m + 1 := ⟨k - 1, by omega⟩
    rw [spec_l3Signs.l0, if_neg (by omega), sgInts_str, List.drop_eq_nil_of_le (by rw [sg_dl]; omega)]
    simp [sg_of, sg_all]
  | d + 1, a, out, k, hd, hk, ho, ha => by
    by_cases c : a < s.size
    · obtain ⟨k, rfl⟩ : ∃ m, k = m + 10 := ⟨k - 10, by omega⟩
      obtain ⟨g, hg⟩ : ∃ g, g = (s.data.toList.drop a).take 3 := ⟨_, rfl⟩
      have hlen : g.length = min 3 (s.size - a) := by rw [hg, List.length_take, List.length_drop, sg_dl]
      have hl : spec_l1Least.f 3 (wrap64 ((s.size : Int) - (a : Int))) = some (g.length : Int) := by
        rw [w64 (by omega) (by omega), spec_l1Least.f]
        by_cases q : (3 : Int) < (s.size : Int) - (a : Int)
        · rw [if_pos q, show (g.length : Int) = 3 by omega]
        · rw [if_neg q, show (g.length : Int) = (s.size : Int) - (a : Int) by omega]
      rw [spec_l3Signs.l0, if_pos (by omega), hl, Option.bind_some, show k + 9 = (k + 5) + 4 from rfl, sg_three (k + 5) s _ a g hg hs c, sg_four k s _ _ g (by simp [sgInts]; omega), w64 (by omega) (by omega)]
      have e := sg_l0 s hs d (a + 3) (out ++ sg_quad g) k (by omega) (by omega) (by rw [List.length_append, sg_quad_len]; omega) (by omega)
      have e1 : sgInts out ++ sgInts (sg_quad g) = sgInts (out ++ sg_quad g) := by simp [sgInts]
      rw [e1, show (a : Int) + 3 = ((a + 3 : Nat) : Int) by omega, e, sg_of_cons (s.data.toList.drop a) (fun h => by have := congrArg List.length h; rw [List.length_drop, sg_dl, List.length_nil] at this; omega), ← hg, List.drop_drop, List.append_assoc]
    · obtain ⟨k, rfl⟩ : ∃ m, k = m + 1 := ⟨k - 1, by omega⟩
      rw [spec_l3Signs.l0, if_neg (by omega), sgInts_str, List.drop_eq_nil_of_le (by rw [sg_dl]; omega)]
      simp [sg_of, sg_all]
theorem signs_both (s : ByteArray) (hs : s.size ≤ 4194304) (k : Nat) (hk : 10 * s.size + 1 ≤ k) :
    spec_l3Signs.f k s = some ⟨(sg_of s.data.toList).toArray⟩ ∧ impl_signsOf.f s = some ⟨(sg_of s.data.toList).toArray⟩ := by
  refine ⟨?_, by unfold impl_signsOf.f; rw [if_pos (by omega)]⟩
  have := sg_l0 s hs s.size 0 [] k (by omega) hk (by simp) (by omega)
  simpa [sgInts, spec_l3Signs.f] using this

theorem ba_eta (s : ByteArray) : (⟨s.data.toList.toArray⟩ : ByteArray) = s := by cases s; simp
theorem sg_len : ∀ (n : Nat) (l : List UInt8), l.length ≤ n → (sg_of l).length = 4 * ((l.length + 2) / 3)
  | 0, l, h => by have : l = [] := List.eq_nil_of_length_eq_zero (by omega); subst this; rfl
  | n + 1, l, h => by
    by_cases e : l = []
    · subst e; rfl
    · have h0 : 0 < l.length := List.length_pos_iff.2 e
      have := sg_len n (l.drop 3) (by rw [List.length_drop]; omega)
      rw [sg_of_cons l e, List.length_append, sg_quad_len, this, List.length_drop]
      omega
theorem sg_drop : ∀ (i : Nat) (l : List UInt8), (sg_of l).drop (4 * i) = sg_of (l.drop (3 * i))
  | 0, l => rfl
  | i + 1, l => by
    by_cases e : l = []
    · subst e; simp [sg_of, sg_all]
    · rw [sg_of_cons l e, show 4 * (i + 1) = (sg_quad (l.take 3)).length + 4 * i by rw [sg_quad_len]; omega, ← List.drop_drop, List.drop_left, sg_drop i, List.drop_drop]
      congr 2; omega
theorem sg_num3 (g : List UInt8) : sg_num g 3 = (sg_b g 0 * 256 + sg_b g 1) * 256 + sg_b g 2 := by
  show ((0 * 256 + sg_b g 0) * 256 + sg_b g 1) * 256 + sg_b g 2 = _
  omega
theorem sg_b0 (g : List UInt8) (i : Nat) (h : g.length ≤ i) : sg_b g i = 0 := by rw [sg_b, List.getD_eq_getElem?_getD, List.getElem?_eq_none h]; rfl
theorem alpha_idx : ∀ X : Fin 64, Lib.indexByte sg_alpha (sg_alpha.getD X.val 0) = (X.val : Int) := by decide +kernel
theorem alpha_ne : ∀ X : Fin 64, sg_alpha.getD X.val 0 ≠ 61 := by decide +kernel
theorem alpha_idx' (X : Nat) (h : X < 64) : Lib.indexByte sg_alpha (sg_alpha.getD X 0) = (X : Int) := alpha_idx ⟨X, h⟩
/-- The i-th number of six bits. -/
def sg_x (g : List UInt8) (i : Nat) : Nat := sg_num g 3 / 2 ^ (18 - 6 * i) % 64
theorem sg_x_lt (g : List UInt8) (i : Nat) : sg_x g i < 64 := Nat.mod_lt _ (by decide)
theorem sg_one_alpha (g : List UInt8) (i : Nat) (h : i ≤ g.length) : sg_one g i = sg_alpha.getD (sg_x g i) 0 := by unfold sg_one sg_x; rw [if_neg (by omega)]
theorem sg_one_pad (g : List UInt8) (i : Nat) (h : g.length < i) : sg_one g i = 61 := by unfold sg_one; rw [if_pos h]
/-- What has been read of a group behind i signs. -/
def sg_n (g : List UInt8) (i : Nat) : Nat := sg_num g 3 / 2 ^ (24 - 6 * i)
theorem sg_n_step (g : List UInt8) (i : Nat) (hi : i < 4) : sg_n g (i + 1) = sg_n g i * 64 + sg_x g i := by
  unfold sg_n sg_x
  rcases (by omega : i = 0 ∨ i = 1 ∨ i = 2 ∨ i = 3) with rfl | rfl | rfl | rfl
  all_goals simp only [Nat.reduceAdd, Nat.reduceMul, Nat.reduceSub, Nat.reducePow, Nat.div_one]; omega
theorem sg_n_lt (g : List UInt8) (i : Nat) (hi : i ≤ 4) : sg_n g i < 16777216 := Nat.lt_of_le_of_lt (Nat.div_le_self _ _) (sg_num_lt g 3)
theorem sg_n0 (g : List UInt8) : sg_n g 0 = 0 := Nat.div_eq_of_lt (sg_num_lt g 3)
theorem sg_n4 (g : List UInt8) : sg_n g 4 = sg_num g 3 := Nat.div_one _
theorem sg_x_pad (g : List UInt8) (i : Nat) (h1 : 1 ≤ g.length) (hi : i < 4) (h : g.length < i) : sg_x g i = 0 := by
  unfold sg_x
  rw [sg_num3]
  have l0 := sg_b_lt g 0
  have l1 := sg_b_lt g 1
  rcases (by omega : i = 2 ∨ i = 3) with rfl | rfl
  · rw [sg_b0 g 1 (by omega), sg_b0 g 2 (by omega)]
    simp only [Nat.reduceMul, Nat.reduceSub, Nat.reducePow]; omega
  · rw [sg_b0 g 2 (by omega)]
    simp only [Nat.reduceMul, Nat.reduceSub, Nat.reducePow, Nat.div_one]; omega
theorem or6 (n x : Nat) (hn : n < 16777216) (hx : x < 64) : Go.bits .or .i64 (wrap64 ((n : Int) * 64)) (x : Int) = ((n * 64 + x : Nat) : Int) := by
  rw [w64 (by omega) (by omega), bits_join .i64 63 (by decide) (fun n h₀ h₁ => by rw [IntKind.wrap_i64]; omega) 6 _ _ (by omega) (by omega) (by omega) (by omega) (by omega) (by omega)]
  omega
theorem byte_back (b : UInt8) : ((b.toNat : Int)).toNat.toUInt8 = b := by simp
/-! The program's reading. -/
theorem os_step (k : Nat) (t : ByteArray) (out : List Int) (at_ : Int) (u : ByteArray) (n : Int) (i : Nat) (hi : i < 4) (c : i < u.size) :
    impl_ofSigns.l1 (k + 1) t out at_ u n (i : Int) = if Lib.indexByte sg_alpha (u.data.toList.getD i 0) < 0 then some ((⟨#[]⟩ : ByteArray), false) else
      impl_ofSigns.l1 k t out at_ u (Go.bits .or .i64 (wrap64 (n * 64)) (Lib.indexByte sg_alpha (u.data.toList.getD i 0))) ((i + 1 : Nat) : Int) := by
  have hw : wrap64 ((i : Int) + 1) = ((i + 1 : Nat) : Int) := by rw [w64 (by omega) (by omega)]; omega
  have hx : strings_IndexByte.f (⟨#[65, 66, 67, 68, 69, 70, 71, 72, 73, 74, 75, 76, 77, 78, 79, 80, 81, 82, 83, 84, 85, 86, 87, 88, 89, 90, 97, 98, 99, 100, 101, 102, 103, 104, 105, 106, 107, 108, 109, 110, 111, 112, 113, 114, 115, 116, 117, 118, 119, 120, 121, 122, 48, 49, 50, 51, 52, 53, 54, 55, 56, 57, 43, 47]⟩ : ByteArray) (bt u (i : Int)) = some (Lib.indexByte sg_alpha (u.data.toList.getD i 0)) := by
    rw [sg_bt' u i c, strings_IndexByte.f, byte_back]
    rfl
  rw [impl_ofSigns.l1, if_pos (by omega), if_neg (by omega), if_pos (by omega), if_pos (by omega), hx, Option.bind_some, hw]
theorem os_skip (k : Nat) (t : ByteArray) (out : List Int) (at_ : Int) (u : ByteArray) (n : Int) (i : Nat) (hi : i < 4) (c : u.size ≤ i) :
    impl_ofSigns.l1 (k + 1) t out at_ u n (i : Int) = impl_ofSigns.l1 k t out at_ u (wrap64 (n * 64)) ((i + 1 : Nat) : Int) := by
  have hw : wrap64 ((i : Int) + 1) = ((i + 1 : Nat) : Int) := by rw [w64 (by omega) (by omega)]; omega
  rw [impl_ofSigns.l1, if_pos (by omega), if_pos (by omega), hw]
theorem os_l1 (t : ByteArray) (out : List Int) (at_ : Int) (u : ByteArray) : ∀ (d i : Nat), i + d = 4 → ∀ (n : Int) (k : Nat),
    (∃ n', impl_ofSigns.l1 (k + d) t out at_ u n (i : Int) = impl_ofSigns.l1 k t out at_ u n' 4) ∨ impl_ofSigns.l1 (k + d) t out at_ u n (i : Int) = some ((⟨#[]⟩ : ByteArray), false)
  | 0, i, h, n, k => by obtain rfl : i = 4 := by omega
                        exact Or.inl ⟨n, rfl⟩
  | d + 1, i, h, n, k => by
    by_cases c : i < u.size
    · rw [show k + (d + 1) = (k + d) + 1 from rfl, os_step (k + d) t out at_ u n i (by omega) c]
      by_cases q : Lib.indexByte sg_alpha (u.data.toList.getD i 0) < 0
      · rw [if_pos q]; exact Or.inr rfl
      · rw [if_neg q]; exact os_l1 t out at_ u d (i + 1) (by omega) _ k
    · rw [show k + (d + 1) = (k + d) + 1 from rfl, os_skip (k + d) t out at_ u n i (by omega) (by omega)]
      exact os_l1 t out at_ u d (i + 1) (by omega) _ k
theorem os_l2 (t : ByteArray) (at_ n : Int) (m : Nat) (hm : m ≤ 3) : ∀ (d i : Nat), i + d = m → ∀ (out : List Int) (k : Nat), out.length + 3 < 140737488355328 + i →
    ∃ more : List Int, more.length = d ∧ impl_ofSigns.l2 (k + d + 1) t out at_ n (m : Int) (i : Int) = impl_ofSigns.l0 k t (out ++ more) (wrap64 (at_ + 4))
  | 0, i, h, out, k, ho => ⟨[], rfl, by rw [impl_ofSigns.l2, if_neg (by omega), List.append_nil]⟩
  | d + 1, i, h, out, k, ho => by
    have e : wrap64 (16 - wrap64 (8 * (i : Int))) = ((16 - 8 * i : Nat) : Int) := by rw [w64 (n := 8 * (i : Int)) (by omega) (by omega), w64 (by omega) (by omega)]; omega
    have hw : wrap64 ((i : Int) + 1) = ((i + 1 : Nat) : Int) := by rw [w64 (by omega) (by omega)]; omega
    obtain ⟨more, h1, h2⟩ := os_l2 t at_ n m hm d (i + 1) (by omega) (out ++ [(shr .i64 n (wrap64 (16 - (wrap64 (8 * (i : Int)))))) % 256]) k (by rw [List.length_append]; simp only [List.length_cons, List.length_nil]; omega)
    refine ⟨(shr .i64 n (wrap64 (16 - (wrap64 (8 * (i : Int)))))) % 256 :: more, by rw [List.length_cons, h1], ?_⟩
    rw [show k + (d + 1) + 1 = (k + d + 1) + 1 from rfl, impl_ofSigns.l2, if_pos (by omega), if_pos (by rw [e]; omega), if_pos (by omega), hw, h2, List.append_assoc]
    rfl
theorem os_trim (x : ByteArray) (h : x.size ≤ 140737488355328) : strings_TrimRight.f x (⟨#[61]⟩ : ByteArray) = some ⟨(Lib.trimRightB x.data.toList 61).toArray⟩ := by
  unfold strings_TrimRight.f
  show (if (61 : UInt8).toNat < 128 ∧ x.size ≤ 9223372036854775807 then _ else _) = _
  rw [if_pos ⟨by decide, by omega⟩]
theorem trimB_len (l : List UInt8) (c : UInt8) : (Lib.trimRightB l c).length ≤ l.length := by
  unfold Lib.trimRightB
  rw [List.length_reverse]
  exact Nat.le_trans (List.dropWhile_sublist _).length_le (by rw [List.length_reverse]; exact Nat.le_refl _)
/-- Whatever the text: an answer; and where it is yes, the text is that of the answer. -/
theorem os_l0e (t : ByteArray) (ht : t.size ≤ 800) : ∀ (d a : Nat) (out : List Int) (k : Nat), a + 4 * d = t.size → 10 * d + 1 ≤ k → out.length ≤ a →
    ∃ r : ByteArray × Bool, impl_ofSigns.l0 k t out (a : Int) = some r ∧ (r.2 = true → sg_of r.1.data.toList = t.data.toList ∧ r.1.size ≤ 600) ∧ (r.2 = false → r.1 = ⟨#[]⟩)
  | 0, a, out, k, hd, hk, ho => by
    obtain ⟨k, rfl⟩ : ∃ m, k = m + 1 := ⟨k - 1, by omega⟩
    have hs : (strOfNums out).size = out.length := by simp [strOfNums, ByteArray.size]
    rw [impl_ofSigns.l0, if_neg (by omega), impl_signsOf.f, if_pos (by rw [hs]; omega), Option.bind_some]
    by_cases c : (⟨(sg_of (strOfNums out).data.toList).toArray⟩ : ByteArray).toList = t.toList
    · rw [if_pos c]
      by_cases q : (out.length : Int) > 600
      · rw [if_pos q]; exact ⟨_, rfl, (fun h => by cases h), fun _ => rfl⟩
      · rw [if_neg q]
        refine ⟨_, rfl, fun _ => ⟨?_, by rw [hs]; omega⟩, fun h => by cases h⟩
        rw [ByteArray.toList_eq, ByteArray.toList_eq] at c
        exact c
    · rw [if_neg c]; exact ⟨_, rfl, (fun h => by cases h), fun _ => rfl⟩
  | d + 1, a, out, k, hd, hk, ho => by
    obtain ⟨k, rfl⟩ : ∃ m, k = m + 10 := ⟨k - 10, by omega⟩
    have hw : wrap64 ((a : Int) + 4) = ((a + 4 : Nat) : Int) := by rw [w64 (by omega) (by omega)]; omega
    obtain ⟨u, hu⟩ : ∃ u : ByteArray, u = ⟨(Lib.trimRightB (t.extract a (a + 4)).data.toList 61).toArray⟩ := ⟨_, rfl⟩
    have hx : (t.extract a (a + 4)).size = 4 := by rw [ByteArray.size_extract]; omega
    have ul : u.size ≤ 4 := by
      rw [hu]
      have := trimB_len (t.extract a (a + 4)).data.toList 61
      rw [sg_dl, hx] at this
      exact Nat.le_trans (Nat.le_of_eq List.size_toArray) this
    have e1 : impl_ofSigns.l0 (k + 10) t out (a : Int) = impl_ofSigns.l1 (k + 9) t out (a : Int) u 0 0 := by
      rw [impl_ofSigns.l0, if_pos (by omega), if_pos (by omega), hw, if_pos (by omega), if_pos (by omega), Int.toNat_natCast, Int.toNat_natCast, os_trim _ (by omega), Option.bind_some, hu]
    rw [e1]
    rcases os_l1 t out (a : Int) u 4 0 rfl 0 (k + 5) with ⟨n', h⟩ | h
    · rw [show (0 : Int) = ((0 : Nat) : Int) from rfl, show k + 9 = k + 5 + 4 from rfl]
      refine (show _ from ?_)
      have h' : impl_ofSigns.l1 (k + 5 + 4) t out (a : Int) u ((0 : Nat) : Int) ((0 : Nat) : Int) = impl_ofSigns.l1 (k + 5) t out (a : Int) u n' 4 := h
      rw [h', show k + 5 = (k + 4) + 1 from rfl, impl_ofSigns.l1, if_neg (by decide)]
      by_cases c : (u.size : Int) < 2
      · rw [if_pos c]; exact ⟨_, rfl, (fun h => by cases h), fun _ => rfl⟩
      · rw [if_neg c]
        obtain ⟨m, hm⟩ : ∃ m : Nat, m = u.size - 1 := ⟨_, rfl⟩
        have em : wrap64 ((u.size : Int) - 1) = (m : Int) := by rw [w64 (by omega) (by omega)]; omega
        rw [em]
        obtain ⟨j, hj⟩ : ∃ j, k + 4 = j + m + 1 := ⟨k + 3 - m, by omega⟩
        obtain ⟨more, m1, m2⟩ := os_l2 t (a : Int) n' m (by omega) m 0 (by omega) out j (by omega)
        have m2' : impl_ofSigns.l2 (j + m + 1) t out (a : Int) n' (m : Int) 0 = impl_ofSigns.l0 j t (out ++ more) (wrap64 ((a : Int) + 4)) := m2
        rw [hj, m2', hw]
        exact os_l0e t ht d (a + 4) (out ++ more) j (by omega) (by omega) (by rw [List.length_append]; omega)
    · exact ⟨_, h, (fun h => by cases h), fun _ => rfl⟩
theorem os_totale (t : ByteArray) (ht : t.size ≤ 140737488355328) (k : Nat) (hk : 2100 ≤ k) :
    ∃ r : ByteArray × Bool, impl_ofSigns.f k t = some r ∧ (r.2 = true → sg_of r.1.data.toList = t.data.toList ∧ r.1.size ≤ 600) ∧ (r.2 = false → r.1 = ⟨#[]⟩) := by
  obtain ⟨k, rfl⟩ : ∃ m, k = m + 1 := ⟨k - 1, by omega⟩
  unfold impl_ofSigns.f
  by_cases c : (t.size : Int) % 4 = 0
  · rw [if_pos c, impl_ofSigns.j0]
    by_cases q : (t.size : Int) > 800
    · rw [if_pos (decide_eq_true q)]; exact ⟨_, rfl, (fun h => by cases h), fun _ => rfl⟩
    · rw [if_neg (by rw [decide_eq_true_eq]; exact q)]
      exact os_l0e t (by omega) (t.size / 4) 0 [] k (by omega) (by omega) (by simp)
  · rw [if_neg c, impl_ofSigns.j0, if_pos rfl]; exact ⟨_, rfl, (fun h => by cases h), fun _ => rfl⟩
theorem os_total (t : ByteArray) (ht : t.size ≤ 140737488355328) (k : Nat) (hk : 2100 ≤ k) :
    ∃ r : ByteArray × Bool, impl_ofSigns.f k t = some r ∧ (r.2 = true → sg_of r.1.data.toList = t.data.toList ∧ r.1.size ≤ 600) := by
  obtain ⟨r, h1, h2, _⟩ := os_totale t ht k hk
  exact ⟨r, h1, h2⟩
theorem sg_quad_at (g : List UInt8) (j : Nat) (h : j < 4) : (sg_quad g)[j]? = some (sg_one g j) := by
  rcases (by omega : j = 0 ∨ j = 1 ∨ j = 2 ∨ j = 3) with rfl | rfl | rfl | rfl <;> rfl
theorem sg_trim (g : List UInt8) (h3 : g.length ≤ 3) : Lib.trimRightB (sg_quad g) 61 = (sg_quad g).take (g.length + 1) := by
  refine Lib.trimRightB_take _ _ (g.length + 1) (by rw [sg_quad_len]; omega) (fun j b hj hb => ?_) (fun b _ hb => ?_)
  · by_cases c : j < 4
    · rw [sg_quad_at g j c] at hb
      rw [← Option.some.inj hb]; exact sg_one_pad g j (by omega)
    · rw [List.getElem?_eq_none (by rw [sg_quad_len]; omega)] at hb; cases hb
  · rw [Nat.add_sub_cancel, sg_quad_at g _ (by omega)] at hb
    rw [← Option.some.inj hb, sg_one_alpha g _ (Nat.le_refl _)]
    exact alpha_ne ⟨_, sg_x_lt g g.length⟩
theorem sg_out (g : List UInt8) (i : Nat) (h3 : g.length ≤ 3) (hi : i < g.length) : sg_num g 3 / 2 ^ (16 - 8 * i) % 256 = sg_b g i := by
  rw [sg_num3]
  have l0 := sg_b_lt g 0
  have l1 := sg_b_lt g 1
  have l2 := sg_b_lt g 2
  rcases (by omega : i = 0 ∨ i = 1 ∨ i = 2) with rfl | rfl | rfl
  all_goals simp only [Nat.reduceMul, Nat.reduceSub, Nat.reducePow, Nat.div_one]; omega
theorem sg_take (g : List UInt8) (i : Nat) (hi : i < g.length) : sgInts (g.take (i + 1)) = sgInts (g.take i) ++ [((sg_b g i : Nat) : Int)] := by
  have e : g.take (i + 1) = g.take i ++ [g.getD i 0] := by rw [List.take_add_one, List.getD_eq_getElem?_getD, List.getElem?_eq_getElem hi]; rfl
  rw [e, sgInts, List.map_append]
  rfl
theorem sg_shr (g : List UInt8) (i : Nat) (h3 : g.length ≤ 3) (hi : i < g.length) : (shr .i64 (sg_num g 3 : Int) ((16 - 8 * i : Nat) : Int)) % 256 = ((sg_b g i : Nat) : Int) := by
  rw [← shr_small (k := .i64) (x := (sg_num g 3 : Int)) (y := ((16 - 8 * i : Nat) : Int)) rfl (by show _ ≤ ((64 : Nat) : Int); omega), Int.toNat_natCast, ← sg_out g i h3 hi, Int.natCast_emod, Int.natCast_ediv, Int.natCast_pow]
  rfl
theorem os_read (t : ByteArray) (out : List Int) (at_ : Int) (u : ByteArray) (g : List UInt8) (h1 : 1 ≤ g.length) (h3 : g.length ≤ 3) (hu : u.data.toList = (sg_quad g).take (g.length + 1)) : ∀ (d i : Nat), i + d = 4 → ∀ (k : Nat),
    impl_ofSigns.l1 (k + d) t out at_ u (sg_n g i : Int) (i : Int) = impl_ofSigns.l1 k t out at_ u (sg_n g 4 : Int) 4
  | 0, i, h, k => by obtain rfl : i = 4 := by omega
                     rfl
  | d + 1, i, h, k => by
    have us : u.size = g.length + 1 := by rw [← sg_dl, hu, List.length_take, sg_quad_len]; omega
    have hn := sg_n_lt g i (by omega)
    have hs := sg_n_step g i (by omega)
    by_cases c : i ≤ g.length
    · have hg : u.data.toList.getD i 0 = sg_alpha.getD (sg_x g i) 0 := by
        rw [← sg_one_alpha g i c, hu, List.getD_eq_getElem?_getD, List.getElem?_take, if_pos (by omega), sg_quad_at g i (by omega)]
        rfl
      rw [show k + (d + 1) = (k + d) + 1 from rfl, os_step (k + d) t out at_ u _ i (by omega) (by omega), hg, alpha_idx' _ (sg_x_lt g i), if_neg (by omega), or6 _ _ hn (sg_x_lt g i), ← hs]
      exact os_read t out at_ u g h1 h3 hu d (i + 1) (by omega) k
    · rw [sg_x_pad g i h1 (by omega) (by omega), Nat.add_zero] at hs
      have hw : wrap64 ((sg_n g i : Int) * 64) = ((sg_n g (i + 1) : Nat) : Int) := by rw [hs, w64 (by omega) (by omega)]; omega
      rw [show k + (d + 1) = (k + d) + 1 from rfl, os_skip (k + d) t out at_ u _ i (by omega) (by omega), hw]
      exact os_read t out at_ u g h1 h3 hu d (i + 1) (by omega) k
theorem os_put (t : ByteArray) (at_ : Int) (g : List UInt8) (h3 : g.length ≤ 3) (out : List Int) (ho : out.length + 3 < 140737488355328) : ∀ (d i : Nat), i + d = g.length → ∀ (k : Nat),
    impl_ofSigns.l2 (k + d + 1) t (out ++ sgInts (g.take i)) at_ (sg_num g 3 : Int) (g.length : Int) (i : Int) = impl_ofSigns.l0 k t (out ++ sgInts g) (wrap64 (at_ + 4))
  | 0, i, h, k => by
    rw [impl_ofSigns.l2, if_neg (by omega), List.take_of_length_le (by omega)]
  | d + 1, i, h, k => by
    have e : wrap64 (16 - wrap64 (8 * (i : Int))) = ((16 - 8 * i : Nat) : Int) := by rw [w64 (n := 8 * (i : Int)) (by omega) (by omega), w64 (by omega) (by omega)]; omega
    have hw : wrap64 ((i : Int) + 1) = ((i + 1 : Nat) : Int) := by rw [w64 (by omega) (by omega)]; omega
    have hl : (out ++ sgInts (g.take i)).length < 140737488355328 := by rw [List.length_append, sgInts, List.length_map, List.length_take]; omega
    rw [show k + (d + 1) + 1 = (k + d + 1) + 1 from rfl, impl_ofSigns.l2, if_pos (by omega), if_pos (by rw [e]; omega), if_pos hl, hw, e, sg_shr g i h3 (by omega), List.append_assoc, ← sg_take g i (by omega)]
    exact os_put t at_ g h3 out ho d (i + 1) (by omega) k
/-- The program reads its own signs. -/
theorem os_back (s t : ByteArray) (hs : s.size ≤ 600) (ht : t.data.toList = sg_of s.data.toList) : ∀ (d i : Nat) (k : Nat), s.size ≤ 3 * (i + d) → 3 * i ≤ s.size + 2 → 10 * d + 1 ≤ k →
    impl_ofSigns.l0 k t (sgInts (s.data.toList.take (3 * i))) ((4 * i : Nat) : Int) = some (s, true) := by
  have tl : t.size = 4 * ((s.size + 2) / 3) := by rw [← sg_dl, ht, sg_len _ _ (Nat.le_refl _), sg_dl]
  intro d
  induction d with
  | zero =>
    intro i k h1 h2 hk
    obtain ⟨k, rfl⟩ : ∃ m, k = m + 1 := ⟨k - 1, by omega⟩
    rw [impl_ofSigns.l0, if_neg (by omega), List.take_of_length_le (by rw [sg_dl]; omega), sgInts_str, ba_eta, impl_signsOf.f, if_pos (by omega), Option.bind_some, if_pos (by rw [ByteArray.toList_eq, ByteArray.toList_eq, ht]), if_neg (by rw [sgInts, List.length_map, sg_dl]; omega)]
  | succ d ih =>
    intro i k h1 h2 hk
    by_cases c : 3 * i < s.size
    · obtain ⟨g, hg⟩ : ∃ g, g = (s.data.toList.drop (3 * i)).take 3 := ⟨_, rfl⟩
      have gl : g.length = min 3 (s.size - 3 * i) := by rw [hg, List.length_take, List.length_drop, sg_dl]
      obtain ⟨k, rfl⟩ : ∃ m, k = m + g.length + 7 := ⟨k - 7 - g.length, by omega⟩
      have hw : wrap64 (((4 * i : Nat) : Int) + 4) = ((4 * (i + 1) : Nat) : Int) := by rw [w64 (by omega) (by omega)]; omega
      have hx : (t.extract (4 * i) (4 * (i + 1))).data.toList = sg_quad g := by
        simp only [ByteArray.data_extract, Array.toList_extract, List.extract_eq_take_drop]
        rw [ht, sg_drop, sg_of_cons _ (fun e => by have := congrArg List.length e; rw [List.length_drop, sg_dl, List.length_nil] at this; omega), ← hg, show 4 * (i + 1) - 4 * i = (sg_quad g).length by rw [sg_quad_len]; omega, List.take_left']
        rfl
      have hxs : (t.extract (4 * i) (4 * (i + 1))).size = 4 := by rw [← sg_dl, hx]; rfl
      obtain ⟨u, hu⟩ : ∃ u : ByteArray, u = ⟨((sg_quad g).take (g.length + 1)).toArray⟩ := ⟨_, rfl⟩
      have hut : u.data.toList = (sg_quad g).take (g.length + 1) := by rw [hu]
      have us : u.size = g.length + 1 := by rw [← sg_dl, hut, List.length_take, sg_quad_len]; omega
      have e1 : impl_ofSigns.l0 (k + g.length + 7) t (sgInts (s.data.toList.take (3 * i))) ((4 * i : Nat) : Int) = impl_ofSigns.l1 (k + g.length + 2 + 4) t (sgInts (s.data.toList.take (3 * i))) ((4 * i : Nat) : Int) u (sg_n g 0 : Int) ((0 : Nat) : Int) := by
        rw [impl_ofSigns.l0, if_pos (by omega), if_pos (by omega), hw, if_pos (by omega), if_pos (by omega), Int.toNat_natCast, Int.toNat_natCast, os_trim _ (by omega), Option.bind_some, hx, sg_trim g (by omega), ← hu, sg_n0]
        rfl
      rw [e1, os_read t _ _ u g (by omega) (by omega) hut 4 0 rfl (k + g.length + 2), show k + g.length + 2 = (k + g.length + 1) + 1 from rfl, impl_ofSigns.l1, if_neg (by decide), if_neg (by omega), us, sg_n4,
        show wrap64 (((g.length + 1 : Nat) : Int) - 1) = (g.length : Int) by rw [w64 (by omega) (by omega)]; omega]
      have p := os_put t ((4 * i : Nat) : Int) g (by omega) (sgInts (s.data.toList.take (3 * i))) (by rw [sgInts, List.length_map, List.length_take, sg_dl]; omega) g.length 0 (by omega) k
      simp only [List.take_zero] at p
      rw [show sgInts ([] : List UInt8) = [] from rfl, List.append_nil] at p
      refine p.trans ?_
      have e2 : sgInts (s.data.toList.take (3 * i)) ++ sgInts g = sgInts (s.data.toList.take (3 * (i + 1))) := by
        rw [hg, sgInts, sgInts, sgInts, ← List.map_append, show 3 * (i + 1) = 3 * i + 3 by omega, List.take_add]
      rw [e2, hw]
      exact ih (i + 1) k (by omega) (by omega) (by omega)
    · obtain ⟨k, rfl⟩ : ∃ m, k = m + 1 := ⟨k - 1, by omega⟩
      rw [impl_ofSigns.l0, if_neg (by omega), List.take_of_length_le (by rw [sg_dl]; omega), sgInts_str, ba_eta, impl_signsOf.f, if_pos (by omega), Option.bind_some, if_pos (by rw [ByteArray.toList_eq, ByteArray.toList_eq, ht]), if_neg (by rw [sgInts, List.length_map, sg_dl]; omega)]
theorem os_of (s t : ByteArray) (hs : s.size ≤ 600) (ht : t.data.toList = sg_of s.data.toList) (k : Nat) (hk : 2100 ≤ k) : impl_ofSigns.f k t = some (s, true) := by
  have tl : t.size = 4 * ((s.size + 2) / 3) := by rw [← sg_dl, ht, sg_len _ _ (Nat.le_refl _), sg_dl]
  obtain ⟨k, rfl⟩ : ∃ m, k = m + 1 := ⟨k - 1, by omega⟩
  unfold impl_ofSigns.f
  rw [if_pos (by omega), impl_ofSigns.j0, if_neg (by rw [decide_eq_true_eq]; omega)]
  exact os_back s t hs ht 200 0 k (by omega) (by omega) (by omega)

/-! The reference's reading. -/
theorem sign_at : ∀ c : Fin 256, spec_l3Sign.f 65 (c.val : Int) = some (Lib.indexByte sg_alpha (UInt8.ofNat c.val)) := by decide +kernel
theorem up_mono {α : Type} (f : Nat → Option α) (hf : ∀ k, LeO (f k) (f (k + 1))) (k0 : Nat) (r : α) (h : f k0 = some r) : ∀ d, f (k0 + d) = some r
  | 0 => h
  | d + 1 => hf (k0 + d) r (up_mono f hf k0 r h d)
theorem up_to {α : Type} (f : Nat → Option α) (hf : ∀ k, LeO (f k) (f (k + 1))) (k0 k : Nat) (hk : k0 ≤ k) (r : α) (h : f k0 = some r) : f k = some r := by
  have := up_mono f hf k0 r h (k - k0)
  rw [Nat.add_sub_cancel' hk] at this
  exact this
theorem sign_at' (n : Nat) (h : n < 256) : spec_l3Sign.f 65 (n : Int) = some (Lib.indexByte sg_alpha (UInt8.ofNat n)) := sign_at ⟨n, h⟩
theorem l3Sign_eq (b : UInt8) (k : Nat) (hk : 65 ≤ k) : spec_l3Sign.f k (b.toNat : Int) = some (Lib.indexByte sg_alpha b) := by
  have h := sign_at' b.toNat (UInt8.toNat_lt b)
  rw [UInt8.ofNat_toNat] at h
  exact up_to (fun k => spec_l3Sign.f k (b.toNat : Int)) (fun k => spec_l3Sign.mono _ k) 65 k hk _ h
theorem so_step (k : Nat) (t : ByteArray) (out : List Int) (a : Nat) (n m : Int) (i : Nat) (hi : i < 4) (hk : 65 ≤ k) (ha : a + i < t.size) (ht : t.size ≤ 4000) :
    spec_l3Of.l1 (k + 1) t out (a : Int) n m (i : Int) = if Lib.indexByte sg_alpha (t.data.toList.getD (a + i) 0) ≥ 0 then
      spec_l3Of.l1 k t out (a : Int) (Go.bits .or .i64 (wrap64 (n * 64)) (Lib.indexByte sg_alpha (t.data.toList.getD (a + i) 0))) (wrap64 (m + 1)) ((i + 1 : Nat) : Int) else
      spec_l3Of.l1 k t out (a : Int) (wrap64 (n * 64)) m ((i + 1 : Nat) : Int) := by
  have hw : wrap64 ((i : Int) + 1) = ((i + 1 : Nat) : Int) := by rw [w64 (by omega) (by omega)]; omega
  have hw2 : wrap64 ((a : Int) + (i : Int)) = ((a + i : Nat) : Int) := by rw [w64 (by omega) (by omega)]; omega
  rw [spec_l3Of.l1, if_pos (by omega), hw2, if_pos (by omega), if_pos (by omega), sg_bt' t (a + i) ha, l3Sign_eq _ k hk, Option.bind_some, hw]
theorem so_l1 (t : ByteArray) (ht : t.size ≤ 4000) (out : List Int) (a : Nat) (ha : a + 4 ≤ t.size) (k : Nat) (hk : 65 ≤ k) : ∀ (d i : Nat), i + d = 4 → ∀ (n : Int) (m : Nat), m ≤ i →
    ∃ (n' : Int) (m' : Nat), m' ≤ 4 ∧ spec_l3Of.l1 (k + d) t out (a : Int) n (m : Int) (i : Int) = spec_l3Of.l1 k t out (a : Int) n' (m' : Int) 4
  | 0, i, h, n, m, hm => by obtain rfl : i = 4 := by omega
                            exact ⟨n, m, hm, rfl⟩
  | d + 1, i, h, n, m, hm => by
    have hw : wrap64 ((m : Int) + 1) = ((m + 1 : Nat) : Int) := by rw [w64 (by omega) (by omega)]; omega
    rw [show k + (d + 1) = (k + d) + 1 from rfl, so_step (k + d) t out a n m i (by omega) (by omega) (by omega) ht]
    by_cases q : Lib.indexByte sg_alpha (t.data.toList.getD (a + i) 0) ≥ 0
    · rw [if_pos q, hw]; exact so_l1 t ht out a ha k hk d (i + 1) (by omega) _ (m + 1) (by omega)
    · rw [if_neg q]; exact so_l1 t ht out a ha k hk d (i + 1) (by omega) _ m (by omega)
theorem so_shift (i : Nat) (hi : i ≤ 2) : IntKind.u64.wrap (wrap64 (16 - wrap64 (8 * (i : Int)))) = ((16 - 8 * i : Nat) : Int) := by
  rcases (by omega : i = 0 ∨ i = 1 ∨ i = 2) with rfl | rfl | rfl <;> decide +kernel
theorem so_l2 (t : ByteArray) (at_ n : Int) (m : Nat) (hm : m ≤ 4) : ∀ (d i : Nat), i + d = m - 1 → ∀ (out : List Int) (k : Nat), out.length + 3 < 140737488355328 + i →
    ∃ more : List Int, more.length = d ∧ spec_l3Of.l2 (k + d + 1) t out at_ n (m : Int) (i : Int) = spec_l3Of.l0 k t (out ++ more) (wrap64 (at_ + 4))
  | 0, i, h, out, k, ho => ⟨[], rfl, by rw [spec_l3Of.l2, w64 (n := (m : Int) - 1) (by omega) (by omega), if_neg (by omega), List.append_nil]⟩
  | d + 1, i, h, out, k, ho => by
    have hw : wrap64 ((i : Int) + 1) = ((i + 1 : Nat) : Int) := by rw [w64 (by omega) (by omega)]; omega
    obtain ⟨more, h1, h2⟩ := so_l2 t at_ n m hm d (i + 1) (by omega) (out ++ [(shr .i64 n ((16 - 8 * i : Nat) : Int)) % 256]) k (by rw [List.length_append]; simp only [List.length_cons, List.length_nil]; omega)
    refine ⟨(shr .i64 n ((16 - 8 * i : Nat) : Int)) % 256 :: more, by rw [List.length_cons, h1], ?_⟩
    rw [show k + (d + 1) + 1 = (k + d + 1) + 1 from rfl, spec_l3Of.l2, w64 (n := (m : Int) - 1) (by omega) (by omega), if_pos (by omega), so_shift i (by omega), if_pos (by omega), if_pos (by omega), hw, h2, List.append_assoc]
    rfl
theorem ba_beq (a b : ByteArray) : (a.toList == b.toList) = true → a = b := fun h => by
  have := eq_of_beq h
  rw [ByteArray.toList_eq, ByteArray.toList_eq] at this
  exact ByteArray.ext (Array.toList_inj.1 this)
theorem so_l0 (t : ByteArray) (ht : t.size ≤ 4000) : ∀ (d a : Nat) (out : List Int) (k : Nat), a + 4 * d = t.size → 10 * d + 50000 ≤ k → out.length ≤ a →
    ∃ r : ByteArray × Bool, spec_l3Of.l0 k t out (a : Int) = some r ∧ (r.2 = true → sg_of r.1.data.toList = t.data.toList ∧ r.1.size ≤ 4000)
  | 0, a, out, k, hd, hk, ho => by
    obtain ⟨k, rfl⟩ : ∃ m, k = m + 1 := ⟨k - 1, by omega⟩
    have hs : (strOfNums out).size = out.length := by simp [strOfNums, ByteArray.size]
    rw [spec_l3Of.l0, if_neg (by omega), (signs_both (strOfNums out) (by omega) k (by omega)).1, Option.bind_some]
    refine ⟨_, rfl, fun h => ⟨?_, by rw [hs]; omega⟩⟩
    have := ba_beq _ _ h
    rw [← this]
  | d + 1, a, out, k, hd, hk, ho => by
    obtain ⟨k, rfl⟩ : ∃ m, k = m + 10 := ⟨k - 10, by omega⟩
    have hw : wrap64 ((a : Int) + 4) = ((a + 4 : Nat) : Int) := by rw [w64 (by omega) (by omega)]; omega
    obtain ⟨n', m, hm, h⟩ := so_l1 t ht out a (by omega) (k + 5) (by omega) 4 0 rfl 0 0 (by omega)
    have e1 : spec_l3Of.l0 (k + 10) t out (a : Int) = spec_l3Of.l1 (k + 5 + 4) t out (a : Int) 0 ((0 : Nat) : Int) ((0 : Nat) : Int) := by
      rw [spec_l3Of.l0, if_pos (by omega)]; rfl
    rw [e1, h, show k + 5 = (k + 4) + 1 from rfl, spec_l3Of.l1, if_neg (by decide)]
    obtain ⟨j, hj⟩ : ∃ j, k + 4 = j + (m - 1) + 1 := ⟨k + 3 - (m - 1), by omega⟩
    obtain ⟨more, m1, m2⟩ := so_l2 t (a : Int) n' m hm (m - 1) 0 (by omega) out j (by omega)
    have m2' : spec_l3Of.l2 (j + (m - 1) + 1) t out (a : Int) n' (m : Int) 0 = spec_l3Of.l0 j t (out ++ more) (wrap64 ((a : Int) + 4)) := m2
    rw [hj, m2', hw]
    exact so_l0 t ht d (a + 4) (out ++ more) j (by omega) (by omega) (by rw [List.length_append]; omega)
theorem so_total (t : ByteArray) (ht : t.size ≤ 4000) (k : Nat) (hk : 60001 ≤ k) :
    ∃ r : ByteArray × Bool, spec_l3Of.f k t = some r ∧ (r.2 = true → sg_of r.1.data.toList = t.data.toList ∧ r.1.size ≤ 4000) := by
  unfold spec_l3Of.f
  by_cases c : (t.size : Int) % 4 = 0
  · rw [if_pos c]
    exact so_l0 t ht (t.size / 4) 0 [] k (by omega) (by omega) (by simp)
  · rw [if_neg c]; exact ⟨_, rfl, fun h => by cases h⟩
theorem idx61 : Lib.indexByte sg_alpha 61 = -1 := by decide +kernel
theorem so_read (t : ByteArray) (ht : t.size ≤ 4000) (out : List Int) (a : Nat) (ha : a + 4 ≤ t.size) (g : List UInt8) (h1 : 1 ≤ g.length) (h3 : g.length ≤ 3) (hu : ∀ i, i < 4 → t.data.toList.getD (a + i) 0 = sg_one g i) (k : Nat) (hk : 65 ≤ k) : ∀ (d i : Nat), i + d = 4 → ∀ (m : Nat), m = min i (g.length + 1) →
    spec_l3Of.l1 (k + d) t out (a : Int) (sg_n g i : Int) (m : Int) (i : Int) = spec_l3Of.l1 k t out (a : Int) (sg_n g 4 : Int) ((g.length + 1 : Nat) : Int) 4
  | 0, i, h, m, hm => by obtain rfl : i = 4 := by omega
                         rw [hm, Nat.min_eq_right (by omega)]; rfl
  | d + 1, i, h, m, hm => by
    have a1 : i ≤ g.length → m + 1 = min (i + 1) (g.length + 1) := by omega
    have a2 : ¬ i ≤ g.length → m = min (i + 1) (g.length + 1) := by omega
    have a3 : i + 1 + d = 4 := by omega
    have hn := sg_n_lt g i (by omega)
    have hs := sg_n_step g i (by omega)
    have hw : wrap64 ((m : Int) + 1) = ((m + 1 : Nat) : Int) := by rw [w64 (by omega) (by omega)]; omega
    rw [show k + (d + 1) = (k + d) + 1 from rfl, so_step (k + d) t out a _ m i (by omega) (by omega) (by omega) ht, hu i (by omega)]
    by_cases c : i ≤ g.length
    · rw [sg_one_alpha g i c, alpha_idx' _ (sg_x_lt g i), if_pos (by omega), or6 _ _ hn (sg_x_lt g i), ← hs, hw]
      exact so_read t ht out a ha g h1 h3 hu k hk d (i + 1) a3 (m + 1) (a1 c)
    · rw [sg_x_pad g i h1 (by omega) (by omega), Nat.add_zero] at hs
      have hw' : wrap64 ((sg_n g i : Int) * 64) = ((sg_n g (i + 1) : Nat) : Int) := by rw [hs, w64 (by omega) (by omega)]; omega
      rw [sg_one_pad g i (by omega), idx61, if_neg (by decide), hw']
      exact so_read t ht out a ha g h1 h3 hu k hk d (i + 1) a3 m (a2 c)
theorem so_put (t : ByteArray) (at_ : Int) (g : List UInt8) (h3 : g.length ≤ 3) (out : List Int) (ho : out.length + 3 < 140737488355328) : ∀ (d i : Nat), i + d = g.length → ∀ (k : Nat),
    spec_l3Of.l2 (k + d + 1) t (out ++ sgInts (g.take i)) at_ (sg_num g 3 : Int) ((g.length + 1 : Nat) : Int) (i : Int) = spec_l3Of.l0 k t (out ++ sgInts g) (wrap64 (at_ + 4))
  | 0, i, h, k => by
    rw [spec_l3Of.l2, w64 (n := ((g.length + 1 : Nat) : Int) - 1) (by omega) (by omega), if_neg (by omega), List.take_of_length_le (by omega)]
  | d + 1, i, h, k => by
    have hw : wrap64 ((i : Int) + 1) = ((i + 1 : Nat) : Int) := by rw [w64 (by omega) (by omega)]; omega
    have hl : (out ++ sgInts (g.take i)).length < 140737488355328 := by rw [List.length_append, sgInts, List.length_map, List.length_take]; omega
    rw [show k + (d + 1) + 1 = (k + d + 1) + 1 from rfl, spec_l3Of.l2, w64 (n := ((g.length + 1 : Nat) : Int) - 1) (by omega) (by omega), if_pos (by omega), so_shift i (by omega), if_pos (by omega), if_pos hl, hw, sg_shr g i h3 (by omega), List.append_assoc, ← sg_take g i (by omega)]
    exact so_put t at_ g h3 out ho d (i + 1) (by omega) k
/-- The reference reads its own signs. -/
theorem so_back (s t : ByteArray) (ht : t.data.toList = sg_of s.data.toList) (hs : s.size ≤ 2900) : ∀ (d i : Nat) (k : Nat), s.size ≤ 3 * (i + d) → 3 * i ≤ s.size + 2 → 10 * d + 50000 ≤ k →
    spec_l3Of.l0 k t (sgInts (s.data.toList.take (3 * i))) ((4 * i : Nat) : Int) = some (s, true) := by
  have tl : t.size = 4 * ((s.size + 2) / 3) := by rw [← sg_dl, ht, sg_len _ _ (Nat.le_refl _), sg_dl]
  have fin : ∀ (i k : Nat), s.size ≤ 3 * i → 50000 ≤ k → spec_l3Of.l0 k t (sgInts (s.data.toList.take (3 * i))) ((4 * i : Nat) : Int) = some (s, true) := by
    intro i k h1 hk
    obtain ⟨k, rfl⟩ : ∃ m, k = m + 1 := ⟨k - 1, by omega⟩
    rw [spec_l3Of.l0, if_neg (by omega), List.take_of_length_le (by rw [sg_dl]; omega), sgInts_str, ba_eta, (signs_both s (by omega) k (by omega)).1, Option.bind_some, ByteArray.toList_eq, ByteArray.toList_eq, ht, beq_self_eq_true]
  intro d
  induction d with
  | zero => intro i k h1 h2 hk; exact fin i k (by omega) (by omega)
  | succ d ih =>
    intro i k h1 h2 hk
    by_cases c : 3 * i < s.size
    · obtain ⟨g, hg⟩ : ∃ g, g = (s.data.toList.drop (3 * i)).take 3 := ⟨_, rfl⟩
      have gl : g.length = min 3 (s.size - 3 * i) := by rw [hg, List.length_take, List.length_drop, sg_dl]
      obtain ⟨k, rfl⟩ : ∃ m, k = m + g.length + 7 := ⟨k - 7 - g.length, by omega⟩
      have hw : wrap64 (((4 * i : Nat) : Int) + 4) = ((4 * (i + 1) : Nat) : Int) := by rw [w64 (by omega) (by omega)]; omega
      have hu : ∀ j, j < 4 → t.data.toList.getD (4 * i + j) 0 = sg_one g j := fun j hj => by
        have e : t.data.toList.getD (4 * i + j) 0 = (t.data.toList.drop (4 * i)).getD j 0 := by rw [List.getD_eq_getElem?_getD, List.getD_eq_getElem?_getD, List.getElem?_drop]
        rw [e, ht, sg_drop, sg_of_cons _ (fun e => by have := congrArg List.length e; rw [List.length_drop, sg_dl, List.length_nil] at this; omega), ← hg, List.getD_eq_getElem?_getD, List.getElem?_append_left (by rw [sg_quad_len]; omega), sg_quad_at g j hj]
        rfl
      have e1 : spec_l3Of.l0 (k + g.length + 7) t (sgInts (s.data.toList.take (3 * i))) ((4 * i : Nat) : Int) = spec_l3Of.l1 (k + g.length + 2 + 4) t (sgInts (s.data.toList.take (3 * i))) ((4 * i : Nat) : Int) (sg_n g 0 : Int) ((0 : Nat) : Int) ((0 : Nat) : Int) := by
        rw [spec_l3Of.l0, if_pos (by omega), sg_n0]; rfl
      rw [e1, so_read t (by omega) _ (4 * i) (by omega) g (by omega) (by omega) hu (k + g.length + 2) (by omega) 4 0 rfl 0 (by omega), show k + g.length + 2 = (k + g.length + 1) + 1 from rfl, spec_l3Of.l1, if_neg (by decide), sg_n4]
      have p := so_put t ((4 * i : Nat) : Int) g (by omega) (sgInts (s.data.toList.take (3 * i))) (by rw [sgInts, List.length_map, List.length_take, sg_dl]; omega) g.length 0 (by omega) k
      simp only [List.take_zero] at p
      rw [show sgInts ([] : List UInt8) = [] from rfl, List.append_nil] at p
      refine p.trans ?_
      have e2 : sgInts (s.data.toList.take (3 * i)) ++ sgInts g = sgInts (s.data.toList.take (3 * (i + 1))) := by
        rw [hg, sgInts, sgInts, sgInts, ← List.map_append, show 3 * (i + 1) = 3 * i + 3 by omega, List.take_add]
      rw [e2, hw]
      exact ih (i + 1) k (by omega) (by omega) (by omega)
    · exact fin i k (by omega) (by omega)
theorem so_of (s t : ByteArray) (hs : s.size ≤ 2900) (ht : t.data.toList = sg_of s.data.toList) (k : Nat) (hk : 60000 ≤ k) : spec_l3Of.f k t = some (s, true) := by
  have tl : t.size = 4 * ((s.size + 2) / 3) := by rw [← sg_dl, ht, sg_len _ _ (Nat.le_refl _), sg_dl]
  unfold spec_l3Of.f
  rw [if_pos (by omega)]
  exact so_back s t ht hs 967 0 k (by omega) (by omega) (by omega)

/-- Signs in pairs, read as bytes: as the reference reads them. -/
def dc : List UInt8 → Option (List UInt8)
  | [] => some []
  | [_] => none
  | c :: d :: r => match ox_two (c.toNat : Int) (d.toNat : Int) with
    | some n => (dc r).map (UInt8.ofNat n.toNat :: ·)
    | none => none
/-- As the program reads them: capitals, too. -/
def pdc : List UInt8 → Option (List UInt8)
  | [] => some []
  | [_] => none
  | c :: d :: r => match pu_num 0 [c, d] with
    | some n => (pdc r).map (UInt8.ofNat n :: ·)
    | none => none
theorem hx_keys : ∀ c : Fin 256, (match ox_dig (c.val : Int) with | some x => decide (hx_d.getD x.toNat 0 = UInt8.ofNat c.val) && decide (pu_dig c.val = some x.toNat) && decide (x.toNat < 16) && decide (0 ≤ x) | none => true) = true := by decide +kernel
theorem hx_key (c : UInt8) (x : Int) (h : ox_dig (c.toNat : Int) = some x) : hx_d.getD x.toNat 0 = c ∧ pu_dig c.toNat = some x.toNat ∧ x.toNat < 16 ∧ 0 ≤ x := by
  have := hx_keys ⟨c.toNat, UInt8.toNat_lt c⟩
  simp only at this
  rw [h] at this
  simp only [Bool.and_eq_true, decide_eq_true_eq] at this
  obtain ⟨⟨⟨a, b⟩, c1⟩, d⟩ := this
  exact ⟨by rw [a]; simp, b, c1, d⟩
theorem dig_hx : ∀ x : Fin 16, ox_dig ((hx_d.getD x.val 0).toNat : Int) = some (x.val : Int) := by decide +kernel
theorem two_key (c d : UInt8) (n : Int) (h : ox_two (c.toNat : Int) (d.toNat : Int) = some n) : hx_two (UInt8.ofNat n.toNat) = [c, d] ∧ pu_num 0 [c, d] = some n.toNat ∧ 0 ≤ n ∧ n ≤ 255 := by
  unfold ox_two at h
  obtain ⟨x, hx, h⟩ := Option.bind_eq_some_iff.1 h
  obtain ⟨y, hy, h⟩ := Option.map_eq_some_iff.1 h
  obtain ⟨a1, a2, a3, a4⟩ := hx_key c x hx
  obtain ⟨b1, b2, b3, b4⟩ := hx_key d y hy
  subst h
  have e : (UInt8.ofNat (x * 16 + y).toNat).toNat = x.toNat * 16 + y.toNat := by
    rw [UInt8.toNat_ofNat_of_lt' (by show _ < 256; omega)]; omega
  refine ⟨?_, ?_, by omega, by omega⟩
  · unfold hx_two
    rw [e, show (x.toNat * 16 + y.toNat) / 16 = x.toNat by omega, show (x.toNat * 16 + y.toNat) % 16 = y.toNat by omega, a1, b1]
  · simp only [pu_num, a2, b2]
    congr 1; omega
theorem two_of (b : UInt8) : ∃ c d, hx_two b = [c, d] ∧ ox_two (c.toNat : Int) (d.toNat : Int) = some (b.toNat : Int) := by
  have hb := UInt8.toNat_lt b
  refine ⟨_, _, rfl, ?_⟩
  unfold ox_two
  have h1 := dig_hx ⟨b.toNat / 16, by omega⟩
  have h2 := dig_hx ⟨b.toNat % 16, by omega⟩
  simp only at h1 h2
  rw [h1, Option.bind_some, h2, Option.map_some]
  congr 1; omega
theorem dc_hx : ∀ s : List UInt8, dc (hx_of s) = some s
  | [] => rfl
  | b :: s => by
    obtain ⟨c, d, e1, e2⟩ := two_of b
    have e : hx_of (b :: s) = c :: d :: hx_of s := by unfold hx_of; rw [List.flatMap_cons, e1]; rfl
    rw [e, dc, e2]
    simp only
    rw [dc_hx s, Option.map_some, Int.toNat_natCast]
    congr 2
    simp
theorem hx_dc : ∀ (n : Nat) (l s : List UInt8), l.length ≤ n → dc l = some s → hx_of s = l ∧ pdc l = some s
  | _, [], s, _, h => by
    have : [] = s := Option.some.inj h
    subst this
    exact ⟨rfl, rfl⟩
  | _, [_], s, _, h => by rw [dc] at h; cases h
  | 0, c :: d :: r, s, hn, h => by simp at hn
  | n + 1, c :: d :: r, s, hn, h => by
    rw [dc] at h
    cases hv : ox_two (c.toNat : Int) (d.toNat : Int) with
    | none => rw [hv] at h; cases h
    | some v =>
      rw [hv] at h
      simp only at h
      obtain ⟨s', hs', rfl⟩ := Option.map_eq_some_iff.1 h
      obtain ⟨i1, i2⟩ := hx_dc n r s' (by simp at hn; omega) hs'
      obtain ⟨k1, k2, _, _⟩ := two_key c d v hv
      refine ⟨?_, ?_⟩
      · unfold hx_of at i1 ⊢
        rw [List.flatMap_cons, k1, i1]; rfl
      · rw [pdc, k2]
        simp only
        rw [i2]; rfl
theorem drop_two (t : ByteArray) (i : Nat) (h : i + 2 ≤ t.size) : ∃ c d : UInt8, t.data.toList.drop i = c :: d :: t.data.toList.drop (i + 2) ∧ bt t (i : Int) = (c.toNat : Int) ∧ bt t ((i : Int) + 1) = (d.toNat : Int) ∧ (t.extract i (i + 2)).data.toList = [c, d] := by
  have h1 : i < t.data.toList.length := by rw [sg_dl]; omega
  have h2 : i + 1 < t.data.toList.length := by rw [sg_dl]; omega
  have e1 : t.data.toList.drop i = t.data.toList[i] :: t.data.toList[i + 1] :: t.data.toList.drop (i + 2) := by
    rw [List.drop_eq_getElem_cons h1, List.drop_eq_getElem_cons h2]
  refine ⟨_, _, e1, ?_, ?_, ?_⟩
  · rw [sg_bt' t i (by omega), List.getD_eq_getElem?_getD, List.getElem?_eq_getElem h1]; rfl
  · have := sg_bt' t (i + 1) (by omega)
    rw [show ((i + 1 : Nat) : Int) = (i : Int) + 1 by omega] at this
    rw [this, List.getD_eq_getElem?_getD, List.getElem?_eq_getElem h2]; rfl
  · simp only [ByteArray.data_extract, Array.toList_extract, List.extract_eq_take_drop]
    rw [e1, show i + 2 - i = 2 by omega]; rfl
theorem hexS (t : ByteArray) (ht : t.size ≤ 1200) : ∀ (d i : Nat) (acc : List UInt8) (k : Nat), 2 * i + 2 * d = t.size → d + 1 ≤ k → acc.length ≤ i →
    spec_OfHex.l0 k t (sgInts acc) ((2 * i : Nat) : Int) = some (match dc (t.data.toList.drop (2 * i)) with | none => ((⟨#[]⟩ : ByteArray), false) | some s => ((⟨(acc ++ s).toArray⟩ : ByteArray), true))
  | 0, i, acc, k, hd, hk, ha => by
    obtain ⟨k, rfl⟩ : ∃ m, k = m + 1 := ⟨k - 1, by omega⟩
    rw [spec_OfHex.l0, if_neg (by omega), sgInts_str, List.drop_of_length_le (by rw [sg_dl]; omega), dc]
    simp only [List.append_nil]
  | d + 1, i, acc, k, hd, hk, ha => by
    obtain ⟨k, rfl⟩ : ∃ m, k = m + 1 := ⟨k - 1, by omega⟩
    obtain ⟨c, e, h1, h2, h3, _⟩ := drop_two t (2 * i) (by omega)
    rw [spec_OfHex.l0, if_pos (by omega), if_pos (by omega), h2, h3, h1, dc]
    cases hv : ox_two (c.toNat : Int) (e.toNat : Int) with
    | none => rfl
    | some n =>
      obtain ⟨_, _, n0, n1⟩ := two_key c e n hv
      have hl : (sgInts acc).length = acc.length := by simp [sgInts]
      have hn : sgInts acc ++ [n] = sgInts (acc ++ [UInt8.ofNat n.toNat]) := by
        simp only [sgInts, List.map_append, List.map_cons, List.map_nil]
        congr 2
        rw [UInt8.toNat_ofNat_of_lt' (by show _ < 256; omega)]; omega
      simp only
      rw [if_pos (by omega), hn, show ((2 * i : Nat) : Int) + 2 = ((2 * (i + 1) : Nat) : Int) by omega, hexS t ht d (i + 1) _ k (by omega) (by omega) (by rw [List.length_append]; simp; omega), show 2 * (i + 1) = 2 * i + 2 by omega]
      cases dc (t.data.toList.drop (2 * i + 2)) with
      | none => rfl
      | some s => simp
theorem hexI (t : ByteArray) (ht : t.size ≤ 1200) : ∀ (d i : Nat) (acc : List UInt8) (k : Nat), 2 * i + 2 * d = t.size → d + 1 ≤ k → acc.length ≤ i →
    impl_ofHex.l0 k t (sgInts acc) ((2 * i : Nat) : Int) = some (match pdc (t.data.toList.drop (2 * i)) with | none => ((⟨#[]⟩ : ByteArray), false) | some s => if hx_of (acc ++ s) = t.data.toList then ((⟨(acc ++ s).toArray⟩ : ByteArray), true) else ((⟨#[]⟩ : ByteArray), false))
  | 0, i, acc, k, hd, hk, ha => by
    obtain ⟨k, rfl⟩ : ∃ m, k = m + 1 := ⟨k - 1, by omega⟩
    have hs : (⟨acc.toArray⟩ : ByteArray).size = acc.length := by simp [ByteArray.size]
    rw [impl_ofHex.l0, if_neg (by omega), sgInts_str, List.drop_of_length_le (by rw [sg_dl]; omega), pdc]
    unfold impl_hexOf.f
    rw [if_pos (by omega), Option.bind_some, ByteArray.toList_eq, ByteArray.toList_eq]
    simp only [List.append_nil]
    by_cases q : hx_of acc = t.data.toList
    · rw [if_pos q, if_pos q]
    · rw [if_neg q, if_neg q]
  | d + 1, i, acc, k, hd, hk, ha => by
    obtain ⟨k, rfl⟩ : ∃ m, k = m + 1 := ⟨k - 1, by omega⟩
    obtain ⟨c, e, h1, h2, h3, h4⟩ := drop_two t (2 * i) (by omega)
    have hw : wrap64 (((2 * i : Nat) : Int) + 2) = ((2 * (i + 1) : Nat) : Int) := by rw [w64 (by omega) (by omega)]; omega
    have hs : (t.extract (2 * i) (2 * (i + 1))).size = 2 := by rw [ByteArray.size_extract]; omega
    rw [impl_ofHex.l0, hw, if_pos (by omega), if_pos (by omega), if_pos (by omega), if_pos (by omega), Int.toNat_natCast, Int.toNat_natCast]
    unfold strconv_ParseUint.f
    rw [if_pos ⟨hs, rfl, rfl⟩, show 2 * (i + 1) = 2 * i + 2 by omega, h4, h1, pdc]
    cases hv : pu_num 0 [c, e] with
    | none => rfl
    | some n =>
      have hl : (sgInts acc).length = acc.length := by simp [sgInts]
      have hn : sgInts acc ++ [(n : Int) % 256] = sgInts (acc ++ [UInt8.ofNat n]) := by
        simp only [sgInts, List.map_append, List.map_cons, List.map_nil]
        congr 2
      simp only [Option.bind_some, Option.isNone_none, if_true]
      rw [if_pos (by omega), hn, show ((2 * i + 2 : Nat) : Int) = ((2 * (i + 1) : Nat) : Int) by omega, hexI t ht d (i + 1) _ k (by omega) (by omega) (by rw [List.length_append]; simp; omega), show 2 * (i + 1) = 2 * i + 2 by omega]
      cases pdc (t.data.toList.drop (2 * i + 2)) with
      | none => rfl
      | some s => simp
/-- Both read hexadecimal signs alike: what is accepted are just the signs of some string. -/
theorem ofHex_both (t : ByteArray) (k : Nat) (hk : 700 ≤ k) : ∃ x : ByteArray × Bool, impl_OfHex.f k t = some x ∧ spec_OfHex.f k t = some x ∧ (x.2 = true → t.data.toList = hx_of x.1.data.toList ∧ x.1.size ≤ 600) := by
  unfold impl_OfHex.f spec_OfHex.f
  by_cases c1 : (t.size : Int) > 1200
  · rw [if_pos c1, if_pos c1]; exact ⟨_, rfl, rfl, fun h => by cases h⟩
  by_cases c2 : (t.size : Int) % 2 = 1
  · rw [if_neg c1, if_neg c1, if_pos c2, if_pos c2]; exact ⟨_, rfl, rfl, fun h => by cases h⟩
  rw [if_neg c1, if_neg c1, if_neg c2, if_neg c2]
  have hS := hexS t (by omega) (t.size / 2) 0 [] k (by omega) (by omega) (by simp)
  have hI := hexI t (by omega) (t.size / 2) 0 [] k (by omega) (by omega) (by simp)
  rw [Nat.mul_zero, List.drop_zero] at hS hI
  rw [show spec_OfHex.l0 k t [] 0 = _ from hS]
  unfold impl_ofHex.f
  rw [show impl_ofHex.l0 k t [] 0 = _ from hI, Option.bind_some]
  simp only [List.nil_append]
  cases hd : dc t.data.toList with
  | some s =>
    obtain ⟨i1, i2⟩ := hx_dc _ _ s (Nat.le_refl _) hd
    rw [i2]
    simp only
    rw [if_pos i1]
    refine ⟨_, rfl, rfl, fun _ => ⟨i1.symm, ?_⟩⟩
    have hl := hx_len s
    rw [i1, sg_dl] at hl
    simp [ByteArray.size]
    omega
  | none =>
    cases hp : pdc t.data.toList with
    | none => exact ⟨_, rfl, rfl, fun h => by cases h⟩
    | some s =>
      simp only
      rw [if_neg (fun e => by rw [← e, dc_hx] at hd; cases hd)]
      exact ⟨_, rfl, rfl, fun h => by cases h⟩
theorem ofHex_of (s t : ByteArray) (hs : s.size ≤ 600) (ht : t.data.toList = hx_of s.data.toList) (k : Nat) (hk : 700 ≤ k) : impl_OfHex.f k t = some (s, true) := by
  have hl := hx_len s.data.toList
  rw [← ht, sg_dl, sg_dl] at hl
  unfold impl_OfHex.f
  rw [if_neg (by omega), if_neg (by omega)]
  have hI := hexI t (by omega) (t.size / 2) 0 [] k (by omega) (by omega) (by simp)
  rw [Nat.mul_zero, List.drop_zero] at hI
  unfold impl_ofHex.f
  rw [show impl_ofHex.l0 k t [] 0 = _ from hI, Option.bind_some]
  have hd : dc t.data.toList = some s.data.toList := by rw [ht, dc_hx]
  obtain ⟨i1, i2⟩ := hx_dc _ _ _ (Nat.le_refl _) hd
  simp only [List.nil_append]
  rw [i2]
  simp only
  rw [if_pos i1]

theorem hx_and (x : Int) (h0 : 0 ≤ x) (h1 : x < 256) : Go.bits .and .u8 x 15 = x % 16 := by
  have h := bits_mask .u8 8 (by decide) (fun n h₀ h₁ => by rw [show IntKind.u8.wrap n = n % 256 from rfl]; omega) 4 (by decide) x h0 (by omega)
  simpa using h
theorem hexSize (xs : List Int) : (strOfNums xs).size = xs.length := by simp [strOfNums, ByteArray.size]
theorem l1Hex_l0 (x : ByteArray) (hx : x.size ≤ 1000000) : ∀ (d i : Nat) (out : List Int) (k : Nat), i + d = x.size → d + 1 ≤ k → out.length = 2 * i →
    ∃ r : ByteArray, spec_l1Hex.l0 k x out (i : Int) = some r ∧ r.size = 2 * x.size
  | 0, i, out, k, hd, hk, ho => by
    obtain ⟨k, rfl⟩ : ∃ m, k = m + 1 := ⟨k - 1, by omega⟩
    rw [spec_l1Hex.l0, if_neg (by omega)]
    exact ⟨_, rfl, by rw [hexSize]; omega⟩
  | d + 1, i, out, k, hd, hk, ho => by
    obtain ⟨k, rfl⟩ : ∃ m, k = m + 1 := ⟨k - 1, by omega⟩
    have b := bt_range x (i : Int)
    have hw : wrap64 ((i : Int) + 1) = ((i + 1 : Nat) : Int) := by rw [w64 (by omega) (by omega)]; omega
    rw [spec_l1Hex.l0, hx_and _ b.1 (by omega), if_pos (by omega), if_pos (by omega), if_pos (by omega), if_pos (by omega), if_pos (by omega), if_pos (by omega), Option.bind_some]
    rw [if_pos (by simp only [List.length_cons, List.length_nil]; omega), hw]
    exact l1Hex_l0 x hx d (i + 1) _ k (by omega) (by omega) (by rw [List.length_append]; simp only [List.length_cons, List.length_nil]; omega)

/-! The reader of choices: it never fails, and tells numbers in their ranges. -/
def Bytes8 (l : List Int) : Prop := ∀ x ∈ l, 0 ≤ x ∧ x ≤ 255
theorem bytes_of_wf {l : List Int} (h : ∀ x ∈ l, (Lit.int .u8 x).wf = true) : Bytes8 l := fun x hx => by
  have := h x hx
  simpa [Lit.wf, IntKind.min, IntKind.max, IntKind.signed, IntKind.bits] using this
theorem bytes_rd {l : List Int} (h : Bytes8 l) (i : Int) (h0 : 0 ≤ i) (h1 : i < l.length) : 0 ≤ rd l i ∧ rd l i ≤ 255 := by
  have hi : i.toNat < l.length := by omega
  have : rd l i = l[i.toNat] := by simp [rd, List.getD_eq_getElem?_getD, hi]
  rw [this]; exact h _ (List.getElem_mem hi)
theorem and255 (x : Int) (h0 : 0 ≤ x) (h1 : x < 18446744073709551616) : Go.bits .and .u64 x 255 = x % 256 := by
  have h := bits_mask .u64 64 (by decide) (fun n h₀ h₁ => by simp [IntKind.wrap, IntKind.bits, IntKind.signed]; omega) 8 (by decide) x h0 (by omega)
  simpa using h
theorem u64_range (x : Int) : 0 ≤ IntKind.u64.wrap x ∧ IntKind.u64.wrap x < 18446744073709551616 := by simp [IntKind.wrap, IntKind.bits, IntKind.signed]; omega
theorem cur_next (l : List Int) (hl : Bytes8 l) (at_ s : Int) (h0 : 0 ≤ at_) (h1 : at_ < 4611686018427387904) : ∃ r s', spec_l1Cur_next.f l at_ s = some (r, at_ + 1, s') ∧ 0 ≤ r ∧ r ≤ 255 := by
  have hw : wrap64 (at_ + 1) = at_ + 1 := w64 (by omega) (by omega)
  have hseed : ∀ x : Int, 0 ≤ wrap64 (Go.bits .and .u64 (IntKind.u64.wrap x / 1099511627776) 255) ∧ wrap64 (Go.bits .and .u64 (IntKind.u64.wrap x / 1099511627776) 255) ≤ 255 := fun x => by
    have hx := u64_range x
    rw [and255 _ (by omega) (by omega), w64 (by omega) (by omega)]; omega
  unfold spec_l1Cur_next.f
  rw [hw]
  by_cases hlt : at_ < (l.length : Int)
  · have hb := bytes_rd hl at_ h0 hlt
    rw [if_pos hlt, if_pos h0]
    split
    · exact ⟨_, _, rfl, by rw [w64 (by omega) (by omega)]; exact hb.1, by rw [w64 (by omega) (by omega)]; exact hb.2⟩
    · exact ⟨_, _, rfl, (hseed _).1, (hseed _).2⟩
  · rw [if_neg hlt]
    split
    · exact ⟨_, _, rfl, by omega, by omega⟩
    · exact ⟨_, _, rfl, (hseed _).1, (hseed _).2⟩
theorem cur_pick (l : List Int) (hl : Bytes8 l) (at_ s n : Int) (h0 : 0 ≤ at_) (h1 : at_ < 2305843009213693952) (hn : n < 4611686018427387904) : ∃ r a' s', spec_l1Cur_pick.f l at_ s n = some (r, a', s') ∧ at_ ≤ a' ∧ a' ≤ at_ + 2 ∧ 0 ≤ r ∧ (1 ≤ n → r < n) := by
  unfold spec_l1Cur_pick.f
  by_cases hs : n ≤ 1
  · rw [if_pos hs]; exact ⟨0, at_, s, rfl, by omega, by omega, by omega, by omega⟩
  rw [if_neg hs]
  obtain ⟨r, s', h, hr0, hr1⟩ := cur_next l hl at_ s h0 (by omega)
  rw [h]
  simp only [Option.bind_some]
  by_cases hb : n > 200
  · obtain ⟨r2, s2, h2, h3, h4⟩ := cur_next l hl (at_ + 1) s' (by omega) (by omega)
    rw [if_pos hb, h2]
    simp only [Option.bind_some]
    rw [if_neg (by omega), w64 (n := r * 256) (by omega) (by omega), w64 (by omega) (by omega), Int.tmod_eq_emod_of_nonneg (by omega)]
    exact ⟨_, _, _, rfl, by omega, by omega, Int.emod_nonneg _ (by omega), fun _ => Int.emod_lt_of_pos _ (by omega)⟩
  · rw [if_neg hb, if_neg (by omega), Int.tmod_eq_emod_of_nonneg (by omega)]
    exact ⟨_, _, _, rfl, by omega, by omega, Int.emod_nonneg _ (by omega), fun _ => Int.emod_lt_of_pos _ (by omega)⟩
theorem cur_one (l : List Int) (hl : Bytes8 l) (at_ s n : Int) (h0 : 0 ≤ at_) (h1 : at_ < 2305843009213693952) (hn : n < 4611686018427387904) : ∃ b a' s', spec_l1Cur_one.f l at_ s n = some (b, a', s') ∧ at_ ≤ a' ∧ a' ≤ at_ + 2 := by
  obtain ⟨r, a', s', h, h2, h3, _⟩ := cur_pick l hl at_ s n h0 h1 hn
  unfold spec_l1Cur_one.f
  rw [h]
  exact ⟨_, _, _, rfl, h2, h3⟩

theorem cur_among (l : List Int) (hl : Bytes8 l) (at_ s : Int) (m : List Int) (hm : 1 ≤ m.length) (hm2 : m.length < 4000000000) (h0 : 0 ≤ at_) (h1 : at_ < 2305843009213693952) : ∃ r a' s', spec_l1Cur_among.f l at_ s m = some (r, a', s') ∧ at_ ≤ a' ∧ a' ≤ at_ + 2 ∧ r ∈ m := by
  obtain ⟨r, a', s', h, h2, h3, h4, h5⟩ := cur_pick l hl at_ s m.length h0 h1 (by omega)
  have h5 := h5 (by omega)
  unfold spec_l1Cur_among.f
  rw [h]
  simp only [Option.bind_some]
  rw [if_pos h4, if_pos h5]
  refine ⟨_, _, _, rfl, h2, h3, ?_⟩
  have hi : r.toNat < m.length := by omega
  have : rd m r = m[r.toNat] := by simp [rd, List.getD_eq_getElem?_getD, hi]
  rw [this]; exact List.getElem_mem hi

theorem size_nums' (l : List Int) : (strOfNums l).size = l.length := by simp [strOfNums, ByteArray.size]
theorem cur_text_l0 (l : List Int) (hl : Bytes8 l) : ∀ (d i : Nat) (y : List Int) (at_ s : Int), i + d = y.length → y.length ≤ 1000 → 0 ≤ at_ → at_ + 2 * d < 1000000000000 →
    ∃ r a' s', (∀ k : Nat, spec_l1Cur_text.l0 (k + d + 1) y (y.length : Int) (i : Int) l at_ s = some (r, a', s')) ∧ at_ ≤ a' ∧ a' ≤ at_ + 2 * d ∧ r.size = y.length
  | 0, i, y, at_, s, hi, hy, h0, h1 => ⟨strOfNums y, at_, s, fun k => by rw [spec_l1Cur_text.l0, if_neg (by omega)], by omega, by omega, size_nums' y⟩
  | d + 1, i, y, at_, s, hi, hy, h0, h1 => by
    obtain ⟨r, a1, s1, p1, q1, q2, q3, q4⟩ := cur_pick l hl at_ s 256 h0 (by omega) (by omega)
    have hw : wrap64 ((i : Int) + 1) = ((i + 1 : Nat) : Int) := by rw [w64 (by omega) (by omega)]; omega
    have hl2 : (y.set ((i : Int)).toNat (r % 256)).length = y.length := List.length_set ..
    obtain ⟨r', a', s', e, e1, e2, e3⟩ := cur_text_l0 l hl d (i + 1) (y.set ((i : Int)).toNat (r % 256)) a1 s1 (by rw [hl2]; omega) (by rw [hl2]; omega) (by omega) (by omega)
    rw [hl2] at e e3
    refine ⟨r', a', s', fun k => ?_, by omega, by omega, e3⟩
    rw [show k + (d + 1) + 1 = (k + d + 1) + 1 from rfl, spec_l1Cur_text.l0, if_pos (by omega), p1, Option.bind_some]
    simp only
    rw [if_pos (by omega), if_pos (by omega), hw]
    exact e k
theorem cur_text (l : List Int) (hl : Bytes8 l) (at_ s : Int) (h0 : 0 ≤ at_) (h1 : at_ < 1000000000) (k : Nat) (hk : 100 ≤ k) :
    ∃ r a' s', spec_l1Cur_text.f k l at_ s = some (r, a', s') ∧ at_ ≤ a' ∧ a' ≤ at_ + 100 ∧ r.size ≤ 601 := by
  obtain ⟨b, a1, s1, p1, q1, q2⟩ := cur_one l hl at_ s 12 h0 (by omega) (by omega)
  unfold spec_l1Cur_text.f
  rw [p1, Option.bind_some]
  cases b with
  | true =>
    obtain ⟨r, a2, s2, p2, r1, r2, r3⟩ := cur_among l hl a1 s1 [55, 56, 63, 64, 65, 119, 600, 601] (by decide) (by decide) (by omega) (by omega)
    have hr : 0 ≤ r ∧ r ≤ 601 := by
      have : ∀ x ∈ ([55, 56, 63, 64, 65, 119, 600, 601] : List Int), 0 ≤ x ∧ x ≤ 601 := by decide
      exact this r r3
    simp only [if_true]
    rw [p2, Option.bind_some]
    simp only
    rw [if_pos hr.1, if_pos (by omega)]
    exact ⟨_, _, _, rfl, by omega, by omega, by rw [size_nums', List.length_replicate]; omega⟩
  | false =>
    obtain ⟨n, a2, s2, p2, r1, r2, r3, r4⟩ := cur_pick l hl a1 s1 20 (by omega) (by omega) (by omega)
    have r4 := r4 (by omega)
    simp only [Bool.false_eq_true, if_false]
    rw [p2, Option.bind_some]
    simp only
    rw [if_pos r3, if_pos (by omega), Option.bind_some]
    obtain ⟨r, a', s', e, e1, e2, e3⟩ := cur_text_l0 l hl n.toNat 0 (List.replicate n.toNat 0) a2 s2 (by rw [List.length_replicate]; omega) (by rw [List.length_replicate]; omega) (by omega) (by omega)
    have := e (k - n.toNat - 1)
    rw [show k - n.toNat - 1 + n.toNat + 1 = k by omega] at this
    exact ⟨r, a', s', this, by omega, by omega, by rw [e3, List.length_replicate]; omega⟩

theorem size_ext (s : ByteArray) (i j : Nat) (hi : i ≤ j) (hj : j ≤ s.size) : (s.extract i j).size = j - i := by simp [ByteArray.size_extract]; omega
theorem size_nums (xs : List Int) : (strOfNums xs).size = xs.length := by simp [strOfNums, ByteArray.size]

theorem cur_spoilt_l0 (l : List Int) (hl : Bytes8 l) (w : ByteArray) (hw : 1 ≤ w.size) (hw2 : w.size < 4000000000) (d : Nat) : ∀ (t : ByteArray) (n at_ s : Int), 0 ≤ at_ → at_ + 6 * d < 2305843009213693952 → t.size + d < 4000000000 → n = d →
    ∃ r a' s', Ev (fun k => spec_l1Cur_spoilt.l0 k t w n l at_ s) (r, a', s') ∧ at_ ≤ a' ∧ a' ≤ at_ + 6 * d ∧ r.size ≤ t.size + d := by
  induction d with
  | zero =>
    intro t n at_ s h0 h1 h2 hn
    refine ⟨t, at_, s, ?_, by omega, by omega, by omega⟩
    refine Ev.step (fun k => by rw [spec_l1Cur_spoilt.l0, if_neg (by omega)]) ?_
    exact Ev.step (fun k => by rw [spec_l1Cur_spoilt.j1, if_neg (by decide)]) (Ev.now _)
  | succ d ih =>
    intro t n at_ s h0 h1 h2 hn
    by_cases ht : (t.size : Int) > 0
    · obtain ⟨i, a1, s1, p1, q1, q2, q3, q4⟩ := cur_pick l hl at_ s t.size h0 (by omega) (by omega)
      have q4 := q4 (by omega)
      obtain ⟨j, a2, s2, p2, r1, r2, r3, r4⟩ := cur_pick l hl a1 s1 w.size (by omega) (by omega) (by omega)
      have r4 := r4 (by omega)
      obtain ⟨c, a3, s3, p3, u1, u2, u3, u4⟩ := cur_pick l hl a2 s2 3 (by omega) (by omega) (by omega)
      have u4 := u4 (by omega)
      have e1 := size_ext t 0 i.toNat (by omega) (by omega)
      have e2 := size_ext t i.toNat t.size (by omega) (by omega)
      have e3 := size_ext t (i + 1).toNat t.size (by omega) (by omega)
      have e4 := size_nums [bt w j]
      have wi : wrap64 (i + 1) = i + 1 := w64 (by omega) (by omega)
      have wn : wrap64 (n - 1) = n - 1 := w64 (by omega) (by omega)
      simp only [List.length_cons, List.length_nil] at e4
      have hstep : ∀ (t' : ByteArray), t'.size ≤ t.size + 1 → (∀ k, spec_l1Cur_spoilt.j1 (k + 1) t w n true l at_ s = spec_l1Cur_spoilt.l0 k t' w (n - 1) l a3 s3) →
          ∃ r a' s', Ev (fun k => spec_l1Cur_spoilt.l0 k t w n l at_ s) (r, a', s') ∧ at_ ≤ a' ∧ a' ≤ at_ + 6 * ((d + 1 : Nat) : Int) ∧ r.size ≤ t.size + (d + 1) := by
        intro t' hs hj
        obtain ⟨r, a', s', ev, v1, v2, v3⟩ := ih t' (n - 1) a3 s3 (by omega) (by omega) (by omega) (by omega)
        exact ⟨r, a', s', Ev.step (fun k => by rw [spec_l1Cur_spoilt.l0, if_pos (by omega), decide_eq_true ht]) (Ev.step hj ev), by omega, by omega, by omega⟩
      rcases (show c = 0 ∨ c = 1 ∨ c = 2 by omega) with rfl | rfl | rfl
      · refine hstep (t.extract 0 i.toNat ++ strOfNums [bt w j] ++ t.extract i.toNat t.size) (by simp only [ByteArray.size_append, e1, e2, e4]; omega) (fun k => ?_)
        rw [spec_l1Cur_spoilt.j1, if_pos rfl, p1]
        simp only [Option.bind_some]
        rw [p2]
        simp only [Option.bind_some]
        rw [if_pos r3, if_pos r4, p3]
        simp only [Option.bind_some]
        rw [if_pos trivial, if_pos q3, if_pos (by omega), if_pos (by omega), if_pos (by simp only [ByteArray.size_append, e1, e2, e4]; omega), wn]
      · refine hstep (t.extract 0 i.toNat ++ strOfNums [bt w j] ++ t.extract (i + 1).toNat t.size) (by simp only [ByteArray.size_append, e1, e3, e4]; omega) (fun k => ?_)
        rw [spec_l1Cur_spoilt.j1, if_pos rfl, p1]
        simp only [Option.bind_some]
        rw [p2]
        simp only [Option.bind_some]
        rw [if_pos r3, if_pos r4, p3]
        simp only [Option.bind_some]
        rw [if_neg (by decide), if_pos trivial, if_pos q3, if_pos (by omega), if_pos (by omega), wi, if_pos (by omega), if_pos (by omega), if_pos (by simp only [ByteArray.size_append, e1, e3, e4]; omega), wn]
      · refine hstep (t.extract 0 i.toNat ++ t.extract (i + 1).toNat t.size) (by simp only [ByteArray.size_append, e1, e3]; omega) (fun k => ?_)
        rw [spec_l1Cur_spoilt.j1, if_pos rfl, p1]
        simp only [Option.bind_some]
        rw [p2]
        simp only [Option.bind_some]
        rw [if_pos r3, if_pos r4, p3]
        simp only [Option.bind_some]
        rw [if_neg (by decide), if_neg (by decide), if_pos q3, if_pos (by omega), wi, if_pos (by omega), if_pos (by omega), if_pos (by omega), wn]
    · refine ⟨t, at_, s, ?_, by omega, by omega, by omega⟩
      refine Ev.step (fun k => by rw [spec_l1Cur_spoilt.l0, if_pos (by omega), decide_eq_false ht]) ?_
      exact Ev.step (fun k => by rw [spec_l1Cur_spoilt.j1, if_neg (by decide)]) (Ev.now _)
theorem cur_spoilt (l : List Int) (hl : Bytes8 l) (at_ s : Int) (t w : ByteArray) (hw : 1 ≤ w.size) (hw2 : w.size < 4000000000) (h0 : 0 ≤ at_) (h1 : at_ < 1000000000000000000) (ht : t.size < 1000000000) :
    ∃ r a' s', Ev (fun k => spec_l1Cur_spoilt.f k l at_ s t w) (r, a', s') ∧ at_ ≤ a' ∧ a' ≤ at_ + 14 ∧ r.size ≤ t.size + 2 := by
  obtain ⟨n, a1, s1, p1, q1, q2, q3, q4⟩ := cur_pick l hl at_ s 3 h0 (by omega) (by omega)
  have q4 := q4 (by omega)
  obtain ⟨r, a', s', ev, v1, v2, v3⟩ := cur_spoilt_l0 l hl w hw hw2 n.toNat t n a1 s1 (by omega) (by omega) (by omega) (by omega)
  refine ⟨r, a', s', ?_, by omega, by omega, by omega⟩
  unfold spec_l1Cur_spoilt.f
  rw [p1]
  simp only [Option.bind_some]
  exact ev

theorem szArr (l : List UInt8) : (⟨l.toArray⟩ : ByteArray).size = l.length := by simp [ByteArray.size]
/-- Both make the same signs. -/
theorem signsOf_both (s : ByteArray) (hs : s.size ≤ 601) (k : Nat) (hk : 10000 ≤ k) :
    ∃ x : ByteArray × Bool, impl_SignsOf.f s = some x ∧ spec_SignsOf.f k s = some x ∧ x.1.size ≤ 804 ∧ (x.2 = true → x.1 = ⟨(sg_of s.data.toList).toArray⟩ ∧ s.size ≤ 600) := by
  unfold impl_SignsOf.f spec_SignsOf.f
  by_cases c : (s.size : Int) > 600
  · rw [if_pos c, if_pos c]; exact ⟨_, rfl, rfl, Nat.zero_le _, fun h => by cases h⟩
  · obtain ⟨a, b⟩ := signs_both s (by omega) k (by omega)
    rw [if_neg c, if_neg c, a, b]
    refine ⟨_, rfl, rfl, ?_, fun _ => ⟨rfl, by omega⟩⟩
    show (⟨(sg_of s.data.toList).toArray⟩ : ByteArray).size ≤ 804
    rw [szArr, sg_len _ _ (Nat.le_refl _), sg_dl]
    omega
/-- Both read signs alike. -/
theorem ofSigns_both (t : ByteArray) (ht : t.size ≤ 140737488355328) (k : Nat) (hk : 70000 ≤ k) :
    ∃ x : ByteArray × Bool, impl_OfSigns.f k t = some x ∧ spec_OfSigns.f k t = some x ∧ (x.2 = true → t.data.toList = sg_of x.1.data.toList ∧ x.1.size ≤ 600) := by
  unfold impl_OfSigns.f spec_OfSigns.f
  by_cases c : (t.size : Int) > 800
  · rw [if_pos c, if_pos c]; exact ⟨_, rfl, rfl, fun h => by cases h⟩
  · rw [if_neg c, if_neg c]
    obtain ⟨x, x1, x2, x3⟩ := os_totale t ht k (by omega)
    obtain ⟨y, y1, y2⟩ := so_total t (by omega) k (by omega)
    rw [x1, y1]
    simp only [Option.bind_some]
    rcases hx : x.2 with _ | _
    · rcases hy : y.2 with _ | _
      · refine ⟨_, rfl, ?_, fun h => by cases h⟩
        rw [if_neg (by decide), x3 hx]
      · obtain ⟨a, b⟩ := y2 hy
        have hs : y.1.size ≤ 600 := by
          have := sg_len _ _ (Nat.le_refl y.1.data.toList.length)
          rw [a, sg_dl, sg_dl] at this
          omega
        have := os_of y.1 t hs a.symm k (by omega)
        rw [x1] at this
        have e := Option.some.inj this
        rw [e] at hx
        cases hx
    · obtain ⟨a, b⟩ := x2 hx
      have := so_of x.1 t (by omega) a.symm k (by omega)
      rw [y1] at this
      have e := Option.some.inj this
      refine ⟨_, rfl, ?_, fun _ => ⟨a.symm, b⟩⟩
      rw [e, if_pos rfl]
theorem drawSignsOf (l : List Int) (hl : Bytes8 l) : ∃ s : ByteArray, (∀ k, 100 ≤ k → spec_DrawSignsOf.f k l = some s) ∧ s.size ≤ 601 := by
  obtain ⟨r, a2, s2, p2, r1, r2, r3⟩ := cur_text l hl 0 0 (by omega) (by omega) 100 (by omega)
  refine ⟨r, fun k hk => ?_, r3⟩
  have p3 := up_to (fun k => spec_l1Cur_text.f k l 0 0) (fun k => spec_l1Cur_text.mono _ _ _ k) 100 k hk _ p2
  unfold spec_DrawSignsOf.f
  (try simp only at p3)
  rw [p3]
  rfl
theorem drawOfSigns (l : List Int) (hl : Bytes8 l) : ∃ t : ByteArray, Ev (fun k => spec_DrawOfSigns.f k l) t ∧ t.size ≤ 100000 := by
  obtain ⟨r, a2, s2, p2, r1, r2, r3⟩ := cur_text l hl 0 0 (by omega) (by omega) 10000 (by omega)
  obtain ⟨x, _, x2, x3, _⟩ := signsOf_both r (by omega) 10000 (by omega)
  obtain ⟨b, a3, s3, p4, u1, u2⟩ := cur_one l hl a2 s2 3 (by omega) (by omega) (by omega)
  have up1 : ∀ k, 10000 ≤ k → spec_l1Cur_text.f k l 0 0 = some (r, a2, s2) := fun k hk => up_to (fun k => spec_l1Cur_text.f k l 0 0) (fun k => spec_l1Cur_text.mono _ _ _ k) 10000 k hk _ p2
  have up2 : ∀ k, 10000 ≤ k → spec_SignsOf.f k r = some x := fun k hk => up_to (fun k => spec_SignsOf.f k r) (fun k => spec_SignsOf.mono _ k) 10000 k hk _ x2
  cases b with
  | false =>
    refine ⟨x.1, ⟨10000, fun k hk => ?_⟩, by omega⟩
    show spec_DrawOfSigns.f k l = _
    unfold spec_DrawOfSigns.f
    rw [up1 k hk, Option.bind_some]
    (try simp only)
    rw [up2 k hk, Option.bind_some, p4, Option.bind_some]
    rfl
  | true =>
    obtain ⟨t, a4, s4, ⟨K, ev⟩, v1, v2, v3⟩ := cur_spoilt l hl a3 s3 x.1 ⟨#[65, 61, 47, 45, 122]⟩ (by decide) (by decide) (by omega) (by omega) (by omega)
    refine ⟨t, ⟨K + 10000, fun k hk => ?_⟩, by omega⟩
    show spec_DrawOfSigns.f k l = _
    unfold spec_DrawOfSigns.f
    rw [up1 k (by omega), Option.bind_some]
    (try simp only)
    rw [up2 k (by omega), Option.bind_some, p4, Option.bind_some]
    simp only [if_true]
    have ev' : spec_l1Cur_spoilt.f k l a3 s3 x.1 ⟨#[65, 61, 47, 45, 122]⟩ = some (t, a4, s4) := ev k (by omega)
    rw [ev']
    rfl
theorem hexOf_total (r : ByteArray) (hr : r.size ≤ 601) : ∃ x : ByteArray × Bool, (∀ k, 10000 ≤ k → spec_HexOf.f k r = some x) ∧ x.1.size ≤ 1202 := by
  by_cases c : (r.size : Int) > 600
  · exact ⟨_, fun k _ => by unfold spec_HexOf.f; rw [if_pos c], Nat.zero_le _⟩
  · obtain ⟨h, h1, h2⟩ := l1Hex_l0 r (by omega) r.size 0 [] 10000 (by omega) (by omega) (by simp)
    refine ⟨(h, true), fun k hk => ?_, by show h.size ≤ 1202; omega⟩
    have h1' : spec_l1Hex.f 10000 r = some h := h1
    have := up_to (fun k => spec_l1Hex.f k r) (fun k => spec_l1Hex.mono _ k) 10000 k hk _ h1'
    unfold spec_HexOf.f
    rw [if_neg c]
    rw [show spec_l1Hex.f k r = some h from this]
    rfl
theorem drawOfHex (l : List Int) (hl : Bytes8 l) : ∃ t : ByteArray, Ev (fun k => spec_DrawOfHex.f k l) t ∧ t.size ≤ 100000 := by
  obtain ⟨r, a2, s2, p2, r1, r2, r3⟩ := cur_text l hl 0 0 (by omega) (by omega) 10000 (by omega)
  obtain ⟨x, up2, x3⟩ := hexOf_total r r3
  obtain ⟨b, a3, s3, p4, u1, u2⟩ := cur_one l hl a2 s2 3 (by omega) (by omega) (by omega)
  have up1 : ∀ k, 10000 ≤ k → spec_l1Cur_text.f k l 0 0 = some (r, a2, s2) := fun k hk => up_to (fun k => spec_l1Cur_text.f k l 0 0) (fun k => spec_l1Cur_text.mono _ _ _ k) 10000 k hk _ p2
  cases b with
  | false =>
    refine ⟨x.1, ⟨10000, fun k hk => ?_⟩, by omega⟩
    show spec_DrawOfHex.f k l = _
    unfold spec_DrawOfHex.f
    rw [up1 k hk, Option.bind_some]
    (try simp only)
    rw [up2 k hk, Option.bind_some, p4, Option.bind_some]
    rfl
  | true =>
    obtain ⟨t, a4, s4, ⟨K, ev⟩, v1, v2, v3⟩ := cur_spoilt l hl a3 s3 x.1 ⟨#[48, 97, 65, 103]⟩ (by decide) (by decide) (by omega) (by omega) (by omega)
    refine ⟨t, ⟨K + 10000, fun k hk => ?_⟩, by omega⟩
    show spec_DrawOfHex.f k l = _
    unfold spec_DrawOfHex.f
    rw [up1 k (by omega), Option.bind_some]
    (try simp only)
    rw [up2 k (by omega), Option.bind_some, p4, Option.bind_some]
    simp only [if_true]
    have ev' : spec_l1Cur_spoilt.f k l a3 s3 x.1 ⟨#[48, 97, 65, 103]⟩ = some (t, a4, s4) := ev k (by omega)
    rw [ev']
    rfl
theorem ofSigns_of (s t : ByteArray) (hs : s.size ≤ 600) (ht : t.data.toList = sg_of s.data.toList) (k : Nat) (hk : 2100 ≤ k) : impl_OfSigns.f k t = some (s, true) := by
  have tl : t.size = 4 * ((s.size + 2) / 3) := by rw [← sg_dl, ht, sg_len _ _ (Nat.le_refl _), sg_dl]
  unfold impl_OfSigns.f
  rw [if_neg (by omega), os_of s t hs ht k hk]
  rfl
theorem law_j5 (l1 : List Int) (hl : Bytes8 l1) (k : Nat) : laws_FnSigns.j5 (k + 1) l1 = some true := by
  obtain ⟨n, a1, s1, p1, _, _, n3⟩ := cur_among l1 hl 0 0 [-1, 0, 25, 26, 51, 52, 61, 62, 63, 64] (by decide) (by decide) (by omega) (by omega)
  obtain ⟨m, a2, s2, p2, _, _, m3⟩ := cur_among l1 hl 0 0 [-1, 0, 1, 2, 3, 599, 600, 601] (by decide) (by decide) (by omega) (by omega)
  have hn : ∃ x, impl_SignAt.f n = some x ∧ spec_SignAt.f n = some x := by
    have : ∀ z ∈ ([-1, 0, 25, 26, 51, 52, 61, 62, 63, 64] : List Int), -1 ≤ z ∧ z ≤ 64 := by decide
    have hb := this n n3
    unfold impl_SignAt.f spec_SignAt.f impl_within.f spec_l1In.f
    by_cases h0 : n ≥ 0
    · rw [if_pos h0, Option.bind_some]
      by_cases h1 : n ≤ 63
      · have hw : wrap64 (n + 1) = n + 1 := w64 (by omega) (by omega)
        rw [decide_eq_true h1, if_pos rfl, hw, if_pos (by omega), if_pos (by omega), if_pos (by omega)]
        exact ⟨_, rfl, rfl⟩
      · rw [decide_eq_false h1, if_neg (by decide)]
        exact ⟨_, rfl, rfl⟩
    · rw [if_neg h0, Option.bind_some, if_neg (by decide)]
      exact ⟨_, rfl, rfl⟩
  have hm : ∃ x, impl_LengthAs.f m = some x ∧ spec_LengthAs.f m = some x := by
    unfold impl_LengthAs.f spec_LengthAs.f impl_within.f spec_l1In.f
    by_cases h0 : m ≥ 0
    · rw [if_pos h0, Option.bind_some]
      by_cases h1 : m ≤ 600
      · rw [decide_eq_true h1, if_pos rfl]; exact ⟨_, rfl, rfl⟩
      · rw [decide_eq_false h1, if_neg (by decide)]; exact ⟨_, rfl, rfl⟩
    · rw [if_neg h0, Option.bind_some, if_neg (by decide)]; exact ⟨_, rfl, rfl⟩
  obtain ⟨x, x1, x2⟩ := hn
  obtain ⟨y, y1, y2⟩ := hm
  rw [laws_FnSigns.j5]
  unfold spec_DrawSignAt.f spec_DrawLengthAs.f
  rw [p1, Option.bind_some, Option.bind_some, x1, Option.bind_some, x2, Option.bind_some, p2, Option.bind_some, Option.bind_some, y1, Option.bind_some, y2, Option.bind_some, if_pos (by simp), if_pos rfl, if_pos (by simp)]
  simp
theorem hexOf_of (s : ByteArray) (hs : s.size ≤ 600) : impl_HexOf.f s = some (⟨(hx_of s.data.toList).toArray⟩, true) := by
  unfold impl_HexOf.f impl_hexOf.f
  rw [if_neg (by omega), if_pos (by omega)]
  rfl
theorem law_j1 (l1 : List Int) (hl : Bytes8 l1) : ∃ K, ∀ k, K ≤ k → laws_FnSigns.j1 k l1 = some true := by
  obtain ⟨u, ⟨K1, e1⟩, us⟩ := drawOfSigns l1 hl
  obtain ⟨v, ⟨K2, e2⟩, vs⟩ := drawOfHex l1 hl
  refine ⟨K1 + K2 + 100000, fun k hk => ?_⟩
  obtain ⟨k, rfl⟩ : ∃ m, k = m + 5 := ⟨k - 5, by omega⟩
  obtain ⟨x, x1, x2, x3⟩ := ofSigns_both u (by omega) (k + 4) (by omega)
  obtain ⟨y, y1, y2, y3⟩ := ofHex_both v (k + 4) (by omega)
  have e1' : spec_DrawOfSigns.f (k + 4) l1 = some u := e1 (k + 4) (by omega)
  have e2' : spec_DrawOfHex.f (k + 4) l1 = some v := e2 (k + 4) (by omega)
  have h4 : laws_FnSigns.j4 (k + 2) l1 v y.1 y.2 = some true := by
    rw [laws_FnSigns.j4]
    by_cases h : y.2 = true
    · obtain ⟨a, b⟩ := y3 h
      rw [if_pos h, hexOf_of y.1 b, Option.bind_some]
      simp only [if_true]
      rw [if_pos (by rw [ByteArray.toList_eq, ByteArray.toList_eq, a])]
      exact law_j5 l1 hl k
    · rw [if_neg h]
      exact law_j5 l1 hl k
  have h2 : laws_FnSigns.j2 (k + 4) l1 u x.1 x.2 v y.1 y.2 false = some true := by
    rw [laws_FnSigns.j2, if_neg (by decide)]
    by_cases h : x.2 = true
    · obtain ⟨a, b⟩ := x3 h
      obtain ⟨_, c⟩ := signs_both x.1 (by omega) (10 * x.1.size + 1) (Nat.le_refl _)
      rw [if_pos h, laws_FnSigns.j3, if_pos (decide_eq_true (by omega))]
      unfold impl_SignsOf.f
      rw [if_neg (by omega), c, Option.bind_some, Option.bind_some]
      simp only [if_true]
      rw [if_pos (by rw [ByteArray.toList_eq, ByteArray.toList_eq, a])]
      exact h4
    · rw [if_neg h, laws_FnSigns.j3, if_neg (by decide)]
      exact h4
  rw [laws_FnSigns.j1, e1', Option.bind_some, x1, Option.bind_some, x2, Option.bind_some, e2', Option.bind_some, y1, Option.bind_some, y2, Option.bind_some, if_neg (by simp), if_pos rfl, if_neg (by simp), show (y.1.toList != y.1.toList) = false from by simp]
  exact h2
theorem FnSigns : laws_FnSigns.Pure := by
  intro l0 l1 h0 _ hb0 h1 _ hb1
  have B0 := bytes_of_wf hb0
  have B1 := bytes_of_wf hb1
  obtain ⟨s, d1, ss⟩ := drawSignsOf l0 B0
  obtain ⟨K, j1⟩ := law_j1 l1 B1
  refine ⟨K + 100001, ?_⟩
  obtain ⟨x, x1, x2, x3, x4⟩ := signsOf_both s ss (K + 100001) (by omega)
  unfold laws_FnSigns.f
  by_cases c : wrap64 ((l0.length : Int) + (l1.length : Int)) > 1048576
  · rw [if_pos c]
  rw [if_neg c, d1 _ (by omega), Option.bind_some, x1, Option.bind_some, x2, Option.bind_some, if_neg (by simp), show (x.1.toList != x.1.toList) = false from by simp, show K + 100001 = (K + 100000) + 1 from rfl, laws_FnSigns.j0, if_neg (by decide)]
  by_cases h : x.2 = true
  · obtain ⟨a, b⟩ := x4 h
    have hlen : (x.1.size : Int) = 4 * (((s.size : Int) + 2) / 3) := by
      rw [a, szArr, sg_len _ _ (Nat.le_refl _), sg_dl]; omega
    have hla : impl_LengthAs.f (s.size : Int) = some ((x.1.size : Int), true) := by
      unfold impl_LengthAs.f impl_within.f
      rw [if_pos (by omega), Option.bind_some, decide_eq_true (by omega), if_pos rfl, w64 (n := (s.size : Int) + 2) (by omega) (by omega), Int.tdiv_eq_ediv_of_nonneg (by omega), w64 (n := ((s.size : Int) + 2) / 3) (by omega) (by omega), w64 (by omega) (by omega), hlen]
      congr 2; omega
    have hox : impl_OfHex.f (K + 100000) ⟨(hx_of s.data.toList).toArray⟩ = some (s, true) := ofHex_of s _ b rfl _ (by omega)
    rw [if_pos h, ofSigns_of s x.1 b (by rw [a]) (K + 100000) (by omega), Option.bind_some, hla, Option.bind_some, hexOf_of s b, Option.bind_some]
    simp only
    rw [hox, Option.bind_some]
    simp only [if_true]
    exact j1 _ (by omega)
  · rw [if_neg h]
    exact j1 _ (by omega)

end Go.Proofs.YtgoedenbekedbaaDoor.Pure
