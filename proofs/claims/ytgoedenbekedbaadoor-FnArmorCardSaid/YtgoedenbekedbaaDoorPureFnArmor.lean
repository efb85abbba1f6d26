/-
The pure statement of FnArmor is proved: what is armoured comes back with its name, and lines together are their text, for whatever is drawn.
Conditions: the arguments are slices of bytes that Go can hold. None besides.
-/
import Derived.Test.YtgoedenbekedbaaDoorPFnArmorx8
set_option linter.unusedVariables false
set_option linter.unusedSimpArgs false
namespace Go.Proofs.YtgoedenbekedbaaDoor.Pure
open Go.RowKit Go.Proofs.YtgoedenbekedbaaDoor.PFnArmor Go.Proofs.YtgoedenbekedbaaDoorW.PrintWords Go.Proofs.YtgoedenbekedbaaDoorW.PrintLast Go.Proofs.YtgoedenbekedbaaDoorW.PrintMore

theorem w64 {n : Int} (h0 : -9223372036854775808 ≤ n) (h1 : n ≤ 9223372036854775807) : wrap64 n = n := by unfold wrap64; omega
theorem rd_set (l : List Int) (i j v : Int) (h0 : 0 ≤ i) (h1 : i < l.length) (hj : 0 ≤ j) : rd (l.set i.toNat v) j = if j = i then v else rd l j := by
  unfold rd
  rw [List.getD_eq_getElem?_getD, List.getD_eq_getElem?_getD, List.getElem?_set]
  by_cases e : j = i
  · subst e; rw [if_pos rfl, if_pos (by omega), if_pos rfl]; rfl
  · rw [if_neg (by omega), if_neg e]
theorem rdOf_set {α : Type} (d : α) (l : List α) (i j : Int) (v : α) (h0 : 0 ≤ i) (h1 : i < l.length) (hj : 0 ≤ j) : rdOf d (l.set i.toNat v) j = if j = i then v else rdOf d l j := by
  unfold rdOf
  rw [List.getD_eq_getElem?_getD, List.getD_eq_getElem?_getD, List.getElem?_set]
  by_cases e : j = i
  · subst e; rw [if_pos rfl, if_pos (by omega), if_pos rfl]; rfl
  · rw [if_neg (by omega), if_neg e]

theorem sg_dl (s : ByteArray) : s.data.toList.length = s.size := Array.length_toList
theorem sg_app (a b : List UInt8) : (⟨a.toArray⟩ : ByteArray) ++ ⟨b.toArray⟩ = ⟨(a ++ b).toArray⟩ := by apply ByteArray.ext; simp
def sgInts (l : List UInt8) : List Int := l.map fun b => (b.toNat : Int)
theorem sgInts_str (l : List UInt8) : strOfNums (sgInts l) = ⟨l.toArray⟩ := by
  unfold strOfNums sgInts
  simp only [List.map_map]
  congr 2
  conv => rhs; rw [← List.map_id l]
  refine List.map_congr_left fun b _ => ?_
  simp
theorem bt_alpha : ∀ X : Fin 64, bt (⟨#[65, 66, 67, 68, 69, 70, 71, 72, 73, 74, 75, 76, 77, 78, 79, 80, 81, 82, 83, 84, 85, 86, 87, 88, 89, 90, 97, 98, 99, 100, 101, 102, 103, 104, 105, 106, 107, 108, 109, 110, 111, 112, 113, 114, 115, 116, 117, 118, 119, 120, 121, 122, 48, 49, 50, 51, 52, 53, 54, 55, 56, 57, 43, 47]⟩ : ByteArray) (X.val : Int) = ((sg_alpha.getD X.val 0).toNat : Int) := by decide +kernel
theorem sg_bt' (t : ByteArray) (k : Nat) (h : k < t.size) : bt t (k : Int) = ((t.data.toList.getD k 0).toNat : Int) := by
  unfold bt
  have h' : (k : Int).toNat < t.size := by simpa using h
  rw [dif_pos h', List.getD_eq_getElem?_getD, List.getElem?_eq_getElem (by rw [sg_dl]; exact h)]
  simp; rfl
/-- One sign of a group. -/
theorem sg_step (k : Nat) (s : ByteArray) (out : List Int) (at_ : Int) (g : List UInt8) (i : Nat) (hi : i < 4) (hl : out.length < 140737488355328) :
    spec_l3Signs.l2 (k + 1) s out at_ (sg_num g 3 : Int) (g.length : Int) (i : Int) = spec_l3Signs.l2 k s (out ++ sgInts [sg_one g i]) at_ (sg_num g 3 : Int) (g.length : Int) ((i + 1 : Nat) : Int) := by
  have hn := sg_num_lt g 3
  rw [spec_l3Signs.l2, if_pos (by omega)]
  have hw : wrap64 ((i : Int) + 1) = ((i + 1 : Nat) : Int) := by rw [w64 (by omega) (by omega)]; omega
  by_cases c : (i : Int) ≤ (g.length : Int)
  · have hone : sg_one g i = sg_alpha.getD (sg_num g 3 / 2 ^ (18 - 6 * i) % 64) 0 := by unfold sg_one; rw [if_neg (by omega)]
    have hs : IntKind.u64.wrap (wrap64 (18 - wrap64 (6 * (i : Int)))) = ((18 - 6 * i : Nat) : Int) := by
      rcases (by omega : i = 0 ∨ i = 1 ∨ i = 2 ∨ i = 3) with rfl | rfl | rfl | rfl <;> decide +kernel
    have hx : Go.bits .and .i64 (shr .i64 (sg_num g 3 : Int) (IntKind.u64.wrap (wrap64 (18 - wrap64 (6 * (i : Int)))))) 63 = ((sg_num g 3 / 2 ^ (18 - 6 * i) % 64 : Nat) : Int) := by
      rw [hs]
      have e : shr .i64 (sg_num g 3 : Int) ((18 - 6 * i : Nat) : Int) = ((sg_num g 3 / 2 ^ (18 - 6 * i) : Nat) : Int) := by
        rw [← shr_small (k := .i64) (x := (sg_num g 3 : Int)) (y := ((18 - 6 * i : Nat) : Int)) rfl (by show _ ≤ ((64 : Nat) : Int); omega), Int.toNat_natCast]
        norm_cast
      rw [e]
      have hd : sg_num g 3 / 2 ^ (18 - 6 * i) ≤ sg_num g 3 := Nat.div_le_self _ _
      have hn' : sg_num g 3 < 16777216 := hn
      generalize sg_num g 3 / 2 ^ (18 - 6 * i) = q at hd ⊢
      rw [sg_and63 _ (by omega) (by omega)]
      omega
    have hlt : sg_num g 3 / 2 ^ (18 - 6 * i) % 64 < 64 := Nat.mod_lt _ (by decide)
    have ha := bt_alpha ⟨_, hlt⟩
    simp only at ha
    rw [if_pos c, hx, hs, hw, if_pos (by omega), if_pos (by omega), if_pos (by omega), if_pos hl, ha, hone]
    rfl
  · have hone : sg_one g i = 61 := by unfold sg_one; rw [if_pos (by omega)]
    rw [if_neg c, hw, if_pos hl, hone]
    rfl
theorem sg_four (k : Nat) (s : ByteArray) (out : List Int) (at_ : Int) (g : List UInt8) (hl : out.length + 4 < 140737488355328) :
    spec_l3Signs.l2 (k + 5) s out at_ (sg_num g 3 : Int) (g.length : Int) 0 = spec_l3Signs.l0 k s (out ++ sgInts (sg_quad g)) (wrap64 (at_ + 3)) := by
  have h0 := sg_step (k + 4) s out at_ g 0 (by omega) (by omega)
  have h1 := sg_step (k + 3) s (out ++ sgInts [sg_one g 0]) at_ g 1 (by omega) (by simp [sgInts]; omega)
  have h2 := sg_step (k + 2) s (out ++ sgInts [sg_one g 0] ++ sgInts [sg_one g 1]) at_ g 2 (by omega) (by simp [sgInts]; omega)
  have h3 := sg_step (k + 1) s (out ++ sgInts [sg_one g 0] ++ sgInts [sg_one g 1] ++ sgInts [sg_one g 2]) at_ g 3 (by omega) (by simp [sgInts]; omega)
  refine h0.trans (h1.trans (h2.trans (h3.trans ?_)))
  rw [spec_l3Signs.l2, if_neg (by decide)]
  simp only [sgInts, sg_quad, List.append_assoc, List.map_cons, List.map_nil, List.cons_append, List.nil_append]
theorem sg_or' (n b : Nat) (hn : n < 65536) (hb : b < 256) : Go.bits .or .i64 ((n * 256 : Nat) : Int) (b : Int) = ((n * 256 : Nat) : Int) + (b : Int) :=
  sg_or _ _ (by omega) (by omega) (by omega) (by omega) (by omega)
theorem sg_shl (n : Nat) (hn : n < 65536) : wrap64 ((n : Int) * 256) = ((n * 256 : Nat) : Int) := by rw [w64 (by omega) (by omega)]; omega
theorem sg_small (b : Nat) (hb : b < 256) : wrap64 (b : Int) = (b : Int) := w64 (by omega) (by omega)
/-- One byte of a group. -/
theorem sg_byte (k : Nat) (s : ByteArray) (out : List Int) (a : Nat) (g : List UInt8) (hg : g = (s.data.toList.drop a).take 3) (hs : s.size ≤ 4194304) (ha : a < s.size) (i : Nat) (hi : i < 3) :
    spec_l3Signs.l1 (k + 1) s out (a : Int) (sg_num g i : Int) (g.length : Int) (i : Int) = spec_l3Signs.l1 k s out (a : Int) (sg_num g (i + 1) : Int) (g.length : Int) ((i + 1 : Nat) : Int) := by
  have hn : sg_num g i < 65536 := Nat.lt_of_lt_of_le (sg_num_lt g i) (by rcases (by omega : i = 0 ∨ i = 1 ∨ i = 2) with rfl | rfl | rfl <;> decide)
  have hlen : g.length = min 3 (s.size - a) := by rw [hg, List.length_take, List.length_drop, sg_dl]
  have hw : wrap64 ((i : Int) + 1) = ((i + 1 : Nat) : Int) := by rw [w64 (by omega) (by omega)]; omega
  have hw2 : wrap64 ((a : Int) + (i : Int)) = ((a + i : Nat) : Int) := by rw [w64 (by omega) (by omega)]; omega
  have hb := sg_b_lt g i
  have h3 : (i : Int) < 3 := by omega
  have e1 := sg_shl (sg_num g i) hn
  have e2 := sg_small (sg_b g i) hb
  have e3 := sg_or' (sg_num g i) (sg_b g i) hn hb
  have e4 : ((sg_num g (i + 1) : Nat) : Int) = ((sg_num g i * 256 : Nat) : Int) + (sg_b g i : Int) := Int.natCast_add _ _
  rw [e4, spec_l3Signs.l1, if_pos h3, hw, hw2, e1]
  by_cases c : (i : Int) < (g.length : Int)
  · have hbt : bt s ((a + i : Nat) : Int) = (sg_b g i : Int) := by
      rw [sg_bt' s (a + i) (by omega)]
      have : g.getD i 0 = s.data.toList.getD (a + i) 0 := by
        rw [hg, List.getD_eq_getElem?_getD, List.getD_eq_getElem?_getD, List.getElem?_take, if_pos hi, List.getElem?_drop]
      rw [sg_b, this]
    have p0 : (0 : Int) ≤ ((a + i : Nat) : Int) := by omega
    have p1 : ((a + i : Nat) : Int) < (s.size : Int) := by omega
    rw [if_pos c, if_pos p0, if_pos p1, hbt, e2, e3]
  · have hb0 : sg_b g i = 0 := by rw [sg_b, List.getD_eq_getElem?_getD, List.getElem?_eq_none (by omega)]; rfl
    rw [if_neg c, hb0, Int.natCast_zero, Int.add_zero]
theorem sg_three (k : Nat) (s : ByteArray) (out : List Int) (a : Nat) (g : List UInt8) (hg : g = (s.data.toList.drop a).take 3) (hs : s.size ≤ 4194304) (ha : a < s.size) :
    spec_l3Signs.l1 (k + 4) s out (a : Int) 0 (g.length : Int) 0 = spec_l3Signs.l2 k s out (a : Int) (sg_num g 3 : Int) (g.length : Int) 0 := by
  refine (sg_byte (k + 3) s out a g hg hs ha 0 (by omega)).trans ((sg_byte (k + 2) s out a g hg hs ha 1 (by omega)).trans ((sg_byte (k + 1) s out a g hg hs ha 2 (by omega)).trans ?_))
  rw [spec_l3Signs.l1, if_neg (by decide)]
/-- The whole text, group for group. -/
theorem sg_l0 (s : ByteArray) (hs : s.size ≤ 4194304) : ∀ (d a : Nat) (out : List UInt8) (k : Nat), s.size - a ≤ d → 10 * d + 1 ≤ k → out.length ≤ 4 * a → a ≤ s.size + 2 →
    spec_l3Signs.l0 k s (sgInts out) (a : Int) = some ⟨(out ++ sg_of (s.data.toList.drop a)).toArray⟩
  | 0, a, out, k, hd, hk, ho, ha => by
    obtain ⟨k, rfl⟩ : ∃ m, k = m + 1 := ⟨k - 1, by omega⟩
    rw [spec_l3Signs.l0, if_neg (by omega), sgInts_str, List.drop_eq_nil_of_le (by rw [sg_dl]; omega)]
    simp [sg_of, sg_all]
  | d + 1, a, out, k, hd, hk, ho, ha => by
    by_cases c : a < s.size
    · obtain ⟨k, rfl⟩ : ∃ m, k = m + 10 := ⟨k - 10, by omega⟩
      obtain ⟨g, hg⟩ : ∃ g, g = (s.data.toList.drop a).take 3 := ⟨_, rfl⟩
      have hlen : g.length = min 3 (s.size - a) := by rw [hg, List.length_take, List.length_drop, sg_dl]
      have hl : spec_l1Least.f 3 (wrap64 ((s.size : Int) - (a : Int))) = some (g.length : Int) := by
        rw [w64 (by omega) (by omega), spec_l1Least.f]
        by_cases q : (3 : Int) < (s.size : Int) - (a : Int)
        · rw [if_pos q, show (g.length : Int) = 3 by omega]
        · rw [if_neg q, show (g.length : Int) = (s.size : Int) - (a : Int) by omega]
      rw [spec_l3Signs.l0, if_pos (by omega), hl, Option.bind_some, show k + 9 = (k + 5) + 4 from rfl, sg_three (k + 5) s _ a g hg hs c, sg_four k s _ _ g (by simp [sgInts]; omega), w64 (by omega) (by omega)]
      have e := sg_l0 s hs d (a + 3) (out ++ sg_quad g) k (by omega) (by omega) (by rw [List.length_append, sg_quad_len]; omega) (by omega)
      have e1 : sgInts out ++ sgInts (sg_quad g) = sgInts (out ++ sg_quad g) := by simp [sgInts]
      rw [e1, show (a : Int) + 3 = ((a + 3 : Nat) : Int) by omega, e, sg_of_cons (s.data.toList.drop a) (fun h => by have := congrArg List.length h; rw [List.length_drop, sg_dl, List.length_nil] at this; omega), ← hg, List.drop_drop, List.append_assoc]
    · obtain ⟨k, rfl⟩ : ∃ m, k = m + 1 := ⟨k - 1, by omega⟩
      rw [spec_l3Signs.l0, if_neg (by omega), sgInts_str, List.drop_eq_nil_of_le (by rw [sg_dl]; omega)]
      simp [sg_of, sg_all]
theorem signs_both (s : ByteArray) (hs : s.size ≤ 4194304) (k : Nat) (hk : 10 * s.size + 1 ≤ k) :
    spec_l3Signs.f k s = some ⟨(sg_of s.data.toList).toArray⟩ ∧ impl_signsOf.f s = some ⟨(sg_of s.data.toList).toArray⟩ := by
  refine ⟨?_, by unfold impl_signsOf.f; rw [if_pos (by omega)]⟩
  have := sg_l0 s hs s.size 0 [] k (by omega) hk (by simp) (by omega)
  simpa [sgInts, spec_l3Signs.f] using this

theorem ba_eta (s : ByteArray) : (⟨s.data.toList.toArray⟩ : ByteArray) = s := by cases s; simp
theorem sg_len : ∀ (n : Nat) (l : List UInt8), l.length ≤ n → (sg_of l).length = 4 * ((l.length + 2) / 3)
  | 0, l, h => by have : l = [] := List.eq_nil_of_length_eq_zero (by omega); subst this; rfl
  | n + 1, l, h => by
    by_cases e : l = []
    · subst e; rfl
    · have h0 : 0 < l.length := List.length_pos_iff.2 e
      have := sg_len n (l.drop 3) (by rw [List.length_drop]; omega)
      rw [sg_of_cons l e, List.length_append, sg_quad_len, this, List.length_drop]
      omega
theorem sg_drop : ∀ (i : Nat) (l : List UInt8), (sg_of l).drop (4 * i) = sg_of (l.drop (3 * i))
  | 0, l => rfl
  | i + 1, l => by
    by_cases e : l = []
    · subst e; simp [sg_of, sg_all]
    · rw [sg_of_cons l e, show 4 * (i + 1) = (sg_quad (l.take 3)).length + 4 * i by rw [sg_quad_len]; omega, ← List.drop_drop, List.drop_left, sg_drop i, List.drop_drop]
      congr 2; omega
theorem sg_num3 (g : List UInt8) : sg_num g 3 = (sg_b g 0 * 256 + sg_b g 1) * 256 + sg_b g 2 := by
  show ((0 * 256 + sg_b g 0) * 256 + sg_b g 1) * 256 + sg_b g 2 = _
  omega
theorem sg_b0 (g : List UInt8) (i : Nat) (h : g.length ≤ i) : sg_b g i = 0 := by rw [sg_b, List.getD_eq_getElem?_getD, List.getElem?_eq_none h]; rfl
theorem alpha_idx : ∀ X : Fin 64, Lib.indexByte sg_alpha (sg_alpha.getD X.val 0) = (X.val : Int) := by decide +kernel
theorem alpha_ne : ∀ X : Fin 64, sg_alpha.getD X.val 0 ≠ 61 := by decide +kernel
theorem alpha_idx' (X : Nat) (h : X < 64) : Lib.indexByte sg_alpha (sg_alpha.getD X 0) = (X : Int) := alpha_idx ⟨X, h⟩
/-- The i-th number of six bits. -/
def sg_x (g : List UInt8) (i : Nat) : Nat := sg_num g 3 / 2 ^ (18 - 6 * i) % 64
theorem sg_x_lt (g : List UInt8) (i : Nat) : sg_x g i < 64 := Nat.mod_lt _ (by decide)
theorem sg_one_alpha (g : List UInt8) (i : Nat) (h : i ≤ g.length) : sg_one g i = sg_alpha.getD (sg_x g i) 0 := by unfold sg_one sg_x; rw [if_neg (by omega)]
theorem sg_one_pad (g : List UInt8) (i : Nat) (h : g.length < i) : sg_one g i = 61 := by unfold sg_one; rw [if_pos h]
/-- What has been read of a group behind i signs. -/
def sg_n (g : List UInt8) (i : Nat) : Nat := sg_num g 3 / 2 ^ (24 - 6 * i)
theorem sg_n_step (g : List UInt8) (i : Nat) (hi : i < 4) : sg_n g (i + 1) = sg_n g i * 64 + sg_x g i := by
  unfold sg_n sg_x
  rcases (by omega : i = 0 ∨ i = 1 ∨ i = 2 ∨ i = 3) with rfl | rfl | rfl | rfl
  all_goals simp only [Nat.reduceAdd, Nat.reduceMul, Nat.reduceSub, Nat.reducePow, Nat.div_one]; omega
theorem sg_n_lt (g : List UInt8) (i : Nat) (hi : i ≤ 4) : sg_n g i < 16777216 := Nat.lt_of_le_of_lt (Nat.div_le_self _ _) (sg_num_lt g 3)
theorem sg_n0 (g : List UInt8) : sg_n g 0 = 0 := Nat.div_eq_of_lt (sg_num_lt g 3)
theorem sg_n4 (g : List UInt8) : sg_n g 4 = sg_num g 3 := Nat.div_one _
theorem sg_x_pad (g : List UInt8) (i : Nat) (h1 : 1 ≤ g.length) (hi : i < 4) (h : g.length < i) : sg_x g i = 0 := by
  unfold sg_x
  rw [sg_num3]
  have l0 := sg_b_lt g 0
  have l1 := sg_b_lt g 1
  rcases (by omega : i = 2 ∨ i = 3) with rfl | rfl
  · rw [sg_b0 g 1 (by omega), sg_b0 g 2 (by omega)]
    simp only [Nat.reduceMul, Nat.reduceSub, Nat.reducePow]; omega
  · rw [sg_b0 g 2 (by omega)]
    simp only [Nat.reduceMul, Nat.reduceSub, Nat.reducePow, Nat.div_one]; omega
theorem or6 (n x : Nat) (hn : n < 16777216) (hx : x < 64) : Go.bits .or .i64 (wrap64 ((n : Int) * 64)) (x : Int) = ((n * 64 + x : Nat) : Int) := by
  rw [w64 (by omega) (by omega), bits_join .i64 63 (by decide) (fun n h₀ h₁ => by rw [IntKind.wrap_i64]; omega) 6 _ _ (by omega) (by omega) (by omega) (by omega) (by omega) (by omega)]
  omega
theorem byte_back (b : UInt8) : ((b.toNat : Int)).toNat.toUInt8 = b := by simp
/-! The program's reading. -/
theorem os_step (k : Nat) (t : ByteArray) (out : List Int) (at_ : Int) (u : ByteArray) (n : Int) (i : Nat) (hi : i < 4) (c : i < u.size) :
    impl_ofSigns.l1 (k + 1) t out at_ u n (i : Int) = if Lib.indexByte sg_alpha (u.data.toList.getD i 0) < 0 then some ((⟨#[]⟩ : ByteArray), false) else
      impl_ofSigns.l1 k t out at_ u (Go.bits .or .i64 (wrap64 (n * 64)) (Lib.indexByte sg_alpha (u.data.toList.getD i 0))) ((i + 1 : Nat) : Int) := by
  have hw : wrap64 ((i : Int) + 1) = ((i + 1 : Nat) : Int) := by rw [w64 (by omega) (by omega)]; omega
  have hx : strings_IndexByte.f (⟨#[65, 66, 67, 68, 69, 70, 71, 72, 73, 74, 75, 76, 77, 78, 79, 80, 81, 82, 83, 84, 85, 86, 87, 88, 89, 90, 97, 98, 99, 100, 101, 102, 103, 104, 105, 106, 107, 108, 109, 110, 111, 112, 113, 114, 115, 116, 117, 118, 119, 120, 121, 122, 48, 49, 50, 51, 52, 53, 54, 55, 56, 57, 43, 47]⟩ : ByteArray) (bt u (i : Int)) = some (Lib.indexByte sg_alpha (u.data.toList.getD i 0)) := by
    rw [sg_bt' u i c, strings_IndexByte.f, byte_back]
    rfl
  rw [impl_ofSigns.l1, if_pos (by omega), if_neg (by omega), if_pos (by omega), if_pos (by omega), hx, Option.bind_some, hw]
theorem os_skip (k : Nat) (t : ByteArray) (out : List Int) (at_ : Int) (u : ByteArray) (n : Int) (i : Nat) (hi : i < 4) (c : u.size ≤ i) :
    impl_ofSigns.l1 (k + 1) t out at_ u n (i : Int) = impl_ofSigns.l1 k t out at_ u (wrap64 (n * 64)) ((i + 1 : Nat) : Int) := by
  have hw : wrap64 ((i : Int) + 1) = ((i + 1 : Nat) : Int) := by rw [w64 (by omega) (by omega)]; omega
  rw [impl_ofSigns.l1, if_pos (by omega), if_pos (by omega), hw]
theorem os_l1 (t : ByteArray) (out : List Int) (at_ : Int) (u : ByteArray) : ∀ (d i : Nat), i + d = 4 → ∀ (n : Int) (k : Nat),
    (∃ n', impl_ofSigns.l1 (k + d) t out at_ u n (i : Int) = impl_ofSigns.l1 k t out at_ u n' 4) ∨ impl_ofSigns.l1 (k + d) t out at_ u n (i : Int) = some ((⟨#[]⟩ : ByteArray), false)
  | 0, i, h, n, k => by obtain rfl : i = 4 := by omega
                        exact Or.inl ⟨n, rfl⟩
  | d + 1, i, h, n, k => by
    by_cases c : i < u.size
    · rw [show k + (d + 1) = (k + d) + 1 from rfl, os_step (k + d) t out at_ u n i (by omega) c]
      by_cases q : Lib.indexByte sg_alpha (u.data.toList.getD i 0) < 0
      · rw [if_pos q]; exact Or.inr rfl
      · rw [if_neg q]; exact os_l1 t out at_ u d (i + 1) (by omega) _ k
    · rw [show k + (d + 1) = (k + d) + 1 from rfl, os_skip (k + d) t out at_ u n i (by omega) (by omega)]
      exact os_l1 t out at_ u d (i + 1) (by omega) _ k
theorem os_l2 (t : ByteArray) (at_ n : Int) (m : Nat) (hm : m ≤ 3) : ∀ (d i : Nat), i + d = m → ∀ (out : List Int) (k : Nat), out.length + 3 < 140737488355328 + i →
    ∃ more : List Int, more.length = d ∧ impl_ofSigns.l2 (k + d + 1) t out at_ n (m : Int) (i : Int) = impl_ofSigns.l0 k t (out ++ more) (wrap64 (at_ + 4))
  | 0, i, h, out, k, ho => ⟨[], rfl, by rw [impl_ofSigns.l2, if_neg (by omega), List.append_nil]⟩
  | d + 1, i, h, out, k, ho => by
    have e : wrap64 (16 - wrap64 (8 * (i : Int))) = ((16 - 8 * i : Nat) : Int) := by rw [w64 (n := 8 * (i : Int)) (by omega) (by omega), w64 (by omega) (by omega)]; omega
    have hw : wrap64 ((i : Int) + 1) = ((i + 1 : Nat) : Int) := by rw [w64 (by omega) (by omega)]; omega
    obtain ⟨more, h1, h2⟩ := os_l2 t at_ n m hm d (i + 1) (by omega) (out ++ [(shr .i64 n (wrap64 (16 - (wrap64 (8 * (i : Int)))))) % 256]) k (by rw [List.length_append]; simp only [List.length_cons, List.length_nil]; omega)
    refine ⟨(shr .i64 n (wrap64 (16 - (wrap64 (8 * (i : Int)))))) % 256 :: more, by rw [List.length_cons, h1], ?_⟩
    rw [show k + (d + 1) + 1 = (k + d + 1) + 1 from rfl, impl_ofSigns.l2, if_pos (by omega), if_pos (by rw [e]; omega), if_pos (by omega), hw, h2, List.append_assoc]
    rfl
theorem os_trim (x : ByteArray) (h : x.size ≤ 140737488355328) : strings_TrimRight.f x (⟨#[61]⟩ : ByteArray) = some ⟨(Lib.trimRightB x.data.toList 61).toArray⟩ := by
  unfold strings_TrimRight.f
  show (if (61 : UInt8).toNat < 128 ∧ x.size ≤ 9223372036854775807 then _ else _) = _
  rw [if_pos ⟨by decide, by omega⟩]
theorem trimB_len (l : List UInt8) (c : UInt8) : (Lib.trimRightB l c).length ≤ l.length := by
  unfold Lib.trimRightB
  rw [List.length_reverse]
  exact Nat.le_trans (List.dropWhile_sublist _).length_le (by rw [List.length_reverse]; exact Nat.le_refl _)
/-- Whatever the text: an answer; and where it is yes, the text is that of the answer. -/
theorem os_l0 (t : ByteArray) (ht : t.size ≤ 800) : ∀ (d a : Nat) (out : List Int) (k : Nat), a + 4 * d = t.size → 10 * d + 1 ≤ k → out.length ≤ a →
    ∃ r : ByteArray × Bool, impl_ofSigns.l0 k t out (a : Int) = some r ∧ (r.2 = true → sg_of r.1.data.toList = t.data.toList ∧ r.1.size ≤ 600)
  | 0, a, out, k, hd, hk, ho => by
    obtain ⟨k, rfl⟩ : ∃ m, k = m + 1 := ⟨k - 1, by omega⟩
    have hs : (strOfNums out).size = out.length := by simp [strOfNums, ByteArray.size]
    rw [impl_ofSigns.l0, if_neg (by omega), impl_signsOf.f, if_pos (by rw [hs]; omega), Option.bind_some]
    by_cases c : (⟨(sg_of (strOfNums out).data.toList).toArray⟩ : ByteArray).toList = t.toList
    · rw [if_pos c]
      by_cases q : (out.length : Int) > 600
      · rw [if_pos q]; exact ⟨_, rfl, fun h => by cases h⟩
      · rw [if_neg q]
        refine ⟨_, rfl, fun _ => ⟨?_, by rw [hs]; omega⟩⟩
        rw [ByteArray.toList_eq, ByteArray.toList_eq] at c
        exact c
    · rw [if_neg c]; exact ⟨_, rfl, fun h => by cases h⟩
  | d + 1, a, out, k, hd, hk, ho => by
    obtain ⟨k, rfl⟩ : ∃ m, k = m + 10 := ⟨k - 10, by omega⟩
    have hw : wrap64 ((a : Int) + 4) = ((a + 4 : Nat) : Int) := by rw [w64 (by omega) (by omega)]; omega
    obtain ⟨u, hu⟩ : ∃ u : ByteArray, u = ⟨(Lib.trimRightB (t.extract a (a + 4)).data.toList 61).toArray⟩ := ⟨_, rfl⟩
    have hx : (t.extract a (a + 4)).size = 4 := by rw [ByteArray.size_extract]; omega
    have ul : u.size ≤ 4 := by
      rw [hu]
      have := trimB_len (t.extract a (a + 4)).data.toList 61
      rw [sg_dl, hx] at this
      exact Nat.le_trans (Nat.le_of_eq List.size_toArray) this
    have e1 : impl_ofSigns.l0 (k + 10) t out (a : Int) = impl_ofSigns.l1 (k + 9) t out (a : Int) u 0 0 := by
      rw [impl_ofSigns.l0, if_pos (by omega), if_pos (by omega), hw, if_pos (by omega), if_pos (by omega), Int.toNat_natCast, Int.toNat_natCast, os_trim _ (by omega), Option.bind_some, hu]
    rw [e1]
    rcases os_l1 t out (a : Int) u 4 0 rfl 0 (k + 5) with ⟨n', h⟩ | h
    · rw [show (0 : Int) = ((0 : Nat) : Int) from rfl, show k + 9 = k + 5 + 4 from rfl]
      refine (show _ from ?_)
      have h' : impl_ofSigns.l1 (k + 5 + 4) t out (a : Int) u ((0 : Nat) : Int) ((0 : Nat) : Int) = impl_ofSigns.l1 (k + 5) t out (a : Int) u n' 4 := h
      rw [h', show k + 5 = (k + 4) + 1 from rfl, impl_ofSigns.l1, if_neg (by decide)]
      by_cases c : (u.size : Int) < 2
      · rw [if_pos c]; exact ⟨_, rfl, fun h => by cases h⟩
      · rw [if_neg c]
        obtain ⟨m, hm⟩ : ∃ m : Nat, m = u.size - 1 := ⟨_, rfl⟩
        have em : wrap64 ((u.size : Int) - 1) = (m : Int) := by rw [w64 (by omega) (by omega)]; omega
        rw [em]
        obtain ⟨j, hj⟩ : ∃ j, k + 4 = j + m + 1 := ⟨k + 3 - m, by omega⟩
        obtain ⟨more, m1, m2⟩ := os_l2 t (a : Int) n' m (by omega) m 0 (by omega) out j (by omega)
        have m2' : impl_ofSigns.l2 (j + m + 1) t out (a : Int) n' (m : Int) 0 = impl_ofSigns.l0 j t (out ++ more) (wrap64 ((a : Int) + 4)) := m2
        rw [hj, m2', hw]
        exact os_l0 t ht d (a + 4) (out ++ more) j (by omega) (by omega) (by rw [List.length_append]; omega)
    · exact ⟨_, h, fun h => by cases h⟩
theorem os_total (t : ByteArray) (ht : t.size ≤ 140737488355328) (k : Nat) (hk : 2100 ≤ k) :
    ∃ r : ByteArray × Bool, impl_ofSigns.f k t = some r ∧ (r.2 = true → sg_of r.1.data.toList = t.data.toList ∧ r.1.size ≤ 600) := by
  obtain ⟨k, rfl⟩ : ∃ m, k = m + 1 := ⟨k - 1, by omega⟩
  unfold impl_ofSigns.f
  by_cases c : (t.size : Int) % 4 = 0
  · rw [if_pos c, impl_ofSigns.j0]
    by_cases q : (t.size : Int) > 800
    · rw [if_pos (decide_eq_true q)]; exact ⟨_, rfl, fun h => by cases h⟩
    · rw [if_neg (by rw [decide_eq_true_eq]; exact q)]
      exact os_l0 t (by omega) (t.size / 4) 0 [] k (by omega) (by omega) (by simp)
  · rw [if_neg c, impl_ofSigns.j0, if_pos rfl]; exact ⟨_, rfl, fun h => by cases h⟩
theorem sg_quad_at (g : List UInt8) (j : Nat) (h : j < 4) : (sg_quad g)[j]? = some (sg_one g j) := by
  rcases (by omega : j = 0 ∨ j = 1 ∨ j = 2 ∨ j = 3) with rfl | rfl | rfl | rfl <;> rfl
theorem sg_trim (g : List UInt8) (h3 : g.length ≤ 3) : Lib.trimRightB (sg_quad g) 61 = (sg_quad g).take (g.length + 1) := by
  refine Lib.trimRightB_take _ _ (g.length + 1) (by rw [sg_quad_len]; omega) (fun j b hj hb => ?_) (fun b _ hb => ?_)
  · by_cases c : j < 4
    · rw [sg_quad_at g j c] at hb
      rw [← Option.some.inj hb]; exact sg_one_pad g j (by omega)
    · rw [List.getElem?_eq_none (by rw [sg_quad_len]; omega)] at hb; cases hb
  · rw [Nat.add_sub_cancel, sg_quad_at g _ (by omega)] at hb
    rw [← Option.some.inj hb, sg_one_alpha g _ (Nat.le_refl _)]
    exact alpha_ne ⟨_, sg_x_lt g g.length⟩
theorem sg_out (g : List UInt8) (i : Nat) (h3 : g.length ≤ 3) (hi : i < g.length) : sg_num g 3 / 2 ^ (16 - 8 * i) % 256 = sg_b g i := by
  rw [sg_num3]
  have l0 := sg_b_lt g 0
  have l1 := sg_b_lt g 1
  have l2 := sg_b_lt g 2
  rcases (by omega : i = 0 ∨ i = 1 ∨ i = 2) with rfl | rfl | rfl
  all_goals simp only [Nat.reduceMul, Nat.reduceSub, Nat.reducePow, Nat.div_one]; omega
theorem sg_take (g : List UInt8) (i : Nat) (hi : i < g.length) : sgInts (g.take (i + 1)) = sgInts (g.take i) ++ [((sg_b g i : Nat) : Int)] := by
  have e : g.take (i + 1) = g.take i ++ [g.getD i 0] := by rw [List.take_add_one, List.getD_eq_getElem?_getD, List.getElem?_eq_getElem hi]; rfl
  rw [e, sgInts, List.map_append]
  rfl
theorem sg_shr (g : List UInt8) (i : Nat) (h3 : g.length ≤ 3) (hi : i < g.length) : (shr .i64 (sg_num g 3 : Int) ((16 - 8 * i : Nat) : Int)) % 256 = ((sg_b g i : Nat) : Int) := by
  rw [← shr_small (k := .i64) (x := (sg_num g 3 : Int)) (y := ((16 - 8 * i : Nat) : Int)) rfl (by show _ ≤ ((64 : Nat) : Int); omega), Int.toNat_natCast, ← sg_out g i h3 hi, Int.natCast_emod, Int.natCast_ediv, Int.natCast_pow]
  rfl
theorem os_read (t : ByteArray) (out : List Int) (at_ : Int) (u : ByteArray) (g : List UInt8) (h1 : 1 ≤ g.length) (h3 : g.length ≤ 3) (hu : u.data.toList = (sg_quad g).take (g.length + 1)) : ∀ (d i : Nat), i + d = 4 → ∀ (k : Nat),
    impl_ofSigns.l1 (k + d) t out at_ u (sg_n g i : Int) (i : Int) = impl_ofSigns.l1 k t out at_ u (sg_n g 4 : Int) 4
  | 0, i, h, k => by obtain rfl : i = 4 := by omega
                     rfl
  | d + 1, i, h, k => by
    have us : u.size = g.length + 1 := by rw [← sg_dl, hu, List.length_take, sg_quad_len]; omega
    have hn := sg_n_lt g i (by omega)
    have hs := sg_n_step g i (by omega)
    by_cases c : i ≤ g.length
    · have hg : u.data.toList.getD i 0 = sg_alpha.getD (sg_x g i) 0 := by
        rw [← sg_one_alpha g i c, hu, List.getD_eq_getElem?_getD, List.getElem?_take, if_pos (by omega), sg_quad_at g i (by omega)]
        rfl
      rw [show k + (d + 1) = (k + d) + 1 from rfl, os_step (k + d) t out at_ u _ i (by omega) (by omega), hg, alpha_idx' _ (sg_x_lt g i), if_neg (by omega), or6 _ _ hn (sg_x_lt g i), ← hs]
      exact os_read t out at_ u g h1 h3 hu d (i + 1) (by omega) k
    · rw [sg_x_pad g i h1 (by omega) (by omega), Nat.add_zero] at hs
      have hw : wrap64 ((sg_n g i : Int) * 64) = ((sg_n g (i + 1) : Nat) : Int) := by rw [hs, w64 (by omega) (by omega)]; omega
      rw [show k + (d + 1) = (k + d) + 1 from rfl, os_skip (k + d) t out at_ u _ i (by omega) (by omega), hw]
      exact os_read t out at_ u g h1 h3 hu d (i + 1) (by omega) k
theorem os_put (t : ByteArray) (at_ : Int) (g : List UInt8) (h3 : g.length ≤ 3) (out : List Int) (ho : out.length + 3 < 140737488355328) : ∀ (d i : Nat), i + d = g.length → ∀ (k : Nat),
    impl_ofSigns.l2 (k + d + 1) t (out ++ sgInts (g.take i)) at_ (sg_num g 3 : Int) (g.length : Int) (i : Int) = impl_ofSigns.l0 k t (out ++ sgInts g) (wrap64 (at_ + 4))
  | 0, i, h, k => by
    rw [impl_ofSigns.l2, if_neg (by omega), List.take_of_length_le (by omega)]
  | d + 1, i, h, k => by
    have e : wrap64 (16 - wrap64 (8 * (i : Int))) = ((16 - 8 * i : Nat) : Int) := by rw [w64 (n := 8 * (i : Int)) (by omega) (by omega), w64 (by omega) (by omega)]; omega
    have hw : wrap64 ((i : Int) + 1) = ((i + 1 : Nat) : Int) := by rw [w64 (by omega) (by omega)]; omega
    have hl : (out ++ sgInts (g.take i)).length < 140737488355328 := by rw [List.length_append, sgInts, List.length_map, List.length_take]; omega
    rw [show k + (d + 1) + 1 = (k + d + 1) + 1 from rfl, impl_ofSigns.l2, if_pos (by omega), if_pos (by rw [e]; omega), if_pos hl, hw, e, sg_shr g i h3 (by omega), List.append_assoc, ← sg_take g i (by omega)]
    exact os_put t at_ g h3 out ho d (i + 1) (by omega) k
/-- The program reads its own signs. -/
theorem os_back (s t : ByteArray) (hs : s.size ≤ 600) (ht : t.data.toList = sg_of s.data.toList) : ∀ (d i : Nat) (k : Nat), s.size ≤ 3 * (i + d) → 3 * i ≤ s.size + 2 → 10 * d + 1 ≤ k →
    impl_ofSigns.l0 k t (sgInts (s.data.toList.take (3 * i))) ((4 * i : Nat) : Int) = some (s, true) := by
  have tl : t.size = 4 * ((s.size + 2) / 3) := by rw [← sg_dl, ht, sg_len _ _ (Nat.le_refl _), sg_dl]
  intro d
  induction d with
  | zero =>
    intro i k h1 h2 hk
    obtain ⟨k, rfl⟩ : ∃ m, k = m + 1 := ⟨k - 1, by omega⟩
    rw [impl_ofSigns.l0, if_neg (by omega), List.take_of_length_le (by rw [sg_dl]; omega), sgInts_str, ba_eta, impl_signsOf.f, if_pos (by omega), Option.bind_some, if_pos (by rw [ByteArray.toList_eq, ByteArray.toList_eq, ht]), if_neg (by rw [sgInts, List.length_map, sg_dl]; omega)]
  | succ d ih =>
    intro i k h1 h2 hk
    by_cases c : 3 * i < s.size
    · obtain ⟨g, hg⟩ : ∃ g, g = (s.data.toList.drop (3 * i)).take 3 := ⟨_, rfl⟩
      have gl : g.length = min 3 (s.size - 3 * i) := by rw [hg, List.length_take, List.length_drop, sg_dl]
      obtain ⟨k, rfl⟩ : ∃ m, k = m + g.length + 7 := ⟨k - 7 - g.length, by omega⟩
      have hw : wrap64 (((4 * i : Nat) : Int) + 4) = ((4 * (i + 1) : Nat) : Int) := by rw [w64 (by omega) (by omega)]; omega
      have hx : (t.extract (4 * i) (4 * (i + 1))).data.toList = sg_quad g := by
        simp only [ByteArray.data_extract, Array.toList_extract, List.extract_eq_take_drop]
        rw [ht, sg_drop, sg_of_cons _ (fun e => by have := congrArg List.length e; rw [List.length_drop, sg_dl, List.length_nil] at this; omega), ← hg, show 4 * (i + 1) - 4 * i = (sg_quad g).length by rw [sg_quad_len]; omega, List.take_left']
        rfl
      have hxs : (t.extract (4 * i) (4 * (i + 1))).size = 4 := by rw [← sg_dl, hx]; rfl
      obtain ⟨u, hu⟩ : ∃ u : ByteArray, u = ⟨((sg_quad g).take (g.length + 1)).toArray⟩ := ⟨_, rfl⟩
      have hut : u.data.toList = (sg_quad g).take (g.length + 1) := by rw [hu]
      have us : u.size = g.length + 1 := by rw [← sg_dl, hut, List.length_take, sg_quad_len]; omega
      have e1 : impl_ofSigns.l0 (k + g.length + 7) t (sgInts (s.data.toList.take (3 * i))) ((4 * i : Nat) : Int) = impl_ofSigns.l1 (k + g.length + 2 + 4) t (sgInts (s.data.toList.take (3 * i))) ((4 * i : Nat) : Int) u (sg_n g 0 : Int) ((0 : Nat) : Int) := by
        rw [impl_ofSigns.l0, if_pos (by omega), if_pos (by omega), hw, if_pos (by omega), if_pos (by omega), Int.toNat_natCast, Int.toNat_natCast, os_trim _ (by omega), Option.bind_some, hx, sg_trim g (by omega), ← hu, sg_n0]
        rfl
      rw [e1, os_read t _ _ u g (by omega) (by omega) hut 4 0 rfl (k + g.length + 2), show k + g.length + 2 = (k + g.length + 1) + 1 from rfl, impl_ofSigns.l1, if_neg (by decide), if_neg (by omega), us, sg_n4,
        show wrap64 (((g.length + 1 : Nat) : Int) - 1) = (g.length : Int) by rw [w64 (by omega) (by omega)]; omega]
      have p := os_put t ((4 * i : Nat) : Int) g (by omega) (sgInts (s.data.toList.take (3 * i))) (by rw [sgInts, List.length_map, List.length_take, sg_dl]; omega) g.length 0 (by omega) k
      simp only [List.take_zero] at p
      rw [show sgInts ([] : List UInt8) = [] from rfl, List.append_nil] at p
      refine p.trans ?_
      have e2 : sgInts (s.data.toList.take (3 * i)) ++ sgInts g = sgInts (s.data.toList.take (3 * (i + 1))) := by
        rw [hg, sgInts, sgInts, sgInts, ← List.map_append, show 3 * (i + 1) = 3 * i + 3 by omega, List.take_add]
      rw [e2, hw]
      exact ih (i + 1) k (by omega) (by omega) (by omega)
    · obtain ⟨k, rfl⟩ : ∃ m, k = m + 1 := ⟨k - 1, by omega⟩
      rw [impl_ofSigns.l0, if_neg (by omega), List.take_of_length_le (by rw [sg_dl]; omega), sgInts_str, ba_eta, impl_signsOf.f, if_pos (by omega), Option.bind_some, if_pos (by rw [ByteArray.toList_eq, ByteArray.toList_eq, ht]), if_neg (by rw [sgInts, List.length_map, sg_dl]; omega)]
theorem os_of (s t : ByteArray) (hs : s.size ≤ 600) (ht : t.data.toList = sg_of s.data.toList) (k : Nat) (hk : 2100 ≤ k) : impl_ofSigns.f k t = some (s, true) := by
  have tl : t.size = 4 * ((s.size + 2) / 3) := by rw [← sg_dl, ht, sg_len _ _ (Nat.le_refl _), sg_dl]
  obtain ⟨k, rfl⟩ : ∃ m, k = m + 1 := ⟨k - 1, by omega⟩
  unfold impl_ofSigns.f
  rw [if_pos (by omega), impl_ofSigns.j0, if_neg (by rw [decide_eq_true_eq]; omega)]
  exact os_back s t hs ht 200 0 k (by omega) (by omega) (by omega)

/-! Lines and armour. -/
def chunksF (w : Nat) : Nat → List UInt8 → List ByteArray
  | 0, _ => []
  | f + 1, l => if l = [] then [] else ⟨(l.take w).toArray⟩ :: chunksF w f (l.drop w)
theorem chunksF_nil (w f : Nat) : chunksF w f [] = [] := by cases f <;> simp [chunksF]
theorem ba_ext (a b : ByteArray) (h : a.data.toList = b.data.toList) : a = b := ByteArray.ext (Array.toList_inj.1 h)
theorem ex_list (x : ByteArray) (i j : Nat) : (x.extract i j).data.toList = (x.data.toList.drop i).take (j - i) := by
  simp only [ByteArray.data_extract, Array.toList_extract, List.extract_eq_take_drop]
theorem li_l0 (w : Nat) (hw : 1 ≤ w) (hw2 : w ≤ 1000) : ∀ (d : Nat) (x : ByteArray) (acc : List ByteArray) (k : Nat), x.size ≤ d → d + 1 ≤ k → acc.length + d < 8796093022208 →
    impl_linesOf.l0 k x (w : Int) acc = some (acc ++ chunksF w d x.data.toList) := by
  intro d
  induction d with
  | zero =>
    intro x acc k hd hk ha
    obtain ⟨k, rfl⟩ : ∃ m, k = m + 1 := ⟨k - 1, by omega⟩
    have e : x.data.toList = [] := List.eq_nil_of_length_eq_zero (by rw [sg_dl]; omega)
    rw [impl_linesOf.l0, if_pos (by rw [ByteArray.toList_eq, e]), e, chunksF_nil, List.append_nil]
  | succ d ih =>
    intro x acc k hd hk ha
    obtain ⟨k, rfl⟩ : ∃ m, k = m + 1 := ⟨k - 1, by omega⟩
    by_cases e : x.data.toList = []
    · rw [impl_linesOf.l0, if_pos (by rw [ByteArray.toList_eq, e]), e, chunksF_nil, List.append_nil]
    · have hs : 0 < x.size := by rw [← sg_dl]; exact List.length_pos_iff.2 e
      obtain ⟨j, hj⟩ : ∃ j : Nat, j = min w x.size := ⟨_, rfl⟩
      have hm : mn (w : Int) (x.size : Int) = (j : Int) := by unfold mn; split <;> omega
      have e1 : x.extract 0 j = ⟨(x.data.toList.take w).toArray⟩ := ba_ext _ _ (by
        rw [ex_list, List.drop_zero, Nat.sub_zero]
        rcases Nat.le_total w x.size with q | q
        · rw [hj, Nat.min_eq_left q]
        · rw [hj, Nat.min_eq_right q, List.take_of_length_le (by rw [sg_dl]; omega), List.take_of_length_le (by rw [sg_dl]; omega)])
      have e2 : (x.extract j x.size).data.toList = x.data.toList.drop w := by
        rw [ex_list, List.take_of_length_le (by rw [List.length_drop, sg_dl]; omega)]
        rcases Nat.le_total w x.size with q | q
        · rw [hj, Nat.min_eq_left q]
        · rw [List.drop_eq_nil_of_le (by rw [sg_dl]; omega), List.drop_eq_nil_of_le (by rw [sg_dl]; omega)]
      have e3 : (x.extract j x.size).size ≤ d := by rw [← sg_dl, e2, List.length_drop, sg_dl]; omega
      rw [impl_linesOf.l0, if_neg (by rw [ByteArray.toList_eq]; exact e), hm, if_pos (by omega), if_pos (by omega), if_pos (by omega), Int.toNat_natCast, e1,
        ih _ _ k e3 (by omega) (by rw [List.length_append]; simp only [List.length_cons, List.length_nil]; omega), e2, List.append_assoc]
      rw [show chunksF w (d + 1) x.data.toList = if x.data.toList = [] then [] else ⟨(x.data.toList.take w).toArray⟩ :: chunksF w d (x.data.toList.drop w) from rfl, if_neg e]
      rfl
theorem sl_l0 (w : Nat) (hw : 1 ≤ w) (hw2 : w ≤ 1000) (x : ByteArray) (hx : x.size ≤ 1000000000) : ∀ (d a : Nat) (acc : List ByteArray) (k : Nat), x.size - a ≤ d → d + 1 ≤ k → a ≤ x.size + 1000 → acc.length + d < 8796093022208 →
    spec_l3Lines.l0 k x (w : Int) acc (a : Int) = some (acc ++ chunksF w d (x.data.toList.drop a)) := by
  intro d
  induction d with
  | zero =>
    intro a acc k hd hk h2 ha
    obtain ⟨k, rfl⟩ : ∃ m, k = m + 1 := ⟨k - 1, by omega⟩
    rw [spec_l3Lines.l0, if_neg (by omega), List.drop_eq_nil_of_le (by rw [sg_dl]; omega), chunksF_nil, List.append_nil]
  | succ d ih =>
    intro a acc k hd hk h2 ha
    obtain ⟨k, rfl⟩ : ∃ m, k = m + 1 := ⟨k - 1, by omega⟩
    by_cases c : a < x.size
    · have hw1 : wrap64 ((a : Int) + (w : Int)) = ((a + w : Nat) : Int) := by rw [w64 (by omega) (by omega)]; omega
      obtain ⟨j, hj⟩ : ∃ j : Nat, j = min x.size (a + w) := ⟨_, rfl⟩
      have hl : spec_l1Least.f (x.size : Int) ((a + w : Nat) : Int) = some (j : Int) := by
        rw [spec_l1Least.f]
        by_cases q : (x.size : Int) < ((a + w : Nat) : Int)
        · rw [if_pos q, show (j : Int) = (x.size : Int) by omega]
        · rw [if_neg q, show (j : Int) = ((a + w : Nat) : Int) by omega]
      have e : x.data.toList.drop a ≠ [] := fun e => by have := congrArg List.length e; rw [List.length_drop, sg_dl, List.length_nil] at this; omega
      have e1 : x.extract a j = ⟨((x.data.toList.drop a).take w).toArray⟩ := ba_ext _ _ (by
        rw [ex_list]
        rcases Nat.le_total x.size (a + w) with q | q
        · rw [List.take_of_length_le (by rw [List.length_drop, sg_dl]; omega), List.take_of_length_le (by rw [List.length_drop, sg_dl]; omega)]
        · rw [show j - a = w by omega])
      rw [spec_l3Lines.l0, if_pos (by omega), hw1, hl, Option.bind_some, if_pos (by omega), if_pos (by omega), if_pos (by omega), if_pos (by omega), Int.toNat_natCast, Int.toNat_natCast, e1,
        ih _ _ k (by omega) (by omega) (by omega) (by rw [List.length_append]; simp only [List.length_cons, List.length_nil]; omega), List.append_assoc]
      rw [show chunksF w (d + 1) (x.data.toList.drop a) = if x.data.toList.drop a = [] then [] else ⟨((x.data.toList.drop a).take w).toArray⟩ :: chunksF w d ((x.data.toList.drop a).drop w) from rfl, if_neg e, List.drop_drop]
      rfl
    · rw [spec_l3Lines.l0, if_neg (by omega), List.drop_eq_nil_of_le (by rw [sg_dl]; omega), chunksF_nil, List.append_nil]
theorem lines_both (w : Nat) (hw : 1 ≤ w) (hw2 : w ≤ 1000) (x : ByteArray) (hx : x.size ≤ 1000000) (k : Nat) (hk : x.size + 1 ≤ k) :
    impl_linesOf.f k x (w : Int) = some (chunksF w x.size x.data.toList) ∧ spec_l3Lines.f k x (w : Int) = some (chunksF w x.size x.data.toList) :=
  ⟨li_l0 w hw hw2 x.size x [] k (Nat.le_refl _) hk (by simp only [List.length_nil]; omega), sl_l0 w hw hw2 x (by omega) x.size 0 [] k (by omega) hk (by omega) (by simp only [List.length_nil]; omega)⟩
theorem armor_same : ∀ (k : Nat) (a b : ByteArray) (c : List ByteArray) (n i : Int), impl_armorOf.l0 k a b c n i = spec_l3Armor.l0 k a b c n i
  | 0, _, _, _, _, _ => rfl
  | k + 1, a, b, c, n, i => by
    rw [impl_armorOf.l0, spec_l3Armor.l0]
    simp only [armor_same k]
def bodyL (cs : List ByteArray) : List UInt8 := cs.flatMap fun c => c.data.toList ++ [10]
theorem end9 : (⟨#[45, 45, 45, 45, 45, 69, 78, 68, 32]⟩ : ByteArray).size = 9 := rfl
theorem end6 : (⟨#[45, 45, 45, 45, 45, 10]⟩ : ByteArray).size = 6 := rfl
theorem end1 : (⟨#[10]⟩ : ByteArray).size = 1 := rfl
theorem end11 : (⟨#[45, 45, 45, 45, 45, 66, 69, 71, 73, 78, 32]⟩ : ByteArray).size = 11 := rfl
theorem ar_l0 (name : ByteArray) (hn : name.size ≤ 1000) (cs : List ByteArray) (hc : cs.length ≤ 1000000) : ∀ (d i : Nat) (acc : ByteArray) (k : Nat), i + d = cs.length → d + 1 ≤ k → acc.size + (bodyL (cs.drop i)).length ≤ 1000000000000 →
    impl_armorOf.l0 k name acc cs (cs.length : Int) (i : Int) = some ⟨(acc.data.toList ++ bodyL (cs.drop i) ++ [45, 45, 45, 45, 45, 69, 78, 68, 32] ++ name.data.toList ++ [45, 45, 45, 45, 45, 10]).toArray⟩
  | 0, i, acc, k, hd, hk, ha => by
    obtain ⟨k, rfl⟩ : ∃ m, k = m + 1 := ⟨k - 1, by omega⟩
    rw [List.drop_eq_nil_of_le (by omega)] at ha ⊢
    simp only [bodyL, List.flatMap_nil, List.length_nil] at ha
    rw [impl_armorOf.l0, if_neg (by omega), if_pos (by omega), if_pos (by simp only [ByteArray.size_append, end9]; omega), if_pos (by simp only [ByteArray.size_append, end9]; omega)]
    congr 1
    apply ba_ext
    simp [bodyL]
  | d + 1, i, acc, k, hd, hk, ha => by
    obtain ⟨k, rfl⟩ : ∃ m, k = m + 1 := ⟨k - 1, by omega⟩
    have hi : i < cs.length := by omega
    have hr : rdOf ByteArray.empty cs (i : Int) = cs[i] := by
      unfold rdOf
      rw [Int.toNat_natCast, List.getD_eq_getElem?_getD, List.getElem?_eq_getElem hi]; rfl
    have hb : bodyL (cs.drop i) = (cs[i].data.toList ++ [10]) ++ bodyL (cs.drop (i + 1)) := by
      rw [List.drop_eq_getElem_cons hi, bodyL, List.flatMap_cons]; rfl
    have hw : wrap64 ((i : Int) + 1) = ((i + 1 : Nat) : Int) := by rw [w64 (by omega) (by omega)]; omega
    rw [hb, List.length_append, List.length_append, sg_dl] at ha
    simp only [List.length_cons, List.length_nil] at ha
    rw [impl_armorOf.l0, if_pos (by omega), if_pos (by omega), if_pos (by omega), hr, if_pos (by omega), if_pos (by simp only [ByteArray.size_append, end1]; omega), hw,
      ar_l0 name hn cs hc d (i + 1) _ k (by omega) (by omega) (by simp only [ByteArray.size_append, end1]; omega), hb]
    congr 2
    simp
def armorL (name : ByteArray) (s : ByteArray) : List UInt8 :=
  [45, 45, 45, 45, 45, 66, 69, 71, 73, 78, 32] ++ name.data.toList ++ [45, 45, 45, 45, 45, 10] ++ bodyL (chunksF 64 (sg_of s.data.toList).length (sg_of s.data.toList)) ++ [45, 45, 45, 45, 45, 69, 78, 68, 32] ++ name.data.toList ++ [45, 45, 45, 45, 45, 10]

def NameOk (s : ByteArray) : Prop := (∀ b ∈ s.data.toList, 65 ≤ b.toNat ∧ b.toNat ≤ 90) ∧ 1 ≤ s.size ∧ s.size ≤ 16
theorem an_l0 (s : ByteArray) (hs : s.size ≤ 140737488351232) (d : Nat) : ∀ (k i : Nat), i + d = s.size → d < k →
    ∃ r : Bool, spec_l3Name.l0 k s (i : Int) = some r ∧ impl_isArmorName.l0 k s (s.size : Int) (i : Int) = some r ∧ (r = true → (∀ b ∈ s.data.toList.drop i, 65 ≤ b.toNat ∧ b.toNat ≤ 90) ∧ 1 ≤ s.size ∧ s.size ≤ 16) := by
  induction d with
  | zero =>
    intro k i hd hk
    obtain ⟨k, rfl⟩ : ∃ m, k = m + 1 := ⟨k - 1, by omega⟩
    rw [spec_l3Name.l0, impl_isArmorName.l0, if_neg (by omega), if_neg (by omega)]
    unfold spec_l1In.f impl_within.f
    by_cases h : (s.size : Int) ≥ 1
    · rw [if_pos h, Option.bind_some]
      refine ⟨_, rfl, rfl, fun e => ⟨?_, by omega, by have := of_decide_eq_true e; omega⟩⟩
      rw [List.drop_eq_nil_of_le (by rw [sg_dl]; omega)]
      intro b hb; cases hb
    · rw [if_neg h, Option.bind_some]; exact ⟨_, rfl, rfl, fun e => by cases e⟩
  | succ d ih =>
    intro k i hd hk
    obtain ⟨k, rfl⟩ : ∃ m, k = m + 1 := ⟨k - 1, by omega⟩
    have hlt : i < s.data.toList.length := by rw [sg_dl]; omega
    have hw : wrap64 ((i : Int) + 1) = ((i + 1 : Nat) : Int) := by rw [w64 (by omega) (by omega)]; omega
    have hb := sg_bt' s i (by omega)
    have hg : s.data.toList.getD i 0 = s.data.toList[i] := by rw [List.getD_eq_getElem?_getD, List.getElem?_eq_getElem hlt]; rfl
    have c1 : (i : Int) < (s.size : Int) := by omega
    have c2 : (0 : Int) ≤ (i : Int) := by omega
    rw [spec_l3Name.l0, impl_isArmorName.l0, hw]
    simp only [if_pos c1, if_pos c2]
    by_cases ha : bt s i < 65
    · simp only [if_pos ha]; exact ⟨_, rfl, rfl, fun e => by cases e⟩
    · by_cases hb' : bt s i > 90
      · simp only [if_neg ha, if_pos hb']; exact ⟨_, rfl, rfl, fun e => by cases e⟩
      · simp only [if_neg ha, if_neg hb']
        obtain ⟨r, r1, r2, r3⟩ := ih k (i + 1) (by omega) (by omega)
        refine ⟨r, r1, r2, fun e => ⟨?_, (r3 e).2⟩⟩
        rw [List.drop_eq_getElem_cons hlt]
        intro b hm
        rcases List.mem_cons.1 hm with q | q
        · rw [q, ← hg]; omega
        · exact (r3 e).1 b q
theorem name_both (s : ByteArray) (hs : s.size ≤ 140737488351232) (k : Nat) (hk : s.size < k) :
    ∃ r : Bool, spec_l3Name.f k s = some r ∧ impl_isArmorName.f k s = some r ∧ (r = true → NameOk s) := by
  obtain ⟨r, r1, r2, r3⟩ := an_l0 s hs s.size k 0 (by omega) hk
  exact ⟨r, r1, r2, fun e => ⟨(r3 e).1, (r3 e).2⟩⟩
theorem chunk_len (w : Nat) (hw : 1 ≤ w) : ∀ (f : Nat) (l : List UInt8), (chunksF w f l).length ≤ f
  | 0, _ => Nat.le_refl _
  | f + 1, l => by
    rw [chunksF]
    by_cases e : l = []
    · rw [if_pos e]; simp
    · rw [if_neg e, List.length_cons]; have := chunk_len w hw f (l.drop w); omega
theorem chunk_join (w : Nat) (hw : 1 ≤ w) : ∀ (f : Nat) (l : List UInt8), l.length ≤ f → (chunksF w f l).flatMap (fun c => c.data.toList) = l
  | 0, l, h => by have : l = [] := List.eq_nil_of_length_eq_zero (by omega); subst this; rfl
  | f + 1, l, h => by
    rw [chunksF]
    by_cases e : l = []
    · rw [if_pos e, e]; rfl
    · have := List.length_pos_iff.2 e
      rw [if_neg e, List.flatMap_cons, chunk_join w hw f (l.drop w) (by rw [List.length_drop]; omega)]
      exact List.take_append_drop w l
theorem body_len : ∀ cs : List ByteArray, (bodyL cs).length = (cs.flatMap fun c => c.data.toList).length + cs.length
  | [] => rfl
  | c :: cs => by
    have := body_len cs
    simp only [bodyL, List.flatMap_cons, List.length_append, List.length_cons, List.length_nil] at this ⊢
    omega
theorem armor_both (name s : ByteArray) (hn : name.size ≤ 1000) (hs : s.size ≤ 600) (k : Nat) (hk : 10000 ≤ k) :
    impl_armorOf.f k name s = some ⟨(armorL name s).toArray⟩ ∧ spec_l3Armor.f k name s = some ⟨(armorL name s).toArray⟩ := by
  obtain ⟨g1, g2⟩ := signs_both s (by omega) k (by omega)
  have gl := sg_len _ s.data.toList (Nat.le_refl _)
  rw [sg_dl] at gl
  obtain ⟨x, hx⟩ : ∃ x : ByteArray, x = ⟨(sg_of s.data.toList).toArray⟩ := ⟨_, rfl⟩
  have xd : x.data.toList = sg_of s.data.toList := by rw [hx]
  have xs : x.size = (sg_of s.data.toList).length := by rw [← sg_dl, xd]
  obtain ⟨l1, l2⟩ := lines_both 64 (by omega) (by omega) x (by omega) k (by omega)
  have cl := chunk_len 64 (by omega) x.size x.data.toList
  have cj := chunk_join 64 (by omega) x.size x.data.toList (by rw [sg_dl]; exact Nat.le_refl _)
  have bl := body_len (chunksF 64 x.size x.data.toList)
  rw [cj, sg_dl] at bl
  obtain ⟨H, hH⟩ : ∃ H : ByteArray, H = ((⟨#[45, 45, 45, 45, 45, 66, 69, 71, 73, 78, 32]⟩ : ByteArray) ++ name) ++ (⟨#[45, 45, 45, 45, 45, 10]⟩ : ByteArray) := ⟨_, rfl⟩
  have hHs : H.size = 17 + name.size := by rw [hH]; simp only [ByteArray.size_append, end11, end6]; omega
  have a := ar_l0 name hn (chunksF 64 x.size x.data.toList) (by omega) (chunksF 64 x.size x.data.toList).length 0 H k (by omega) (by omega) (by rw [List.drop_zero]; omega)
  rw [List.drop_zero] at a
  have e : H.data.toList ++ bodyL (chunksF 64 x.size x.data.toList) ++ [45, 45, 45, 45, 45, 69, 78, 68, 32] ++ name.data.toList ++ [45, 45, 45, 45, 45, 10] = armorL name s := by
    rw [hH, armorL, xs, xd]
    simp
  rw [e] at a
  have a0 : impl_armorOf.l0 k name H (chunksF 64 x.size x.data.toList) ((chunksF 64 x.size x.data.toList).length : Int) 0 = some ⟨(armorL name s).toArray⟩ := a
  constructor
  · unfold impl_armorOf.f
    rw [if_pos (by omega), if_pos (by simp only [ByteArray.size_append, end11]; omega), g2, Option.bind_some, ← hx, show (64 : Int) = ((64 : Nat) : Int) from rfl, l1, Option.bind_some, ← hH, a0]
  · unfold spec_l3Armor.f
    rw [if_pos (by omega), if_pos (by simp only [ByteArray.size_append, end11]; omega), g1, Option.bind_some, ← hx, show (64 : Int) = ((64 : Nat) : Int) from rfl, l2, Option.bind_some, ← hH, ← armor_same, a0]
theorem armorOf_both (name s : ByteArray) (hn : name.size ≤ 1000) (k : Nat) (hk : 10000 ≤ k) :
    ∃ x : ByteArray × Bool, impl_ArmorOf.f k name s = some x ∧ spec_ArmorOf.f k name s = some x ∧ (x.2 = true → x.1 = ⟨(armorL name s).toArray⟩ ∧ NameOk name ∧ impl_isArmorName.f k name = some true ∧ s.size ≤ 600) := by
  obtain ⟨r, r1, r2, r3⟩ := name_both name (by omega) k (by omega)
  unfold impl_ArmorOf.f spec_ArmorOf.f
  rw [r1, r2]
  cases r with
  | false => exact ⟨_, rfl, rfl, fun e => by cases e⟩
  | true =>
    simp only [Option.bind_some, if_true]
    by_cases q : (s.size : Int) > 600
    · rw [if_pos q, if_pos q]; exact ⟨_, rfl, rfl, fun e => by cases e⟩
    · obtain ⟨a1, a2⟩ := armor_both name s hn (by omega) k hk
      rw [if_neg q, if_neg q, a1, a2]
      exact ⟨_, rfl, rfl, fun _ => ⟨rfl, r3 rfl, trivial, by omega⟩⟩

theorem occ_get {s sub : List UInt8} {j m : Nat} (h : Lib.occAt s sub j = true) (hm : m < sub.length) : s[j + m]? = sub[m]? := by
  obtain ⟨t, ht⟩ := List.isPrefixOf_iff_prefix.1 h
  rw [← List.getElem?_drop, ← ht, List.getElem?_append_left hm]
theorem index_mark (p sub q : List UInt8) (m : Nat) (hm : m < sub.length) (hno : ∀ j, j < p.length → (p ++ sub ++ q)[j + m]? ≠ sub[m]?) : Lib.index (p ++ sub ++ q) sub = (p.length : Int) := by
  refine Lib.index_first (by simp only [List.length_append]; omega) ?_ (fun j hj => ?_)
  · unfold Lib.occAt
    rw [List.append_assoc, List.drop_left]
    exact List.isPrefixOf_iff_prefix.2 (List.prefix_append _ _)
  · rcases h : Lib.occAt (p ++ sub ++ q) sub j with _ | _
    · rfl
    · exact absurd (occ_get h hm) (hno j hj)
theorem cut_mark (p sub q : List UInt8) (h : Lib.index (p ++ sub ++ q) sub = (p.length : Int)) : Lib.cut (p ++ sub ++ q) sub = (p, q, true) := by
  unfold Lib.cut
  rw [h, if_pos (by omega), Int.toNat_natCast]
  have e1 : (p ++ sub ++ q).take p.length = p := by rw [List.append_assoc, List.take_left']; rfl
  have e2 : (p ++ sub ++ q).drop (p.length + sub.length) = q := by rw [← List.length_append, List.drop_left]
  rw [e1, e2]
theorem index_head (p q : List UInt8) (c : UInt8) (tl : List UInt8) (hp : c ∉ p) : Lib.index (p ++ (c :: tl) ++ q) (c :: tl) = (p.length : Int) := by
  refine index_mark p (c :: tl) q 0 (by simp) (fun j hj e => hp ?_)
  rw [Nat.add_zero, List.append_assoc, List.getElem?_append_left hj] at e
  exact List.mem_of_getElem? e
/-! The signs' bytes. -/
theorem alpha_not : ∀ X : Fin 64, sg_alpha.getD X.val 0 ≠ 45 ∧ sg_alpha.getD X.val 0 ≠ 10 := by decide +kernel
theorem one_not (g : List UInt8) (i : Nat) : sg_one g i ≠ 45 ∧ sg_one g i ≠ 10 := by
  by_cases h : i ≤ g.length
  · rw [sg_one_alpha g i h]; exact alpha_not ⟨_, sg_x_lt g i⟩
  · rw [sg_one_pad g i (by omega)]; decide
theorem all_not : ∀ (f : Nat) (l : List UInt8) (b : UInt8), b ∈ sg_all f l → b ≠ 45 ∧ b ≠ 10
  | 0, l, b, h => by cases h
  | f + 1, l, b, h => by
    rw [sg_all] at h
    by_cases e : l = []
    · rw [if_pos e] at h; cases h
    · rw [if_neg e] at h
      rcases List.mem_append.1 h with q | q
      · simp only [sg_quad, List.mem_cons, List.not_mem_nil, or_false] at q
        rcases q with q | q | q | q <;> (rw [q]; exact one_not _ _)
      · exact all_not f _ b q
theorem of_not (l : List UInt8) (b : UInt8) (h : b ∈ sg_of l) : b ≠ 45 ∧ b ≠ 10 := all_not _ l b h
theorem chunk_mem (w : Nat) : ∀ (f : Nat) (l : List UInt8) (c : ByteArray), c ∈ chunksF w f l → ∀ b ∈ c.data.toList, b ∈ l
  | 0, l, c, h => by cases h
  | f + 1, l, c, h => by
    rw [chunksF] at h
    by_cases e : l = []
    · rw [if_pos e] at h; cases h
    · rw [if_neg e] at h
      intro b hb
      rcases List.mem_cons.1 h with q | q
      · rw [q] at hb; exact List.mem_of_mem_take hb
      · exact List.mem_of_mem_drop (chunk_mem w f _ c q b hb)
theorem body_mem (cs : List ByteArray) (b : UInt8) (h : b ∈ bodyL cs) : b = 10 ∨ ∃ c ∈ cs, b ∈ c.data.toList := by
  unfold bodyL at h
  obtain ⟨c, hc, hb⟩ := List.mem_flatMap.1 h
  rcases List.mem_append.1 hb with q | q
  · exact Or.inr ⟨c, hc, q⟩
  · exact Or.inl (by simpa using q)
theorem body_replace : ∀ cs : List ByteArray, (∀ c ∈ cs, (10 : UInt8) ∉ c.data.toList) →
    Lib.count (bodyL cs) [10] = cs.length ∧ Lib.replaceK [10] [] cs.length (bodyL cs) = cs.flatMap fun c => c.data.toList
  | [], _ => ⟨rfl, rfl⟩
  | c :: cs, h => by
    obtain ⟨i1, i2⟩ := body_replace cs (fun d hd => h d (List.mem_cons_of_mem _ hd))
    have e : bodyL (c :: cs) = c.data.toList ++ [10] ++ bodyL cs := by rw [bodyL, List.flatMap_cons]; rfl
    have hi : Lib.index (bodyL (c :: cs)) [10] = (c.data.toList.length : Int) := by rw [e]; exact index_head _ _ 10 [] (h c (List.mem_cons_self ..))
    have hd : (bodyL (c :: cs)).drop (c.data.toList.length + [(10 : UInt8)].length) = bodyL cs := by rw [e, ← List.length_append, List.drop_left]
    have ht : (bodyL (c :: cs)).take c.data.toList.length = c.data.toList := by rw [e, List.append_assoc, List.take_left']; rfl
    refine ⟨?_, ?_⟩
    · rw [Lib.count_hit (by simp) hi, hd, i1, List.length_cons]; omega
    · rw [List.length_cons, Lib.replaceK_hit [10] [] cs.length _ _ hi, hd, ht, i2, List.append_nil, List.flatMap_cons]
theorem body_all (cs : List ByteArray) (h : ∀ c ∈ cs, (10 : UInt8) ∉ c.data.toList) : Lib.replaceAll (bodyL cs) [10] [] = cs.flatMap fun c => c.data.toList := by
  obtain ⟨i1, i2⟩ := body_replace cs h
  unfold Lib.replaceAll Lib.replace Lib.replaceNum
  rw [if_neg (by decide), if_pos (Or.inl (by decide)), i1, i2]
theorem impl_back (name s t : ByteArray) (hn : NameOk name) (hs : s.size ≤ 600) (ht : t.data.toList = armorL name s) (htl : t.size ≤ 1000) (k : Nat) (hk : 10000 ≤ k) (hv : impl_isArmorName.f k name = some true) :
    impl_OfArmor.f k t = some (name, s, true) := by
  obtain ⟨n1, n2, n3⟩ := hn
  have hnm : ∀ b ∈ name.data.toList, b ≠ 10 := fun b hb e => by have := (n1 b hb).1; rw [e] at this; exact absurd this (by decide)
  obtain ⟨cs, hcs⟩ : ∃ cs, cs = chunksF 64 (sg_of s.data.toList).length (sg_of s.data.toList) := ⟨_, rfl⟩
  have hc10 : ∀ c ∈ cs, (10 : UInt8) ∉ c.data.toList := fun c hc hb => (of_not _ _ (chunk_mem 64 _ _ c (hcs ▸ hc) 10 hb)).2 rfl
  have hc45 : (45 : UInt8) ∉ bodyL cs := fun hb => by
    rcases body_mem cs 45 hb with q | ⟨c, hc, q⟩
    · exact absurd q (by decide)
    · exact (of_not _ _ (chunk_mem 64 _ _ c (hcs ▸ hc) 45 q)).1 rfl
  have cj : (cs.flatMap fun c => c.data.toList) = sg_of s.data.toList := by rw [hcs]; exact chunk_join 64 (by omega) _ _ (Nat.le_refl _)
  have e0 : armorL name s = ([45, 45, 45, 45, 45, 66, 69, 71, 73, 78, 32] ++ name.data.toList) ++ [45, 45, 45, 45, 45, 10] ++ (bodyL cs ++ [45, 45, 45, 45, 45, 69, 78, 68, 32] ++ (name.data.toList ++ [45, 45, 45, 45, 45, 10])) := by
    rw [armorL, ← hcs]; simp only [List.append_assoc]
  have c1 : Lib.cut t.data.toList [45, 45, 45, 45, 45, 10] = ([45, 45, 45, 45, 45, 66, 69, 71, 73, 78, 32] ++ name.data.toList, bodyL cs ++ [45, 45, 45, 45, 45, 69, 78, 68, 32] ++ (name.data.toList ++ [45, 45, 45, 45, 45, 10]), true) := by
    rw [ht, e0]
    refine cut_mark _ _ _ (index_mark _ _ _ 5 (by decide) (fun j hj e => ?_))
    have e5 : ([45, 45, 45, 45, 45, 66, 69, 71, 73, 78, 32] ++ name.data.toList) ++ [45, 45, 45, 45, 45, 10] ++ (bodyL cs ++ [45, 45, 45, 45, 45, 69, 78, 68, 32] ++ (name.data.toList ++ [45, 45, 45, 45, 45, 10])) =
        (([45, 45, 45, 45, 45, 66, 69, 71, 73, 78, 32] ++ name.data.toList) ++ [45, 45, 45, 45, 45]) ++ ([10] ++ (bodyL cs ++ [45, 45, 45, 45, 45, 69, 78, 68, 32] ++ (name.data.toList ++ [45, 45, 45, 45, 45, 10]))) := by simp only [List.append_assoc, List.cons_append, List.nil_append]
    rw [e5, List.getElem?_append_left (by rw [List.length_append]; simp only [List.length_cons, List.length_nil]; omega)] at e
    have hm := List.mem_of_getElem? (a := (10 : UInt8)) e
    rcases List.mem_append.1 hm with q | q
    · rcases List.mem_append.1 q with q | q
      · exact absurd q (by decide)
      · exact hnm _ q rfl
    · exact absurd q (by decide)
  have c2 : Lib.cut (bodyL cs ++ [45, 45, 45, 45, 45, 69, 78, 68, 32] ++ (name.data.toList ++ [45, 45, 45, 45, 45, 10])) [45, 45, 45, 45, 45, 69, 78, 68, 32] = (bodyL cs, name.data.toList ++ [45, 45, 45, 45, 45, 10], true) :=
    cut_mark _ _ _ (index_head _ _ 45 [45, 45, 45, 45, 69, 78, 68, 32] hc45)
  have c3 : Lib.trimPrefix ([45, 45, 45, 45, 45, 66, 69, 71, 73, 78, 32] ++ name.data.toList) [45, 45, 45, 45, 45, 66, 69, 71, 73, 78, 32] = name.data.toList := by
    unfold Lib.trimPrefix Lib.hasPrefix
    rw [if_pos (List.isPrefixOf_iff_prefix.2 (List.prefix_append _ _)), List.drop_left]
  have bl := body_len cs
  rw [cj, sg_len _ _ (Nat.le_refl _), sg_dl] at bl
  have cl := chunk_len 64 (by omega) (sg_of s.data.toList).length (sg_of s.data.toList)
  rw [← hcs, sg_len _ _ (Nat.le_refl _), sg_dl] at cl
  have d1 : strings_Cut.f t (⟨#[45, 45, 45, 45, 45, 10]⟩ : ByteArray) = some (⟨([45, 45, 45, 45, 45, 66, 69, 71, 73, 78, 32] ++ name.data.toList).toArray⟩, ⟨(bodyL cs ++ [45, 45, 45, 45, 45, 69, 78, 68, 32] ++ (name.data.toList ++ [45, 45, 45, 45, 45, 10])).toArray⟩, true) := by
    unfold strings_Cut.f
    rw [if_pos (by omega)]
    show some (_, _, _) = _
    rw [show (⟨#[45, 45, 45, 45, 45, 10]⟩ : ByteArray).data.toList = [45, 45, 45, 45, 45, 10] from rfl, c1]
  have d2 : strings_Cut.f ⟨(bodyL cs ++ [45, 45, 45, 45, 45, 69, 78, 68, 32] ++ (name.data.toList ++ [45, 45, 45, 45, 45, 10])).toArray⟩ (⟨#[45, 45, 45, 45, 45, 69, 78, 68, 32]⟩ : ByteArray) = some (⟨(bodyL cs).toArray⟩, ⟨(name.data.toList ++ [45, 45, 45, 45, 45, 10]).toArray⟩, true) := by
    unfold strings_Cut.f
    rw [if_pos (by rw [← sg_dl]; show (bodyL cs ++ _ ++ _).length < _; simp only [List.length_append, List.length_cons, List.length_nil, sg_dl]; omega)]
    show some ((⟨(Lib.cut (bodyL cs ++ [45, 45, 45, 45, 45, 69, 78, 68, 32] ++ (name.data.toList ++ [45, 45, 45, 45, 45, 10])) [45, 45, 45, 45, 45, 69, 78, 68, 32]).1.toArray⟩ : ByteArray), _, _) = _
    rw [c2]
  have d3 : strings_TrimPrefix.f ⟨([45, 45, 45, 45, 45, 66, 69, 71, 73, 78, 32] ++ name.data.toList).toArray⟩ (⟨#[45, 45, 45, 45, 45, 66, 69, 71, 73, 78, 32]⟩ : ByteArray) = some name := by
    unfold strings_TrimPrefix.f
    show some (⟨(Lib.trimPrefix ([45, 45, 45, 45, 45, 66, 69, 71, 73, 78, 32] ++ name.data.toList) [45, 45, 45, 45, 45, 66, 69, 71, 73, 78, 32]).toArray⟩ : ByteArray) = _
    rw [c3, ba_eta]
  have d4 : strings_ReplaceAll.f ⟨(bodyL cs).toArray⟩ (⟨#[10]⟩ : ByteArray) (⟨#[]⟩ : ByteArray) = some ⟨(sg_of s.data.toList).toArray⟩ := by
    unfold strings_ReplaceAll.f
    rw [if_pos ⟨by rw [← sg_dl]; show (bodyL cs).length < _; omega, by decide, by rw [← sg_dl, show (⟨#[]⟩ : ByteArray).size = 0 from rfl, Nat.mul_zero]; show (bodyL cs).length + 0 ≤ _; omega⟩]
    show some (⟨(Lib.replaceAll (bodyL cs) [10] []).toArray⟩ : ByteArray) = _
    rw [body_all cs hc10, cj]
  have d5 := os_of s ⟨(sg_of s.data.toList).toArray⟩ hs rfl k (by omega)
  obtain ⟨a1, _⟩ := armor_both name s (by omega) hs k hk
  unfold impl_OfArmor.f
  rw [if_neg (by omega), d1, Option.bind_some, d2, Option.bind_some, d3, Option.bind_some, d4, Option.bind_some, d5, Option.bind_some]
  simp only [if_true, hv, Option.bind_some]
  rw [if_neg (by omega), a1, Option.bind_some, if_pos (by rw [ByteArray.toList_eq, ByteArray.toList_eq, ht])]

/-! The reference's reading. -/
theorem sign_at : ∀ c : Fin 256, spec_l3Sign.f 65 (c.val : Int) = some (Lib.indexByte sg_alpha (UInt8.ofNat c.val)) := by decide +kernel
theorem up_mono {α : Type} (f : Nat → Option α) (hf : ∀ k, LeO (f k) (f (k + 1))) (k0 : Nat) (r : α) (h : f k0 = some r) : ∀ d, f (k0 + d) = some r
  | 0 => h
  | d + 1 => hf (k0 + d) r (up_mono f hf k0 r h d)
theorem up_to {α : Type} (f : Nat → Option α) (hf : ∀ k, LeO (f k) (f (k + 1))) (k0 k : Nat) (hk : k0 ≤ k) (r : α) (h : f k0 = some r) : f k = some r := by
  have := up_mono f hf k0 r h (k - k0)
  rw [Nat.add_sub_cancel' hk] at this
  exact this
theorem sign_at' (n : Nat) (h : n < 256) : spec_l3Sign.f 65 (n : Int) = some (Lib.indexByte sg_alpha (UInt8.ofNat n)) := sign_at ⟨n, h⟩
theorem l3Sign_eq (b : UInt8) (k : Nat) (hk : 65 ≤ k) : spec_l3Sign.f k (b.toNat : Int) = some (Lib.indexByte sg_alpha b) := by
  have h := sign_at' b.toNat (UInt8.toNat_lt b)
  rw [UInt8.ofNat_toNat] at h
  exact up_to (fun k => spec_l3Sign.f k (b.toNat : Int)) (fun k => spec_l3Sign.mono _ k) 65 k hk _ h
theorem so_step (k : Nat) (t : ByteArray) (out : List Int) (a : Nat) (n m : Int) (i : Nat) (hi : i < 4) (hk : 65 ≤ k) (ha : a + i < t.size) (ht : t.size ≤ 4000) :
    spec_l3Of.l1 (k + 1) t out (a : Int) n m (i : Int) = if Lib.indexByte sg_alpha (t.data.toList.getD (a + i) 0) ≥ 0 then
      spec_l3Of.l1 k t out (a : Int) (Go.bits .or .i64 (wrap64 (n * 64)) (Lib.indexByte sg_alpha (t.data.toList.getD (a + i) 0))) (wrap64 (m + 1)) ((i + 1 : Nat) : Int) else
      spec_l3Of.l1 k t out (a : Int) (wrap64 (n * 64)) m ((i + 1 : Nat) : Int) := by
  have hw : wrap64 ((i : Int) + 1) = ((i + 1 : Nat) : Int) := by rw [w64 (by omega) (by omega)]; omega
  have hw2 : wrap64 ((a : Int) + (i : Int)) = ((a + i : Nat) : Int) := by rw [w64 (by omega) (by omega)]; omega
  rw [spec_l3Of.l1, if_pos (by omega), hw2, if_pos (by omega), if_pos (by omega), sg_bt' t (a + i) ha, l3Sign_eq _ k hk, Option.bind_some, hw]
theorem so_l1 (t : ByteArray) (ht : t.size ≤ 4000) (out : List Int) (a : Nat) (ha : a + 4 ≤ t.size) (k : Nat) (hk : 65 ≤ k) : ∀ (d i : Nat), i + d = 4 → ∀ (n : Int) (m : Nat), m ≤ i →
    ∃ (n' : Int) (m' : Nat), m' ≤ 4 ∧ spec_l3Of.l1 (k + d) t out (a : Int) n (m : Int) (i : Int) = spec_l3Of.l1 k t out (a : Int) n' (m' : Int) 4
  | 0, i, h, n, m, hm => by obtain rfl : i = 4 := by omega
                            exact ⟨n, m, hm, rfl⟩
  | d + 1, i, h, n, m, hm => by
    have hw : wrap64 ((m : Int) + 1) = ((m + 1 : Nat) : Int) := by rw [w64 (by omega) (by omega)]; omega
    rw [show k + (d + 1) = (k + d) + 1 from rfl, so_step (k + d) t out a n m i (by omega) (by omega) (by omega) ht]
    by_cases q : Lib.indexByte sg_alpha (t.data.toList.getD (a + i) 0) ≥ 0
    · rw [if_pos q, hw]; exact so_l1 t ht out a ha k hk d (i + 1) (by omega) _ (m + 1) (by omega)
    · rw [if_neg q]; exact so_l1 t ht out a ha k hk d (i + 1) (by omega) _ m (by omega)
theorem so_shift (i : Nat) (hi : i ≤ 2) : IntKind.u64.wrap (wrap64 (16 - wrap64 (8 * (i : Int)))) = ((16 - 8 * i : Nat) : Int) := by
  rcases (by omega : i = 0 ∨ i = 1 ∨ i = 2) with rfl | rfl | rfl <;> decide +kernel
theorem so_l2 (t : ByteArray) (at_ n : Int) (m : Nat) (hm : m ≤ 4) : ∀ (d i : Nat), i + d = m - 1 → ∀ (out : List Int) (k : Nat), out.length + 3 < 140737488355328 + i →
    ∃ more : List Int, more.length = d ∧ spec_l3Of.l2 (k + d + 1) t out at_ n (m : Int) (i : Int) = spec_l3Of.l0 k t (out ++ more) (wrap64 (at_ + 4))
  | 0, i, h, out, k, ho => ⟨[], rfl, by rw [spec_l3Of.l2, w64 (n := (m : Int) - 1) (by omega) (by omega), if_neg (by omega), List.append_nil]⟩
  | d + 1, i, h, out, k, ho => by
    have hw : wrap64 ((i : Int) + 1) = ((i + 1 : Nat) : Int) := by rw [w64 (by omega) (by omega)]; omega
    obtain ⟨more, h1, h2⟩ := so_l2 t at_ n m hm d (i + 1) (by omega) (out ++ [(shr .i64 n ((16 - 8 * i : Nat) : Int)) % 256]) k (by rw [List.length_append]; simp only [List.length_cons, List.length_nil]; omega)
    refine ⟨(shr .i64 n ((16 - 8 * i : Nat) : Int)) % 256 :: more, by rw [List.length_cons, h1], ?_⟩
    rw [show k + (d + 1) + 1 = (k + d + 1) + 1 from rfl, spec_l3Of.l2, w64 (n := (m : Int) - 1) (by omega) (by omega), if_pos (by omega), so_shift i (by omega), if_pos (by omega), if_pos (by omega), hw, h2, List.append_assoc]
    rfl
theorem ba_beq (a b : ByteArray) : (a.toList == b.toList) = true → a = b := fun h => by
  have := eq_of_beq h
  rw [ByteArray.toList_eq, ByteArray.toList_eq] at this
  exact ByteArray.ext (Array.toList_inj.1 this)
theorem so_l0 (t : ByteArray) (ht : t.size ≤ 4000) : ∀ (d a : Nat) (out : List Int) (k : Nat), a + 4 * d = t.size → 10 * d + 50000 ≤ k → out.length ≤ a →
    ∃ r : ByteArray × Bool, spec_l3Of.l0 k t out (a : Int) = some r ∧ (r.2 = true → sg_of r.1.data.toList = t.data.toList ∧ r.1.size ≤ 4000)
  | 0, a, out, k, hd, hk, ho => by
    obtain ⟨k, rfl⟩ : ∃ m, k = m + 1 := ⟨k - 1, by omega⟩
    have hs : (strOfNums out).size = out.length := by simp [strOfNums, ByteArray.size]
    rw [spec_l3Of.l0, if_neg (by omega), (signs_both (strOfNums out) (by omega) k (by omega)).1, Option.bind_some]
    refine ⟨_, rfl, fun h => ⟨?_, by rw [hs]; omega⟩⟩
    have := ba_beq _ _ h
    rw [← this]
  | d + 1, a, out, k, hd, hk, ho => by
    obtain ⟨k, rfl⟩ : ∃ m, k = m + 10 := ⟨k - 10, by omega⟩
    have hw : wrap64 ((a : Int) + 4) = ((a + 4 : Nat) : Int) := by rw [w64 (by omega) (by omega)]; omega
    obtain ⟨n', m, hm, h⟩ := so_l1 t ht out a (by omega) (k + 5) (by omega) 4 0 rfl 0 0 (by omega)
    have e1 : spec_l3Of.l0 (k + 10) t out (a : Int) = spec_l3Of.l1 (k + 5 + 4) t out (a : Int) 0 ((0 : Nat) : Int) ((0 : Nat) : Int) := by
      rw [spec_l3Of.l0, if_pos (by omega)]; rfl
    rw [e1, h, show k + 5 = (k + 4) + 1 from rfl, spec_l3Of.l1, if_neg (by decide)]
    obtain ⟨j, hj⟩ : ∃ j, k + 4 = j + (m - 1) + 1 := ⟨k + 3 - (m - 1), by omega⟩
    obtain ⟨more, m1, m2⟩ := so_l2 t (a : Int) n' m hm (m - 1) 0 (by omega) out j (by omega)
    have m2' : spec_l3Of.l2 (j + (m - 1) + 1) t out (a : Int) n' (m : Int) 0 = spec_l3Of.l0 j t (out ++ more) (wrap64 ((a : Int) + 4)) := m2
    rw [hj, m2', hw]
    exact so_l0 t ht d (a + 4) (out ++ more) j (by omega) (by omega) (by rw [List.length_append]; omega)
theorem so_total (t : ByteArray) (ht : t.size ≤ 4000) (k : Nat) (hk : 60001 ≤ k) :
    ∃ r : ByteArray × Bool, spec_l3Of.f k t = some r ∧ (r.2 = true → sg_of r.1.data.toList = t.data.toList ∧ r.1.size ≤ 4000) := by
  unfold spec_l3Of.f
  by_cases c : (t.size : Int) % 4 = 0
  · rw [if_pos c]
    exact so_l0 t ht (t.size / 4) 0 [] k (by omega) (by omega) (by simp)
  · rw [if_neg c]; exact ⟨_, rfl, fun h => by cases h⟩
theorem idx61 : Lib.indexByte sg_alpha 61 = -1 := by decide +kernel
theorem so_read (t : ByteArray) (ht : t.size ≤ 4000) (out : List Int) (a : Nat) (ha : a + 4 ≤ t.size) (g : List UInt8) (h1 : 1 ≤ g.length) (h3 : g.length ≤ 3) (hu : ∀ i, i < 4 → t.data.toList.getD (a + i) 0 = sg_one g i) (k : Nat) (hk : 65 ≤ k) : ∀ (d i : Nat), i + d = 4 → ∀ (m : Nat), m = min i (g.length + 1) →
    spec_l3Of.l1 (k + d) t out (a : Int) (sg_n g i : Int) (m : Int) (i : Int) = spec_l3Of.l1 k t out (a : Int) (sg_n g 4 : Int) ((g.length + 1 : Nat) : Int) 4
  | 0, i, h, m, hm => by obtain rfl : i = 4 := by omega
                         rw [hm, Nat.min_eq_right (by omega)]; rfl
  | d + 1, i, h, m, hm => by
    have a1 : i ≤ g.length → m + 1 = min (i + 1) (g.length + 1) := by omega
    have a2 : ¬ i ≤ g.length → m = min (i + 1) (g.length + 1) := by omega
    have a3 : i + 1 + d = 4 := by omega
    have hn := sg_n_lt g i (by omega)
    have hs := sg_n_step g i (by omega)
    have hw : wrap64 ((m : Int) + 1) = ((m + 1 : Nat) : Int) := by rw [w64 (by omega) (by omega)]; omega
    rw [show k + (d + 1) = (k + d) + 1 from rfl, so_step (k + d) t out a _ m i (by omega) (by omega) (by omega) ht, hu i (by omega)]
    by_cases c : i ≤ g.length
    · rw [sg_one_alpha g i c, alpha_idx' _ (sg_x_lt g i), if_pos (by omega), or6 _ _ hn (sg_x_lt g i), ← hs, hw]
      exact so_read t ht out a ha g h1 h3 hu k hk d (i + 1) a3 (m + 1) (a1 c)
    · rw [sg_x_pad g i h1 (by omega) (by omega), Nat.add_zero] at hs
      have hw' : wrap64 ((sg_n g i : Int) * 64) = ((sg_n g (i + 1) : Nat) : Int) := by rw [hs, w64 (by omega) (by omega)]; omega
      rw [sg_one_pad g i (by omega), idx61, if_neg (by decide), hw']
      exact so_read t ht out a ha g h1 h3 hu k hk d (i + 1) a3 m (a2 c)
theorem so_put (t : ByteArray) (at_ : Int) (g : List UInt8) (h3 : g.length ≤ 3) (out : List Int) (ho : out.length + 3 < 140737488355328) : ∀ (d i : Nat), i + d = g.length → ∀ (k : Nat),
    spec_l3Of.l2 (k + d + 1) t (out ++ sgInts (g.take i)) at_ (sg_num g 3 : Int) ((g.length + 1 : Nat) : Int) (i : Int) = spec_l3Of.l0 k t (out ++ sgInts g) (wrap64 (at_ + 4))
  | 0, i, h, k => by
    rw [spec_l3Of.l2, w64 (n := ((g.length + 1 : Nat) : Int) - 1) (by omega) (by omega), if_neg (by omega), List.take_of_length_le (by omega)]
  | d + 1, i, h, k => by
    have hw : wrap64 ((i : Int) + 1) = ((i + 1 : Nat) : Int) := by rw [w64 (by omega) (by omega)]; omega
    have hl : (out ++ sgInts (g.take i)).length < 140737488355328 := by rw [List.length_append, sgInts, List.length_map, List.length_take]; omega
    rw [show k + (d + 1) + 1 = (k + d + 1) + 1 from rfl, spec_l3Of.l2, w64 (n := ((g.length + 1 : Nat) : Int) - 1) (by omega) (by omega), if_pos (by omega), so_shift i (by omega), if_pos (by omega), if_pos hl, hw, sg_shr g i h3 (by omega), List.append_assoc, ← sg_take g i (by omega)]
    exact so_put t at_ g h3 out ho d (i + 1) (by omega) k
/-- The reference reads its own signs. -/
theorem so_back (s t : ByteArray) (ht : t.data.toList = sg_of s.data.toList) (hs : s.size ≤ 2900) : ∀ (d i : Nat) (k : Nat), s.size ≤ 3 * (i + d) → 3 * i ≤ s.size + 2 → 10 * d + 50000 ≤ k →
    spec_l3Of.l0 k t (sgInts (s.data.toList.take (3 * i))) ((4 * i : Nat) : Int) = some (s, true) := by
  have tl : t.size = 4 * ((s.size + 2) / 3) := by rw [← sg_dl, ht, sg_len _ _ (Nat.le_refl _), sg_dl]
  have fin : ∀ (i k : Nat), s.size ≤ 3 * i → 50000 ≤ k → spec_l3Of.l0 k t (sgInts (s.data.toList.take (3 * i))) ((4 * i : Nat) : Int) = some (s, true) := by
    intro i k h1 hk
    obtain ⟨k, rfl⟩ : ∃ m, k = m + 1 := ⟨k - 1, by omega⟩
    rw [spec_l3Of.l0, if_neg (by omega), List.take_of_length_le (by rw [sg_dl]; omega), sgInts_str, ba_eta, (signs_both s (by omega) k (by omega)).1, Option.bind_some, ByteArray.toList_eq, ByteArray.toList_eq, ht, beq_self_eq_true]
  intro d
  induction d with
  | zero => intro i k h1 h2 hk; exact fin i k (by omega) (by omega)
  | succ d ih =>
    intro i k h1 h2 hk
    by_cases c : 3 * i < s.size
    · obtain ⟨g, hg⟩ : ∃ g, g = (s.data.toList.drop (3 * i)).take 3 := ⟨_, rfl⟩
      have gl : g.length = min 3 (s.size - 3 * i) := by rw [hg, List.length_take, List.length_drop, sg_dl]
      obtain ⟨k, rfl⟩ : ∃ m, k = m + g.length + 7 := ⟨k - 7 - g.length, by omega⟩
      have hw : wrap64 (((4 * i : Nat) : Int) + 4) = ((4 * (i + 1) : Nat) : Int) := by rw [w64 (by omega) (by omega)]; omega
      have hu : ∀ j, j < 4 → t.data.toList.getD (4 * i + j) 0 = sg_one g j := fun j hj => by
        have e : t.data.toList.getD (4 * i + j) 0 = (t.data.toList.drop (4 * i)).getD j 0 := by rw [List.getD_eq_getElem?_getD, List.getD_eq_getElem?_getD, List.getElem?_drop]
        rw [e, ht, sg_drop, sg_of_cons _ (fun e => by have := congrArg List.length e; rw [List.length_drop, sg_dl, List.length_nil] at this; omega), ← hg, List.getD_eq_getElem?_getD, List.getElem?_append_left (by rw [sg_quad_len]; omega), sg_quad_at g j hj]
        rfl
      have e1 : spec_l3Of.l0 (k + g.length + 7) t (sgInts (s.data.toList.take (3 * i))) ((4 * i : Nat) : Int) = spec_l3Of.l1 (k + g.length + 2 + 4) t (sgInts (s.data.toList.take (3 * i))) ((4 * i : Nat) : Int) (sg_n g 0 : Int) ((0 : Nat) : Int) ((0 : Nat) : Int) := by
        rw [spec_l3Of.l0, if_pos (by omega), sg_n0]; rfl
      rw [e1, so_read t (by omega) _ (4 * i) (by omega) g (by omega) (by omega) hu (k + g.length + 2) (by omega) 4 0 rfl 0 (by omega), show k + g.length + 2 = (k + g.length + 1) + 1 from rfl, spec_l3Of.l1, if_neg (by decide), sg_n4]
      have p := so_put t ((4 * i : Nat) : Int) g (by omega) (sgInts (s.data.toList.take (3 * i))) (by rw [sgInts, List.length_map, List.length_take, sg_dl]; omega) g.length 0 (by omega) k
      simp only [List.take_zero] at p
      rw [show sgInts ([] : List UInt8) = [] from rfl, List.append_nil] at p
      refine p.trans ?_
      have e2 : sgInts (s.data.toList.take (3 * i)) ++ sgInts g = sgInts (s.data.toList.take (3 * (i + 1))) := by
        rw [hg, sgInts, sgInts, sgInts, ← List.map_append, show 3 * (i + 1) = 3 * i + 3 by omega, List.take_add]
      rw [e2, hw]
      exact ih (i + 1) k (by omega) (by omega) (by omega)
    · exact fin i k (by omega) (by omega)
theorem so_of (s t : ByteArray) (hs : s.size ≤ 2900) (ht : t.data.toList = sg_of s.data.toList) (k : Nat) (hk : 60000 ≤ k) : spec_l3Of.f k t = some (s, true) := by
  have tl : t.size = 4 * ((s.size + 2) / 3) := by rw [← sg_dl, ht, sg_len _ _ (Nat.le_refl _), sg_dl]
  unfold spec_l3Of.f
  rw [if_pos (by omega)]
  exact so_back s t ht hs 967 0 k (by omega) (by omega) (by omega)

theorem sp_seg (x : ByteArray) (hx : x.size ≤ 1000000) (a : Nat) (c rest : List UInt8) (h10 : (10 : UInt8) ∉ c) (hd : x.data.toList.drop a = c ++ 10 :: rest) : ∀ (d i : Nat), i + d = c.length → ∀ (acc : List ByteArray) (k : Nat), acc.length < 1000000 →
    spec_l3Split.l0 (k + d + 1) x 10 acc (a : Int) ((a + i : Nat) : Int) = spec_l3Split.l0 k x 10 (acc ++ [⟨c.toArray⟩]) ((a + c.length + 1 : Nat) : Int) ((a + c.length + 1 : Nat) : Int) := by
  have hl : x.size = a + c.length + 1 + rest.length := by
    have := congrArg List.length hd
    rw [List.length_drop, sg_dl, List.length_append, List.length_cons] at this
    omega
  have get : ∀ i, x.data.toList.getD (a + i) 0 = (c ++ 10 :: rest).getD i 0 := fun i => by
    rw [← hd, List.getD_eq_getElem?_getD, List.getD_eq_getElem?_getD, List.getElem?_drop]
  intro d
  induction d with
  | zero =>
    intro i hi acc k ha
    obtain rfl : i = c.length := by omega
    have hw : wrap64 (((a + c.length : Nat) : Int) + 1) = ((a + c.length + 1 : Nat) : Int) := by rw [w64 (by omega) (by omega)]; omega
    have hb : bt x ((a + c.length : Nat) : Int) = 10 := by
      rw [sg_bt' x _ (by omega), get, List.getD_eq_getElem?_getD, List.getElem?_append_right (Nat.le_refl _), Nat.sub_self]
      rfl
    have he : x.extract a (a + c.length) = ⟨c.toArray⟩ := ba_ext _ _ (by
      rw [ex_list, hd, show a + c.length - a = c.length by omega, List.take_left']; rfl)
    rw [spec_l3Split.l0, if_pos (by omega), if_pos (by omega), if_pos hb, if_pos (by omega), if_pos (by omega), if_pos (by omega), if_pos (by omega), hw, Int.toNat_natCast, Int.toNat_natCast, he]
  | succ d ih =>
    intro i hi acc k ha
    have hw : wrap64 (((a + i : Nat) : Int) + 1) = ((a + (i + 1) : Nat) : Int) := by rw [w64 (by omega) (by omega)]; omega
    have hb : ¬ bt x ((a + i : Nat) : Int) = 10 := by
      rw [sg_bt' x _ (by omega), get, List.getD_eq_getElem?_getD, List.getElem?_append_left (by omega), List.getElem?_eq_getElem (by omega)]
      intro e
      have e' : ((c[i].toNat : Nat) : Int) = 10 := e
      have : c[i].toNat = 10 := by omega
      have h2 : c[i] = 10 := UInt8.toNat_inj.1 this
      exact h10 (h2 ▸ List.getElem_mem _)
    rw [show k + (d + 1) + 1 = (k + d + 1) + 1 from rfl, spec_l3Split.l0, if_pos (by omega), if_pos (by omega), if_neg hb, hw]
    exact ih (i + 1) (by omega) acc k ha
theorem sp_last (x : ByteArray) (hx : x.size ≤ 1000000) (acc : List ByteArray) (ha : acc.length < 1000000) (k : Nat) (hk : 1 ≤ k) :
    spec_l3Split.l0 k x 10 acc (x.size : Int) (x.size : Int) = some (acc ++ [⟨#[]⟩]) := by
  obtain ⟨k, rfl⟩ : ∃ m, k = m + 1 := ⟨k - 1, by omega⟩
  have he : x.extract x.size x.size = ⟨#[]⟩ := ba_ext _ _ (by rw [ex_list, Nat.sub_self]; rfl)
  rw [spec_l3Split.l0, if_neg (by omega), if_pos (by omega), if_pos (by omega), if_pos (by omega), Int.toNat_natCast, he]
theorem sp_all (x : ByteArray) (hx : x.size ≤ 1000000) : ∀ (cs : List ByteArray) (a : Nat) (acc : List ByteArray) (k : Nat), (∀ c ∈ cs, (10 : UInt8) ∉ c.data.toList) → x.data.toList.drop a = bodyL cs → a ≤ x.size → x.size - a + 1 ≤ k → acc.length + cs.length < 1000000 →
    spec_l3Split.l0 k x 10 acc (a : Int) (a : Int) = some (acc ++ cs ++ [⟨#[]⟩])
  | [], a, acc, k, hc, hd, ha, hk, hl => by
    have : a = x.size := by
      have := congrArg List.length hd
      rw [List.length_drop, sg_dl] at this
      simp only [bodyL, List.flatMap_nil, List.length_nil] at this
      omega
    subst this
    rw [sp_last x hx acc (by simpa using hl) k (by omega), List.append_nil]
  | c :: cs, a, acc, k, hc, hd, ha, hk, hl => by
    have e : bodyL (c :: cs) = c.data.toList ++ 10 :: bodyL cs := by rw [bodyL, List.flatMap_cons]; simp [bodyL]
    rw [e] at hd
    have hlen : x.size = a + c.data.toList.length + 1 + (bodyL cs).length := by
      have := congrArg List.length hd
      rw [List.length_drop, sg_dl, List.length_append, List.length_cons] at this
      omega
    rw [List.length_cons] at hl
    obtain ⟨j, hj⟩ : ∃ j, k = j + c.data.toList.length + 1 := ⟨k - 1 - c.data.toList.length, by omega⟩
    have s1 := sp_seg x hx a c.data.toList (bodyL cs) (hc c (List.mem_cons_self ..)) hd c.data.toList.length 0 (by omega) acc j (by omega)
    have s2 : spec_l3Split.l0 (j + c.data.toList.length + 1) x 10 acc (a : Int) (a : Int) = spec_l3Split.l0 j x 10 (acc ++ [⟨c.data.toList.toArray⟩]) ((a + c.data.toList.length + 1 : Nat) : Int) ((a + c.data.toList.length + 1 : Nat) : Int) := s1
    have hd2 : x.data.toList.drop (a + c.data.toList.length + 1) = bodyL cs := by
      rw [Nat.add_assoc, ← List.drop_drop, hd, show c.data.toList ++ 10 :: bodyL cs = (c.data.toList ++ [10]) ++ bodyL cs by simp, show c.data.toList.length + 1 = (c.data.toList ++ [10]).length by simp, List.drop_left]
    rw [hj, s2, ba_eta, sp_all x hx cs _ _ j (fun d hd => hc d (List.mem_cons_of_mem _ hd)) hd2 (by omega) (by omega) (by rw [List.length_append]; simp only [List.length_cons, List.length_nil]; omega)]
    simp
theorem sp_split (x : ByteArray) (hx : x.size ≤ 1000000) (cs : List ByteArray) (hc : ∀ c ∈ cs, (10 : UInt8) ∉ c.data.toList) (hd : x.data.toList = bodyL cs) (k : Nat) (hk : x.size + 1 ≤ k) (hl : cs.length < 1000000) :
    spec_l3Split.f k x 10 = some (cs ++ [⟨#[]⟩]) := by
  have := sp_all x hx cs 0 [] k hc hd (by omega) (by omega) (by simpa using hl)
  simpa [spec_l3Split.f] using this
/-- The pieces of a list, one behind the other. -/
theorem oa_l0 (x0 x6 : ByteArray) (cs : List ByteArray) (hc : cs.length ≤ 1000000) : ∀ (d i : Nat) (acc : ByteArray) (k : Nat), i + d = cs.length → acc.size + ((cs.drop i).flatMap fun c => c.data.toList).length ≤ 1000000 →
    spec_OfArmor.l0 (k + d + 1) x0 x6 acc cs (cs.length : Int) (i : Int) = spec_OfArmor.l0 (k + 1) x0 x6 ⟨(acc.data.toList ++ (cs.drop i).flatMap fun c => c.data.toList).toArray⟩ cs (cs.length : Int) (cs.length : Int)
  | 0, i, acc, k, hd, ha => by
    obtain rfl : i = cs.length := by omega
    rw [List.drop_length, List.flatMap_nil, List.append_nil, ba_eta]
  | d + 1, i, acc, k, hd, ha => by
    have hi : i < cs.length := by omega
    have hr : rdOf ByteArray.empty cs (i : Int) = cs[i] := by
      unfold rdOf
      rw [Int.toNat_natCast, List.getD_eq_getElem?_getD, List.getElem?_eq_getElem hi]; rfl
    have hw : wrap64 ((i : Int) + 1) = ((i + 1 : Nat) : Int) := by rw [w64 (by omega) (by omega)]; omega
    have hb : ((cs.drop i).flatMap fun c => c.data.toList) = cs[i].data.toList ++ ((cs.drop (i + 1)).flatMap fun c => c.data.toList) := by
      rw [List.drop_eq_getElem_cons hi, List.flatMap_cons]
    rw [hb, List.length_append, sg_dl] at ha
    rw [show k + (d + 1) + 1 = (k + d + 1) + 1 from rfl, spec_OfArmor.l0, if_pos (by omega), if_pos (by omega), if_pos (by omega), hr, if_pos (by omega), hw, oa_l0 x0 x6 cs hc d (i + 1) _ k (by omega) (by rw [ByteArray.size_append]; omega), hb]
    congr 2
    simp

theorem spec_back (name s t : ByteArray) (hn : NameOk name) (hs : s.size ≤ 600) (ht : t.data.toList = armorL name s) (htl : t.size ≤ 1000) (k : Nat) (hk : 70000 ≤ k) (hv : spec_l3Name.f k name = some true) (hv' : ∀ j, 10000 ≤ j → spec_l3Name.f j name = some true) :
    spec_OfArmor.f k t = some (name, s, true) := by
  obtain ⟨n1, n2, n3⟩ := hn
  have hnm : ∀ b ∈ name.data.toList, b ≠ 10 := fun b hb e => by have := (n1 b hb).1; rw [e] at this; exact absurd this (by decide)
  obtain ⟨cs, hcs⟩ : ∃ cs, cs = chunksF 64 (sg_of s.data.toList).length (sg_of s.data.toList) := ⟨_, rfl⟩
  have hc10 : ∀ c ∈ cs, (10 : UInt8) ∉ c.data.toList := fun c hc hb => (of_not _ _ (chunk_mem 64 _ _ c (hcs ▸ hc) 10 hb)).2 rfl
  have cj : (cs.flatMap fun c => c.data.toList) = sg_of s.data.toList := by rw [hcs]; exact chunk_join 64 (by omega) _ _ (Nat.le_refl _)
  have cl := chunk_len 64 (by omega) (sg_of s.data.toList).length (sg_of s.data.toList)
  have sl := sg_len _ s.data.toList (Nat.le_refl _)
  rw [sg_dl] at sl
  rw [← hcs, sl] at cl
  obtain ⟨H, hH⟩ : ∃ H : ByteArray, H = ⟨([45, 45, 45, 45, 45, 66, 69, 71, 73, 78, 32] ++ name.data.toList ++ [45, 45, 45, 45, 45]).toArray⟩ := ⟨_, rfl⟩
  obtain ⟨E, hE⟩ : ∃ E : ByteArray, E = ⟨([45, 45, 45, 45, 45, 69, 78, 68, 32] ++ name.data.toList ++ [45, 45, 45, 45, 45]).toArray⟩ := ⟨_, rfl⟩
  have Hd : H.data.toList = [45, 45, 45, 45, 45, 66, 69, 71, 73, 78, 32] ++ name.data.toList ++ [45, 45, 45, 45, 45] := by rw [hH]
  have Ed : E.data.toList = [45, 45, 45, 45, 45, 69, 78, 68, 32] ++ name.data.toList ++ [45, 45, 45, 45, 45] := by rw [hE]
  have Hs : H.size = 16 + name.size := by rw [← sg_dl, Hd]; simp only [List.length_append, List.length_cons, List.length_nil, sg_dl]; omega
  have hd : t.data.toList = bodyL ([H] ++ cs ++ [E]) := by
    rw [ht, armorL, ← hcs]
    simp only [bodyL, List.flatMap_append, List.flatMap_cons, List.flatMap_nil, Hd, Ed, List.append_assoc, List.append_nil, List.cons_append, List.nil_append]
  have hall : ∀ c ∈ [H] ++ cs ++ [E], (10 : UInt8) ∉ c.data.toList := fun c hc hb => by
    rcases List.mem_append.1 hc with q | q
    · rcases List.mem_append.1 q with q | q
      · rw [List.mem_singleton.1 q, Hd] at hb
        rcases List.mem_append.1 hb with r | r
        · rcases List.mem_append.1 r with r | r
          · exact absurd r (by decide)
          · exact hnm _ r rfl
        · exact absurd r (by decide)
      · exact hc10 c q hb
    · rw [List.mem_singleton.1 q, Ed] at hb
      rcases List.mem_append.1 hb with r | r
      · rcases List.mem_append.1 r with r | r
        · exact absurd r (by decide)
        · exact hnm _ r rfl
      · exact absurd r (by decide)
  have sp := sp_split t (by omega) ([H] ++ cs ++ [E]) hall hd k (by omega) (by simp only [List.length_append, List.length_cons, List.length_nil]; omega)
  obtain ⟨L, hL⟩ : ∃ L, L = [H] ++ cs ++ [E] ++ [(⟨#[]⟩ : ByteArray)] := ⟨_, rfl⟩
  rw [← hL] at sp
  have Ll : L.length = cs.length + 3 := by rw [hL]; simp only [List.length_append, List.length_cons, List.length_nil]; omega
  have L0 : rdOf ByteArray.empty L 0 = H := by rw [hL]; rfl
  have Lm : (L.take (cs.length + 1)).drop 1 = cs := by
    rw [hL, show [H] ++ cs ++ [E] ++ [(⟨#[]⟩ : ByteArray)] = (H :: cs) ++ [E, ⟨#[]⟩] by simp, show cs.length + 1 = (H :: cs).length by simp, List.take_left' rfl]
    rfl
  have Hx : H.extract 11 (16 + name.size - 5) = name := ba_ext _ _ (by
    rw [ex_list, Hd, List.append_assoc, show (11 : Nat) = ([45, 45, 45, 45, 45, 66, 69, 71, 73, 78, 32] : List UInt8).length from rfl, List.drop_left, show 16 + name.size - 5 - ([45, 45, 45, 45, 45, 66, 69, 71, 73, 78, 32] : List UInt8).length = name.data.toList.length by rw [sg_dl]; simp only [List.length_cons, List.length_nil]; omega, List.take_left' rfl])
  obtain ⟨j, hj⟩ : ∃ j, k = j + cs.length + 2 := ⟨k - cs.length - 2, by omega⟩
  have w1 : wrap64 ((L.length : Int) - 2) = ((cs.length + 1 : Nat) : Int) := by rw [w64 (by omega) (by omega)]; omega
  have w2 : wrap64 ((H.size : Int) - 5) = ((16 + name.size - 5 : Nat) : Int) := by rw [w64 (by omega) (by omega)]; omega
  unfold spec_OfArmor.f
  rw [if_neg (by omega), sp, Option.bind_some, if_neg (by omega), if_pos (by omega), L0, hj, show j + cs.length + 2 = (j + cs.length + 1) + 1 from rfl, spec_OfArmor.j0, if_neg (by rw [decide_eq_true_eq]; omega), if_pos (by omega), L0, w2, w1, if_pos (by omega), if_pos (by omega), if_pos (by omega), if_pos (by omega),
    Int.toNat_natCast, Int.toNat_natCast, Lm, Option.bind_some, Hx]
  have o := oa_l0 t name cs (by omega) cs.length 0 ⟨#[]⟩ j (by omega) (by rw [List.drop_zero, cj, sl]; show 0 + _ ≤ _; omega)
  have o' : spec_OfArmor.l0 (j + cs.length + 1) t name (⟨#[]⟩ : ByteArray) cs (cs.length : Int) 0 = spec_OfArmor.l0 (j + 1) t name ⟨(sg_of s.data.toList).toArray⟩ cs (cs.length : Int) (cs.length : Int) := by
    rw [List.drop_zero, cj] at o
    exact o
  obtain ⟨_, a2⟩ := armor_both name s (by omega) hs j (by omega)
  rw [o', spec_OfArmor.l0, if_neg (by omega), so_of s ⟨(sg_of s.data.toList).toArray⟩ (by omega) rfl j (by omega), Option.bind_some]
  simp only [if_true, hv' j (by omega), Option.bind_some]
  rw [if_neg (by omega), a2, Option.bind_some, if_pos (by rw [ByteArray.toList_eq, ByteArray.toList_eq, ht])]

theorem replaceK_len (old : List UInt8) : ∀ (n : Nat) (l : List UInt8), (Lib.replaceK old [] n l).length ≤ l.length
  | 0, l => Nat.le_refl _
  | n + 1, l => by
    rw [Lib.replaceK]
    split
    · exact Nat.le_refl _
    · have := replaceK_len old n (l.drop ((Lib.index l old).toNat + old.length))
      rw [List.length_drop] at this
      simp only [List.length_append, List.length_take, List.append_nil]
      omega
theorem replaceAll_len (l old : List UInt8) : (Lib.replaceAll l old []).length ≤ l.length := by
  unfold Lib.replaceAll Lib.replace
  split
  · exact Nat.le_refl _
  · exact replaceK_len _ _ _
theorem cut_len (s sub : List UInt8) : (Lib.cut s sub).1.length ≤ s.length ∧ (Lib.cut s sub).2.1.length ≤ s.length := by
  unfold Lib.cut
  split
  · simp only [List.length_take, List.length_drop]; omega
  · simp
theorem bs_len (l : List UInt8) : (⟨l.toArray⟩ : ByteArray).size = l.length := List.size_toArray
theorem impl_total (t : ByteArray) (ht : t.size ≤ 140737488355328) (k : Nat) (hk : 10000 ≤ k) :
    ∃ x : ByteArray × ByteArray × Bool, impl_OfArmor.f k t = some x ∧ (x.2.2 = false → x = (⟨#[]⟩, ⟨#[]⟩, false)) ∧ (x.2.2 = true → t.data.toList = armorL x.1 x.2.1 ∧ NameOk x.1 ∧ x.2.1.size ≤ 600 ∧ t.size ≤ 1000) := by
  unfold impl_OfArmor.f
  by_cases c : (t.size : Int) > 1000
  · rw [if_pos c]; exact ⟨_, rfl, fun _ => rfl, fun e => by cases e⟩
  rw [if_neg c]
  have k1 := cut_len t.data.toList [45, 45, 45, 45, 45, 10]
  rw [sg_dl] at k1
  obtain ⟨p, q, b1, e1⟩ : ∃ (p q : ByteArray) (b : Bool), strings_Cut.f t (⟨#[45, 45, 45, 45, 45, 10]⟩ : ByteArray) = some (p, q, b) ∧ p.size ≤ 1000 ∧ q.size ≤ 1000 := by
    unfold strings_Cut.f
    rw [if_pos (by omega)]
    exact ⟨_, _, _, rfl, by rw [bs_len]; exact Nat.le_trans k1.1 (by omega), by rw [bs_len]; exact Nat.le_trans k1.2 (by omega)⟩
  obtain ⟨e1, ps, qs⟩ := e1
  have k2 := cut_len q.data.toList [45, 45, 45, 45, 45, 69, 78, 68, 32]
  rw [sg_dl] at k2
  obtain ⟨u, v, b2, e2, us⟩ : ∃ (p' q' : ByteArray) (b : Bool), strings_Cut.f q (⟨#[45, 45, 45, 45, 45, 69, 78, 68, 32]⟩ : ByteArray) = some (p', q', b) ∧ p'.size ≤ 1000 := by
    unfold strings_Cut.f
    rw [if_pos (by omega)]
    exact ⟨_, _, _, rfl, by rw [bs_len]; exact Nat.le_trans k2.1 (by omega)⟩
  obtain ⟨n, e3, ns⟩ : ∃ n : ByteArray, strings_TrimPrefix.f p (⟨#[45, 45, 45, 45, 45, 66, 69, 71, 73, 78, 32]⟩ : ByteArray) = some n ∧ n.size ≤ 1000 := by
    unfold strings_TrimPrefix.f
    refine ⟨_, rfl, ?_⟩
    rw [bs_len]
    unfold Lib.trimPrefix
    split
    · rw [List.length_drop, sg_dl]; omega
    · rw [sg_dl]; omega
  obtain ⟨y, e4, ys⟩ : ∃ y : ByteArray, strings_ReplaceAll.f u (⟨#[10]⟩ : ByteArray) (⟨#[]⟩ : ByteArray) = some y ∧ y.size ≤ 1000 := by
    unfold strings_ReplaceAll.f
    rw [if_pos ⟨by omega, by decide, by rw [show (⟨#[]⟩ : ByteArray).size = 0 from rfl, Nat.mul_zero]; omega⟩]
    refine ⟨_, rfl, ?_⟩
    rw [bs_len]
    exact Nat.le_trans (replaceAll_len _ _) (by rw [sg_dl]; omega)
  obtain ⟨r, e5, r2⟩ := os_total y (by omega) k (by omega)
  obtain ⟨b, _, e6, b3⟩ := name_both n (by omega) k (by omega)
  rw [e1, Option.bind_some, e2, Option.bind_some, e3, Option.bind_some, e4, Option.bind_some, e5, Option.bind_some, e6]
  have no : ∃ x : ByteArray × ByteArray × Bool, some ((⟨#[]⟩ : ByteArray), (⟨#[]⟩ : ByteArray), false) = some x ∧ (x.2.2 = false → x = (⟨#[]⟩, ⟨#[]⟩, false)) ∧ (x.2.2 = true → t.data.toList = armorL x.1 x.2.1 ∧ NameOk x.1 ∧ x.2.1.size ≤ 600 ∧ t.size ≤ 1000) :=
    ⟨_, rfl, fun _ => rfl, fun e => by cases e⟩
  by_cases h1 : b2 = true
  · rw [if_pos h1]
    by_cases h2 : r.2 = true
    · rw [if_pos h2, Option.bind_some]
      by_cases h3 : b = true
      · rw [if_pos h3]
        by_cases h4 : (r.1.size : Int) > 600
        · rw [if_pos h4]; exact no
        · obtain ⟨a1, _⟩ := armor_both n r.1 ns (by omega) k hk
          rw [if_neg h4, a1, Option.bind_some]
          by_cases h5 : (⟨(armorL n r.1).toArray⟩ : ByteArray).toList = t.toList
          · rw [if_pos h5]
            refine ⟨_, rfl, (fun e => by cases e), fun _ => ⟨?_, b3 h3, by show r.1.size ≤ 600; omega, by omega⟩⟩
            rw [ByteArray.toList_eq, ByteArray.toList_eq] at h5
            exact h5.symm
          · rw [if_neg h5]; exact no
      · rw [if_neg h3]; exact no
    · rw [if_neg h2]; exact no
  · rw [if_neg h1]; exact no
theorem sp_total (x : ByteArray) (hx : x.size ≤ 1000000) : ∀ (d i a : Nat) (acc : List ByteArray) (k : Nat), i + d = x.size → a ≤ i → d + 1 ≤ k → acc.length ≤ i →
    ∃ r : List ByteArray, spec_l3Split.l0 k x 10 acc (a : Int) (i : Int) = some r ∧ r.length ≤ x.size + 1 ∧ (r.flatMap fun c => c.data.toList).length ≤ (acc.flatMap fun c => c.data.toList).length + (x.size - a)
  | 0, i, a, acc, k, hd, ha, hk, hl => by
    obtain ⟨k, rfl⟩ : ∃ m, k = m + 1 := ⟨k - 1, by omega⟩
    rw [spec_l3Split.l0, if_neg (by omega), if_pos (by omega), if_pos (by omega), if_pos (by omega), Int.toNat_natCast]
    refine ⟨_, rfl, by rw [List.length_append]; simp only [List.length_cons, List.length_nil]; omega, ?_⟩
    rw [List.flatMap_append, List.length_append, List.flatMap_cons, List.flatMap_nil, List.append_nil, sg_dl, ByteArray.size_extract]
    omega
  | d + 1, i, a, acc, k, hd, ha, hk, hl => by
    obtain ⟨k, rfl⟩ : ∃ m, k = m + 1 := ⟨k - 1, by omega⟩
    have hw : wrap64 ((i : Int) + 1) = ((i + 1 : Nat) : Int) := by rw [w64 (by omega) (by omega)]; omega
    rw [spec_l3Split.l0, if_pos (by omega), if_pos (by omega)]
    by_cases c : bt x (i : Int) = 10
    · rw [if_pos c, if_pos (by omega), if_pos (by omega), if_pos (by omega), if_pos (by omega), hw, Int.toNat_natCast, Int.toNat_natCast]
      obtain ⟨r, r1, r2, r3⟩ := sp_total x hx d (i + 1) (i + 1) (acc ++ [x.extract a i]) k (by omega) (by omega) (by omega) (by rw [List.length_append]; simp only [List.length_cons, List.length_nil]; omega)
      refine ⟨r, r1, r2, Nat.le_trans r3 ?_⟩
      rw [List.flatMap_append, List.length_append, List.flatMap_cons, List.flatMap_nil, List.append_nil, sg_dl, ByteArray.size_extract]
      omega
    · rw [if_neg c, hw]
      exact sp_total x hx d (i + 1) a acc k (by omega) (by omega) (by omega) (by omega)
theorem drop_mono (cs : List ByteArray) : ((cs.drop 1).flatMap fun c => c.data.toList).length ≤ (cs.flatMap fun c => c.data.toList).length := by
  cases cs with
  | nil => exact Nat.le_refl _
  | cons c cs => rw [List.drop_one, List.tail_cons, List.flatMap_cons, List.length_append]; omega
theorem take_mono (n : Nat) : ∀ cs : List ByteArray, ((cs.take n).flatMap fun c => c.data.toList).length ≤ (cs.flatMap fun c => c.data.toList).length := by
  intro cs
  have e := congrArg (fun z => (z.flatMap fun (c : ByteArray) => c.data.toList).length) (List.take_append_drop n cs)
  simp only [List.flatMap_append, List.length_append] at e
  omega
theorem spec_total (t : ByteArray) (k : Nat) (hk : 80000 ≤ k) :
    ∃ x : ByteArray × ByteArray × Bool, spec_OfArmor.f k t = some x ∧ (x.2.2 = false → x = (⟨#[]⟩, ⟨#[]⟩, false)) ∧ (x.2.2 = true → t.data.toList = armorL x.1 x.2.1 ∧ NameOk x.1 ∧ x.2.1.size ≤ 600 ∧ t.size ≤ 1000) := by
  unfold spec_OfArmor.f
  have no : ∃ x : ByteArray × ByteArray × Bool, some ((⟨#[]⟩ : ByteArray), (⟨#[]⟩ : ByteArray), false) = some x ∧ (x.2.2 = false → x = (⟨#[]⟩, ⟨#[]⟩, false)) ∧ (x.2.2 = true → t.data.toList = armorL x.1 x.2.1 ∧ NameOk x.1 ∧ x.2.1.size ≤ 600 ∧ t.size ≤ 1000) :=
    ⟨_, rfl, fun _ => rfl, fun e => by cases e⟩
  by_cases c : (t.size : Int) > 1000
  · rw [if_pos c]; exact no
  rw [if_neg c]
  obtain ⟨L, l1, l2, l3⟩ := sp_total t (by omega) t.size 0 0 [] k (by omega) (by omega) (by omega) (by simp)
  have l1' : spec_l3Split.f k t 10 = some L := l1
  rw [List.flatMap_nil, List.length_nil] at l3
  obtain ⟨k, rfl⟩ : ∃ m, k = m + 1 := ⟨k - 1, by omega⟩
  rw [l1', Option.bind_some]
  by_cases c2 : (L.length : Int) < 3
  · rw [if_pos c2, spec_OfArmor.j0, if_pos rfl]; exact no
  rw [if_neg c2, if_pos (by omega), spec_OfArmor.j0]
  obtain ⟨H, hH⟩ : ∃ H, H = rdOf ByteArray.empty L 0 := ⟨_, rfl⟩
  rw [← hH]
  by_cases c3 : (H.size : Int) < 17
  · rw [if_pos (decide_eq_true c3)]; exact no
  have Hs : H.size ≤ 1000 := by
    obtain ⟨h, tl, e⟩ : ∃ h tl, L = h :: tl := by
      cases L with
      | nil => simp at c2
      | cons h tl => exact ⟨h, tl, rfl⟩
    rw [e, List.flatMap_cons, List.length_append, sg_dl] at l3
    have : H = h := by rw [hH, e]; rfl
    rw [this]; omega
  have w1 : wrap64 ((L.length : Int) - 2) = ((L.length - 2 : Nat) : Int) := by rw [w64 (by omega) (by omega)]; omega
  have w2 : wrap64 ((H.size : Int) - 5) = ((H.size - 5 : Nat) : Int) := by rw [w64 (by omega) (by omega)]; omega
  rw [if_neg (by rw [decide_eq_true_eq]; exact c3), if_pos (by omega), w2, w1, if_pos (by omega), if_pos (by omega), if_pos (by omega), if_pos (by omega), Int.toNat_natCast, Int.toNat_natCast, Option.bind_some]
  obtain ⟨cs, hcs⟩ : ∃ cs, cs = (L.take (L.length - 2)).drop 1 := ⟨_, rfl⟩
  obtain ⟨n, hn⟩ : ∃ n, n = H.extract 11 (H.size - 5) := ⟨_, rfl⟩
  have ns : n.size ≤ 1000 := by rw [hn, ByteArray.size_extract]; omega
  have cl : cs.length ≤ 1001 := by rw [hcs, List.length_drop, List.length_take]; omega
  have cb : (cs.flatMap fun c => c.data.toList).length ≤ 1000 := by rw [hcs]; exact Nat.le_trans (drop_mono _) (Nat.le_trans (take_mono _ _) (by omega))
  rw [← hcs, ← hn]
  obtain ⟨j, hj⟩ : ∃ j, k = j + cs.length + 1 := ⟨k - cs.length - 1, by omega⟩
  have o := oa_l0 t n cs (by omega) cs.length 0 ⟨#[]⟩ j (by omega) (by rw [List.drop_zero]; show 0 + _ ≤ _; omega)
  obtain ⟨y, hy⟩ : ∃ y : ByteArray, y = ⟨(cs.flatMap fun c => c.data.toList).toArray⟩ := ⟨_, rfl⟩
  have ys : y.size ≤ 1000 := by rw [hy, bs_len]; exact cb
  have o' : spec_OfArmor.l0 (j + cs.length + 1) t n (⟨#[]⟩ : ByteArray) cs (cs.length : Int) 0 = spec_OfArmor.l0 (j + 1) t n y cs (cs.length : Int) (cs.length : Int) := by
    rw [List.drop_zero] at o
    rw [hy]
    exact o
  obtain ⟨r, e5, r2⟩ := so_total y (by omega) j (by omega)
  obtain ⟨b, e6, _, b3⟩ := name_both n (by omega) j (by omega)
  rw [hj, o', spec_OfArmor.l0, if_neg (by omega), e5, Option.bind_some]
  by_cases h2 : r.2 = true
  · rw [if_pos h2, e6, Option.bind_some]
    by_cases h3 : b = true
    · rw [if_pos h3]
      by_cases h4 : (r.1.size : Int) > 600
      · rw [if_pos h4]; exact no
      · obtain ⟨_, a1⟩ := armor_both n r.1 ns (by omega) j (by omega)
        rw [if_neg h4, a1, Option.bind_some]
        by_cases h5 : (⟨(armorL n r.1).toArray⟩ : ByteArray).toList = t.toList
        · rw [if_pos h5]
          refine ⟨_, rfl, (fun e => by cases e), fun _ => ⟨?_, b3 h3, by show r.1.size ≤ 600; omega, by omega⟩⟩
          rw [ByteArray.toList_eq, ByteArray.toList_eq] at h5
          exact h5.symm
        · rw [if_neg h5]; exact no
    · rw [if_neg h3]; exact no
  · rw [if_neg h2]; exact no

/-! The reader of choices: it never fails, and tells numbers in their ranges. -/
def Bytes8 (l : List Int) : Prop := ∀ x ∈ l, 0 ≤ x ∧ x ≤ 255
theorem bytes_of_wf {l : List Int} (h : ∀ x ∈ l, (Lit.int .u8 x).wf = true) : Bytes8 l := fun x hx => by
  have := h x hx
  simpa [Lit.wf, IntKind.min, IntKind.max, IntKind.signed, IntKind.bits] using this
theorem bytes_rd {l : List Int} (h : Bytes8 l) (i : Int) (h0 : 0 ≤ i) (h1 : i < l.length) : 0 ≤ rd l i ∧ rd l i ≤ 255 := by
  have hi : i.toNat < l.length := by omega
  have : rd l i = l[i.toNat] := by simp [rd, List.getD_eq_getElem?_getD, hi]
  rw [this]; exact h _ (List.getElem_mem hi)
theorem and255 (x : Int) (h0 : 0 ≤ x) (h1 : x < 18446744073709551616) : Go.bits .and .u64 x 255 = x % 256 := by
  have h := bits_mask .u64 64 (by decide) (fun n h₀ h₁ => by simp [IntKind.wrap, IntKind.bits, IntKind.signed]; omega) 8 (by decide) x h0 (by omega)
  simpa using h
theorem u64_range (x : Int) : 0 ≤ IntKind.u64.wrap x ∧ IntKind.u64.wrap x < 18446744073709551616 := by simp [IntKind.wrap, IntKind.bits, IntKind.signed]; omega
theorem cur_next (l : List Int) (hl : Bytes8 l) (at_ s : Int) (h0 : 0 ≤ at_) (h1 : at_ < 4611686018427387904) : ∃ r s', spec_l1Cur_next.f l at_ s = some (r, at_ + 1, s') ∧ 0 ≤ r ∧ r ≤ 255 := by
  have hw : wrap64 (at_ + 1) = at_ + 1 := w64 (by omega) (by omega)
  have hseed : ∀ x : Int, 0 ≤ wrap64 (Go.bits .and .u64 (IntKind.u64.wrap x / 1099511627776) 255) ∧ wrap64 (Go.bits .and .u64 (IntKind.u64.wrap x / 1099511627776) 255) ≤ 255 := fun x => by
    have hx := u64_range x
    rw [and255 _ (by omega) (by omega), w64 (by omega) (by omega)]; omega
  unfold spec_l1Cur_next.f
  rw [hw]
  by_cases hlt : at_ < (l.length : Int)
  · have hb := bytes_rd hl at_ h0 hlt
    rw [if_pos hlt, if_pos h0]
    split
    · exact ⟨_, _, rfl, by rw [w64 (by omega) (by omega)]; exact hb.1, by rw [w64 (by omega) (by omega)]; exact hb.2⟩
    · exact ⟨_, _, rfl, (hseed _).1, (hseed _).2⟩
  · rw [if_neg hlt]
    split
    · exact ⟨_, _, rfl, by omega, by omega⟩
    · exact ⟨_, _, rfl, (hseed _).1, (hseed _).2⟩
theorem cur_pick (l : List Int) (hl : Bytes8 l) (at_ s n : Int) (h0 : 0 ≤ at_) (h1 : at_ < 2305843009213693952) (hn : n < 4611686018427387904) : ∃ r a' s', spec_l1Cur_pick.f l at_ s n = some (r, a', s') ∧ at_ ≤ a' ∧ a' ≤ at_ + 2 ∧ 0 ≤ r ∧ (1 ≤ n → r < n) := by
  unfold spec_l1Cur_pick.f
  by_cases hs : n ≤ 1
  · rw [if_pos hs]; exact ⟨0, at_, s, rfl, by omega, by omega, by omega, by omega⟩
  rw [if_neg hs]
  obtain ⟨r, s', h, hr0, hr1⟩ := cur_next l hl at_ s h0 (by omega)
  rw [h]
  simp only [Option.bind_some]
  by_cases hb : n > 200
  · obtain ⟨r2, s2, h2, h3, h4⟩ := cur_next l hl (at_ + 1) s' (by omega) (by omega)
    rw [if_pos hb, h2]
    simp only [Option.bind_some]
    rw [if_neg (by omega), w64 (n := r * 256) (by omega) (by omega), w64 (by omega) (by omega), Int.tmod_eq_emod_of_nonneg (by omega)]
    exact ⟨_, _, _, rfl, by omega, by omega, Int.emod_nonneg _ (by omega), fun _ => Int.emod_lt_of_pos _ (by omega)⟩
  · rw [if_neg hb, if_neg (by omega), Int.tmod_eq_emod_of_nonneg (by omega)]
    exact ⟨_, _, _, rfl, by omega, by omega, Int.emod_nonneg _ (by omega), fun _ => Int.emod_lt_of_pos _ (by omega)⟩
theorem cur_one (l : List Int) (hl : Bytes8 l) (at_ s n : Int) (h0 : 0 ≤ at_) (h1 : at_ < 2305843009213693952) (hn : n < 4611686018427387904) : ∃ b a' s', spec_l1Cur_one.f l at_ s n = some (b, a', s') ∧ at_ ≤ a' ∧ a' ≤ at_ + 2 := by
  obtain ⟨r, a', s', h, h2, h3, _⟩ := cur_pick l hl at_ s n h0 h1 hn
  unfold spec_l1Cur_one.f
  rw [h]
  exact ⟨_, _, _, rfl, h2, h3⟩

theorem cur_among (l : List Int) (hl : Bytes8 l) (at_ s : Int) (m : List Int) (hm : 1 ≤ m.length) (hm2 : m.length < 4000000000) (h0 : 0 ≤ at_) (h1 : at_ < 2305843009213693952) : ∃ r a' s', spec_l1Cur_among.f l at_ s m = some (r, a', s') ∧ at_ ≤ a' ∧ a' ≤ at_ + 2 ∧ r ∈ m := by
  obtain ⟨r, a', s', h, h2, h3, h4, h5⟩ := cur_pick l hl at_ s m.length h0 h1 (by omega)
  have h5 := h5 (by omega)
  unfold spec_l1Cur_among.f
  rw [h]
  simp only [Option.bind_some]
  rw [if_pos h4, if_pos h5]
  refine ⟨_, _, _, rfl, h2, h3, ?_⟩
  have hi : r.toNat < m.length := by omega
  have : rd m r = m[r.toNat] := by simp [rd, List.getD_eq_getElem?_getD, hi]
  rw [this]; exact List.getElem_mem hi

theorem size_nums' (l : List Int) : (strOfNums l).size = l.length := by simp [strOfNums, ByteArray.size]
theorem cur_text_l0 (l : List Int) (hl : Bytes8 l) : ∀ (d i : Nat) (y : List Int) (at_ s : Int), i + d = y.length → y.length ≤ 1000 → 0 ≤ at_ → at_ + 2 * d < 1000000000000 →
    ∃ r a' s', (∀ k : Nat, spec_l1Cur_text.l0 (k + d + 1) y (y.length : Int) (i : Int) l at_ s = some (r, a', s')) ∧ at_ ≤ a' ∧ a' ≤ at_ + 2 * d ∧ r.size = y.length
  | 0, i, y, at_, s, hi, hy, h0, h1 => ⟨strOfNums y, at_, s, fun k => by rw [spec_l1Cur_text.l0, if_neg (by omega)], by omega, by omega, size_nums' y⟩
  | d + 1, i, y, at_, s, hi, hy, h0, h1 => by
    obtain ⟨r, a1, s1, p1, q1, q2, q3, q4⟩ := cur_pick l hl at_ s 256 h0 (by omega) (by omega)
    have hw : wrap64 ((i : Int) + 1) = ((i + 1 : Nat) : Int) := by rw [w64 (by omega) (by omega)]; omega
    have hl2 : (y.set ((i : Int)).toNat (r % 256)).length = y.length := List.length_set ..
    obtain ⟨r', a', s', e, e1, e2, e3⟩ := cur_text_l0 l hl d (i + 1) (y.set ((i : Int)).toNat (r % 256)) a1 s1 (by rw [hl2]; omega) (by rw [hl2]; omega) (by omega) (by omega)
    rw [hl2] at e e3
    refine ⟨r', a', s', fun k => ?_, by omega, by omega, e3⟩
    rw [show k + (d + 1) + 1 = (k + d + 1) + 1 from rfl, spec_l1Cur_text.l0, if_pos (by omega), p1, Option.bind_some]
    simp only
    rw [if_pos (by omega), if_pos (by omega), hw]
    exact e k
theorem cur_text (l : List Int) (hl : Bytes8 l) (at_ s : Int) (h0 : 0 ≤ at_) (h1 : at_ < 1000000000) (k : Nat) (hk : 100 ≤ k) :
    ∃ r a' s', spec_l1Cur_text.f k l at_ s = some (r, a', s') ∧ at_ ≤ a' ∧ a' ≤ at_ + 100 ∧ r.size ≤ 601 := by
  obtain ⟨b, a1, s1, p1, q1, q2⟩ := cur_one l hl at_ s 12 h0 (by omega) (by omega)
  unfold spec_l1Cur_text.f
  rw [p1, Option.bind_some]
  cases b with
  | true =>
    obtain ⟨r, a2, s2, p2, r1, r2, r3⟩ := cur_among l hl a1 s1 [55, 56, 63, 64, 65, 119, 600, 601] (by decide) (by decide) (by omega) (by omega)
    have hr : 0 ≤ r ∧ r ≤ 601 := by
      have : ∀ x ∈ ([55, 56, 63, 64, 65, 119, 600, 601] : List Int), 0 ≤ x ∧ x ≤ 601 := by decide
      exact this r r3
    simp only [if_true]
    rw [p2, Option.bind_some]
    simp only
    rw [if_pos hr.1, if_pos (by omega)]
    exact ⟨_, _, _, rfl, by omega, by omega, by rw [size_nums', List.length_replicate]; omega⟩
  | false =>
    obtain ⟨n, a2, s2, p2, r1, r2, r3, r4⟩ := cur_pick l hl a1 s1 20 (by omega) (by omega) (by omega)
    have r4 := r4 (by omega)
    simp only [Bool.false_eq_true, if_false]
    rw [p2, Option.bind_some]
    simp only
    rw [if_pos r3, if_pos (by omega), Option.bind_some]
    obtain ⟨r, a', s', e, e1, e2, e3⟩ := cur_text_l0 l hl n.toNat 0 (List.replicate n.toNat 0) a2 s2 (by rw [List.length_replicate]; omega) (by rw [List.length_replicate]; omega) (by omega) (by omega)
    have := e (k - n.toNat - 1)
    rw [show k - n.toNat - 1 + n.toNat + 1 = k by omega] at this
    exact ⟨r, a', s', this, by omega, by omega, by rw [e3, List.length_replicate]; omega⟩

theorem size_ext (s : ByteArray) (i j : Nat) (hi : i ≤ j) (hj : j ≤ s.size) : (s.extract i j).size = j - i := by simp [ByteArray.size_extract]; omega
theorem size_nums (xs : List Int) : (strOfNums xs).size = xs.length := by simp [strOfNums, ByteArray.size]

theorem cur_spoilt_l0 (l : List Int) (hl : Bytes8 l) (w : ByteArray) (hw : 1 ≤ w.size) (hw2 : w.size < 4000000000) (d : Nat) : ∀ (t : ByteArray) (n at_ s : Int), 0 ≤ at_ → at_ + 6 * d < 2305843009213693952 → t.size + d < 4000000000 → n = d →
    ∃ r a' s', Ev (fun k => spec_l1Cur_spoilt.l0 k t w n l at_ s) (r, a', s') ∧ at_ ≤ a' ∧ a' ≤ at_ + 6 * d ∧ r.size ≤ t.size + d := by
  induction d with
  | zero =>
    intro t n at_ s h0 h1 h2 hn
    refine ⟨t, at_, s, ?_, by omega, by omega, by omega⟩
    refine Ev.step (fun k => by rw [spec_l1Cur_spoilt.l0, if_neg (by omega)]) ?_
    exact Ev.step (fun k => by rw [spec_l1Cur_spoilt.j1, if_neg (by decide)]) (Ev.now _)
  | succ d ih =>
    intro t n at_ s h0 h1 h2 hn
    by_cases ht : (t.size : Int) > 0
    · obtain ⟨i, a1, s1, p1, q1, q2, q3, q4⟩ := cur_pick l hl at_ s t.size h0 (by omega) (by omega)
      have q4 := q4 (by omega)
      obtain ⟨j, a2, s2, p2, r1, r2, r3, r4⟩ := cur_pick l hl a1 s1 w.size (by omega) (by omega) (by omega)
      have r4 := r4 (by omega)
      obtain ⟨c, a3, s3, p3, u1, u2, u3, u4⟩ := cur_pick l hl a2 s2 3 (by omega) (by omega) (by omega)
      have u4 := u4 (by omega)
      have e1 := size_ext t 0 i.toNat (by omega) (by omega)
      have e2 := size_ext t i.toNat t.size (by omega) (by omega)
      have e3 := size_ext t (i + 1).toNat t.size (by omega) (by omega)
      have e4 := size_nums [bt w j]
      have wi : wrap64 (i + 1) = i + 1 := w64 (by omega) (by omega)
      have wn : wrap64 (n - 1) = n - 1 := w64 (by omega) (by omega)
      simp only [List.length_cons, List.length_nil] at e4
      have hstep : ∀ (t' : ByteArray), t'.size ≤ t.size + 1 → (∀ k, spec_l1Cur_spoilt.j1 (k + 1) t w n true l at_ s = spec_l1Cur_spoilt.l0 k t' w (n - 1) l a3 s3) →
          ∃ r a' s', Ev (fun k => spec_l1Cur_spoilt.l0 k t w n l at_ s) (r, a', s') ∧ at_ ≤ a' ∧ a' ≤ at_ + 6 * ((d + 1 : Nat) : Int) ∧ r.size ≤ t.size + (d + 1) := by
        intro t' hs hj
        obtain ⟨r, a', s', ev, v1, v2, v3⟩ := ih t' (n - 1) a3 s3 (by omega) (by omega) (by omega) (by omega)
        exact ⟨r, a', s', Ev.step (fun k => by rw [spec_l1Cur_spoilt.l0, if_pos (by omega), decide_eq_true ht]) (Ev.step hj ev), by omega, by omega, by omega⟩
      rcases (show c = 0 ∨ c = 1 ∨ c = 2 by omega) with rfl | rfl | rfl
      · refine hstep (t.extract 0 i.toNat ++ strOfNums [bt w j] ++ t.extract i.toNat t.size) (by simp only [ByteArray.size_append, e1, e2, e4]; omega) (fun k => ?_)
        rw [spec_l1Cur_spoilt.j1, if_pos rfl, p1]
        simp only [Option.bind_some]
        rw [p2]
        simp only [Option.bind_some]
        rw [if_pos r3, if_pos r4, p3]
        simp only [Option.bind_some]
        rw [if_pos trivial, if_pos q3, if_pos (by omega), if_pos (by omega), if_pos (by simp only [ByteArray.size_append, e1, e2, e4]; omega), wn]
      · refine hstep (t.extract 0 i.toNat ++ strOfNums [bt w j] ++ t.extract (i + 1).toNat t.size) (by simp only [ByteArray.size_append, e1, e3, e4]; omega) (fun k => ?_)
        rw [spec_l1Cur_spoilt.j1, if_pos rfl, p1]
        simp only [Option.bind_some]
        rw [p2]
        simp only [Option.bind_some]
        rw [if_pos r3, if_pos r4, p3]
        simp only [Option.bind_some]
        rw [if_neg (by decide), if_pos trivial, if_pos q3, if_pos (by omega), if_pos (by omega), wi, if_pos (by omega), if_pos (by omega), if_pos (by simp only [ByteArray.size_append, e1, e3, e4]; omega), wn]
      · refine hstep (t.extract 0 i.toNat ++ t.extract (i + 1).toNat t.size) (by simp only [ByteArray.size_append, e1, e3]; omega) (fun k => ?_)
        rw [spec_l1Cur_spoilt.j1, if_pos rfl, p1]
        simp only [Option.bind_some]
        rw [p2]
        simp only [Option.bind_some]
        rw [if_pos r3, if_pos r4, p3]
        simp only [Option.bind_some]
        rw [if_neg (by decide), if_neg (by decide), if_pos q3, if_pos (by omega), wi, if_pos (by omega), if_pos (by omega), if_pos (by omega), wn]
    · refine ⟨t, at_, s, ?_, by omega, by omega, by omega⟩
      refine Ev.step (fun k => by rw [spec_l1Cur_spoilt.l0, if_pos (by omega), decide_eq_false ht]) ?_
      exact Ev.step (fun k => by rw [spec_l1Cur_spoilt.j1, if_neg (by decide)]) (Ev.now _)
theorem cur_spoilt (l : List Int) (hl : Bytes8 l) (at_ s : Int) (t w : ByteArray) (hw : 1 ≤ w.size) (hw2 : w.size < 4000000000) (h0 : 0 ≤ at_) (h1 : at_ < 1000000000000000000) (ht : t.size < 1000000000) :
    ∃ r a' s', Ev (fun k => spec_l1Cur_spoilt.f k l at_ s t w) (r, a', s') ∧ at_ ≤ a' ∧ a' ≤ at_ + 14 ∧ r.size ≤ t.size + 2 := by
  obtain ⟨n, a1, s1, p1, q1, q2, q3, q4⟩ := cur_pick l hl at_ s 3 h0 (by omega) (by omega)
  have q4 := q4 (by omega)
  obtain ⟨r, a', s', ev, v1, v2, v3⟩ := cur_spoilt_l0 l hl w hw hw2 n.toNat t n a1 s1 (by omega) (by omega) (by omega) (by omega)
  refine ⟨r, a', s', ?_, by omega, by omega, by omega⟩
  unfold spec_l1Cur_spoilt.f
  rw [p1]
  simp only [Option.bind_some]
  exact ev

theorem cur_armorName (l : List Int) (hl : Bytes8 l) (at_ s : Int) (h0 : 0 ≤ at_) (h1 : at_ < 1000000000) :
    ∃ r a' s', spec_l1Cur_armorName.f l at_ s = some (r, a', s') ∧ at_ ≤ a' ∧ a' ≤ at_ + 2 ∧ r.size ≤ 18 := by
  obtain ⟨n, a1, s1, p1, q1, q2, q3, q4⟩ := cur_pick l hl at_ s 6 h0 (by omega) (by omega)
  have q4 := q4 (by omega)
  unfold spec_l1Cur_armorName.f spec_l1Cur_of.f
  erw [p1]
  rw [Option.bind_some]
  (try simp only)
  rw [if_pos q3]
  simp only [List.length_cons, List.length_nil]
  rw [if_pos (by omega), Option.bind_some]
  refine ⟨_, _, _, rfl, q1, q2, ?_⟩
  obtain ⟨m, rfl⟩ : ∃ m : Nat, n = m := ⟨n.toNat, by omega⟩
  rcases (by omega : m = 0 ∨ m = 1 ∨ m = 2 ∨ m = 3 ∨ m = 4 ∨ m = 5) with rfl | rfl | rfl | rfl | rfl | rfl <;> (dsimp only; decide +kernel)
theorem armorL_len (name s : ByteArray) (hn : name.size ≤ 1000) (hs : s.size ≤ 600) : (armorL name s).length ≤ 10000 := by
  have cl := chunk_len 64 (by omega) (sg_of s.data.toList).length (sg_of s.data.toList)
  have cj := chunk_join 64 (by omega) (sg_of s.data.toList).length (sg_of s.data.toList) (Nat.le_refl _)
  have bl := body_len (chunksF 64 (sg_of s.data.toList).length (sg_of s.data.toList))
  have sl := sg_len _ s.data.toList (Nat.le_refl _)
  rw [sg_dl] at sl
  rw [cj] at bl
  unfold armorL
  simp only [List.length_append, List.length_cons, List.length_nil, sg_dl]
  omega
theorem drawArmorOf (l : List Int) (hl : Bytes8 l) : ∃ name s : ByteArray, (∀ k, 100 ≤ k → spec_DrawArmorOf.f k l = some (name, s)) ∧ name.size ≤ 18 ∧ s.size ≤ 601 := by
  obtain ⟨n, a1, s1, p1, q1, q2, q3⟩ := cur_armorName l hl 0 0 (by omega) (by omega)
  obtain ⟨r, a2, s2, p2, r1, r2, r3⟩ := cur_text l hl a1 s1 (by omega) (by omega) 100 (by omega)
  refine ⟨n, r, fun k hk => ?_, q3, r3⟩
  have p3 := up_to (fun k => spec_l1Cur_text.f k l a1 s1) (fun k => spec_l1Cur_text.mono _ _ _ k) 100 k hk _ p2
  unfold spec_DrawArmorOf.f
  rw [p1, Option.bind_some]
  (try simp only)
  (try simp only at p3)
  rw [p3]
  rfl
theorem drawOfArmor (l : List Int) (hl : Bytes8 l) : ∃ t : ByteArray, Ev (fun k => spec_DrawOfArmor.f k l) t ∧ t.size ≤ 100000 := by
  obtain ⟨n, a1, s1, p1, q1, q2, q3⟩ := cur_armorName l hl 0 0 (by omega) (by omega)
  obtain ⟨r, a2, s2, p2, r1, r2, r3⟩ := cur_text l hl a1 s1 (by omega) (by omega) 10000 (by omega)
  obtain ⟨x, _, x2, x3⟩ := armorOf_both n r (by omega) 10000 (by omega)
  have xs : x.1.size ≤ 10000 := by
    rcases hb : x.2 with _ | _
    · unfold spec_ArmorOf.f at x2
      obtain ⟨b, b1, b2⟩ := Option.bind_eq_some_iff.1 x2
      by_cases c : b = true
      · rw [if_pos c] at b2
        by_cases q : (r.size : Int) > 600
        · rw [if_pos q] at b2; rw [← Option.some.inj b2]; exact Nat.zero_le _
        · rw [if_neg q] at b2
          obtain ⟨y, y1, y2⟩ := Option.bind_eq_some_iff.1 b2
          have := Option.some.inj y2
          rw [← this] at hb
          cases hb
      · rw [if_neg c] at b2; rw [← Option.some.inj b2]; exact Nat.zero_le _
    · obtain ⟨e, _, _, e4⟩ := x3 hb
      rw [e, bs_len]
      exact armorL_len n r (by omega) e4
  obtain ⟨b, a3, s3, p4, u1, u2⟩ := cur_one l hl a2 s2 3 (by omega) (by omega) (by omega)
  have up1 : ∀ k, 10000 ≤ k → spec_l1Cur_text.f k l a1 s1 = some (r, a2, s2) := fun k hk => up_to (fun k => spec_l1Cur_text.f k l a1 s1) (fun k => spec_l1Cur_text.mono _ _ _ k) 10000 k hk _ p2
  have up2 : ∀ k, 10000 ≤ k → spec_ArmorOf.f k n r = some x := fun k hk => up_to (fun k => spec_ArmorOf.f k n r) (fun k => spec_ArmorOf.mono _ _ k) 10000 k hk _ x2
  cases b with
  | false =>
    refine ⟨x.1, ⟨10000, fun k hk => ?_⟩, by omega⟩
    show spec_DrawOfArmor.f k l = _
    unfold spec_DrawOfArmor.f
    rw [p1, Option.bind_some]
    (try simp only)
    rw [up1 k hk, Option.bind_some]
    (try simp only)
    rw [up2 k hk, Option.bind_some, p4, Option.bind_some]
    rfl
  | true =>
    obtain ⟨t, a4, s4, ⟨K, ev⟩, v1, v2, v3⟩ := cur_spoilt l hl a3 s3 x.1 ⟨#[45, 65, 61, 10, 69]⟩ (by decide) (by decide) (by omega) (by omega) (by omega)
    refine ⟨t, ⟨K + 10000, fun k hk => ?_⟩, by omega⟩
    show spec_DrawOfArmor.f k l = _
    unfold spec_DrawOfArmor.f
    rw [p1, Option.bind_some]
    (try simp only)
    rw [up1 k (by omega), Option.bind_some]
    (try simp only)
    rw [up2 k (by omega), Option.bind_some, p4, Option.bind_some]
    simp only [if_true]
    have ev' : spec_l1Cur_spoilt.f k l a3 s3 x.1 ⟨#[45, 65, 61, 10, 69]⟩ = some (t, a4, s4) := ev k (by omega)
    rw [ev']
    rfl

theorem hx_and (x : Int) (h0 : 0 ≤ x) (h1 : x < 256) : Go.bits .and .u8 x 15 = x % 16 := by
  have h := bits_mask .u8 8 (by decide) (fun n h₀ h₁ => by rw [show IntKind.u8.wrap n = n % 256 from rfl]; omega) 4 (by decide) x h0 (by omega)
  simpa using h
theorem hexSize (xs : List Int) : (strOfNums xs).size = xs.length := by simp [strOfNums, ByteArray.size]
theorem l1Hex_l0 (x : ByteArray) (hx : x.size ≤ 1000000) : ∀ (d i : Nat) (out : List Int) (k : Nat), i + d = x.size → d + 1 ≤ k → out.length = 2 * i →
    ∃ r : ByteArray, spec_l1Hex.l0 k x out (i : Int) = some r ∧ r.size = 2 * x.size
  | 0, i, out, k, hd, hk, ho => by
    obtain ⟨k, rfl⟩ : ∃ m, k = m + 1 := ⟨k - 1, by omega⟩
    rw [spec_l1Hex.l0, if_neg (by omega)]
    exact ⟨_, rfl, by rw [hexSize]; omega⟩
  | d + 1, i, out, k, hd, hk, ho => by
    obtain ⟨k, rfl⟩ : ∃ m, k = m + 1 := ⟨k - 1, by omega⟩
    have b := bt_range x (i : Int)
    have hw : wrap64 ((i : Int) + 1) = ((i + 1 : Nat) : Int) := by rw [w64 (by omega) (by omega)]; omega
    rw [spec_l1Hex.l0, hx_and _ b.1 (by omega), if_pos (by omega), if_pos (by omega), if_pos (by omega), if_pos (by omega), if_pos (by omega), if_pos (by omega), Option.bind_some]
    rw [if_pos (by simp only [List.length_cons, List.length_nil]; omega), hw]
    exact l1Hex_l0 x hx d (i + 1) _ k (by omega) (by omega) (by rw [List.length_append]; simp only [List.length_cons, List.length_nil]; omega)

/-- Each piece has at least one byte and at most w; all but the last have w. -/
def Pieces (w : Nat) : List ByteArray → Prop
  | [] => True
  | [c] => 1 ≤ c.size ∧ c.size ≤ w
  | c :: d :: cs => c.size = w ∧ Pieces w (d :: cs)
theorem pieces_chunks (w : Nat) (hw : 1 ≤ w) : ∀ (f : Nat) (l : List UInt8), l.length ≤ f → Pieces w (chunksF w f l)
  | 0, l, h => trivial
  | f + 1, l, h => by
    rw [chunksF]
    by_cases e : l = []
    · rw [if_pos e]; trivial
    · have hl := List.length_pos_iff.2 e
      rw [if_neg e]
      have ih := pieces_chunks w hw f (l.drop w) (by rw [List.length_drop]; omega)
      have hs : (⟨(l.take w).toArray⟩ : ByteArray).size = min w l.length := by rw [bs_len, List.length_take]
      rcases hc : chunksF w f (l.drop w) with _ | ⟨d, cs⟩
      · exact ⟨by rw [hs]; omega, by rw [hs]; omega⟩
      · rw [hc] at ih
        refine ⟨?_, ih⟩
        rw [hs]
        have : l.drop w ≠ [] := fun e2 => by rw [e2, chunksF_nil] at hc; cases hc
        have h2 := List.length_pos_iff.2 this
        rw [List.length_drop] at h2
        omega
theorem pieces_at (w : Nat) (hw : 1 ≤ w) : ∀ (cs : List ByteArray), Pieces w cs → ∀ (i : Nat) (h : i < cs.length), 1 ≤ (cs[i]).size ∧ (cs[i]).size ≤ w ∧ (i + 1 < cs.length → (cs[i]).size = w)
  | [], _, i, h => by simp at h
  | [c], hp, i, h => by
    obtain rfl : i = 0 := by simp at h; exact h
    exact ⟨hp.1, hp.2, fun e => by simp at e⟩
  | c :: d :: cs, hp, i, h => by
    cases i with
    | zero => exact ⟨by show 1 ≤ c.size; rw [hp.1]; exact hw, by show c.size ≤ w; rw [hp.1]; exact Nat.le_refl _, fun _ => hp.1⟩
    | succ i =>
      have := pieces_at w hw (d :: cs) hp.2 i (by simpa using h)
      exact ⟨this.1, this.2.1, fun e => this.2.2 (by simpa using e)⟩
/-- The law's last loop: the pieces, each of its length, are the text. -/
theorem law_l0 (v : ByteArray) (w : Nat) (hw : 1 ≤ w) (cs : List ByteArray) (hp : Pieces w cs) (hc : cs.length ≤ 1000000) : ∀ (d i : Nat) (acc : ByteArray) (k : Nat), i + d = cs.length → d + 1 ≤ k → acc.size + ((cs.drop i).flatMap fun c => c.data.toList).length ≤ 1000000 → acc.data.toList ++ ((cs.drop i).flatMap fun c => c.data.toList) = v.data.toList →
    laws_FnArmor.l0 k v (w : Int) cs acc cs (cs.length : Int) (i : Int) = some true
  | 0, i, acc, k, hd, hk, ha, he => by
    obtain ⟨k, rfl⟩ : ∃ m, k = m + 1 := ⟨k - 1, by omega⟩
    rw [List.drop_eq_nil_of_le (by omega), List.flatMap_nil, List.append_nil] at he
    rw [laws_FnArmor.l0, if_neg (by omega), ByteArray.toList_eq, ByteArray.toList_eq, he, beq_self_eq_true]
  | d + 1, i, acc, k, hd, hk, ha, he => by
    obtain ⟨k, rfl⟩ : ∃ m, k = m + 1 := ⟨k - 1, by omega⟩
    have hi : i < cs.length := by omega
    obtain ⟨p1, p2, p3⟩ := pieces_at w hw cs hp i hi
    have hr : rdOf ByteArray.empty cs (i : Int) = cs[i] := by
      unfold rdOf
      rw [Int.toNat_natCast, List.getD_eq_getElem?_getD, List.getElem?_eq_getElem hi]; rfl
    have hw1 : wrap64 ((i : Int) + 1) = ((i + 1 : Nat) : Int) := by rw [w64 (by omega) (by omega)]; omega
    have hb : ((cs.drop i).flatMap fun c => c.data.toList) = cs[i].data.toList ++ ((cs.drop (i + 1)).flatMap fun c => c.data.toList) := by
      rw [List.drop_eq_getElem_cons hi, List.flatMap_cons]
    rw [hb] at ha he
    rw [List.length_append, sg_dl] at ha
    have go := law_l0 v w hw cs hp hc d (i + 1) (acc ++ cs[i]) k (by omega) (by omega) (by rw [ByteArray.size_append]; omega) (by rw [← he]; simp)
    rw [laws_FnArmor.l0, if_pos (by omega), if_pos (by omega), if_pos (by omega), hr, hw1, w64 (n := (cs.length : Int) - 1) (by omega) (by omega)]
    by_cases q : (i : Int) < (cs.length : Int) - 1
    · rw [if_pos q, if_pos (by have := p3 (by omega); omega), if_neg (by omega), if_neg (by omega), if_pos (by omega)]; exact go
    · rw [if_neg q, if_neg (by omega), if_neg (by omega), if_pos (by omega)]; exact go

theorem same_l0 (a : List ByteArray) (ha : a.length ≤ 1000000) : ∀ (d i k : Nat), i + d = a.length → d + 1 ≤ k → laws_sameTexts.l0 k a a (a.length : Int) (i : Int) = some true
  | 0, i, k, hd, hk => by
    obtain ⟨k, rfl⟩ : ∃ m, k = m + 1 := ⟨k - 1, by omega⟩
    rw [laws_sameTexts.l0, if_neg (by omega)]
  | d + 1, i, k, hd, hk => by
    obtain ⟨k, rfl⟩ : ∃ m, k = m + 1 := ⟨k - 1, by omega⟩
    have hw1 : wrap64 ((i : Int) + 1) = ((i + 1 : Nat) : Int) := by rw [w64 (by omega) (by omega)]; omega
    rw [laws_sameTexts.l0, if_pos (by omega), if_pos (by omega), if_pos (by omega), if_pos (by omega), if_pos rfl, hw1]
    exact same_l0 a ha d (i + 1) k (by omega) (by omega)
theorem drawLinesOf (l : List Int) (hl : Bytes8 l) : ∃ (v : ByteArray) (w : Int), (∀ k, 10000 ≤ k → spec_DrawLinesOf.f k l = some (v, w)) ∧ v.size ≤ 1202 ∧ 0 ≤ w ∧ w ≤ 101 := by
  obtain ⟨r, a1, s1, p1, q1, q2, q3⟩ := cur_text l hl 0 0 (by omega) (by omega) 10000 (by omega)
  have up1 : ∀ k, 10000 ≤ k → spec_l1Cur_text.f k l 0 0 = some (r, a1, s1) := fun k hk => up_to (fun k => spec_l1Cur_text.f k l 0 0) (fun k => spec_l1Cur_text.mono _ _ _ k) 10000 k hk _ p1
  obtain ⟨x, x1, x2⟩ : ∃ x : ByteArray × Bool, (∀ k, 10000 ≤ k → spec_HexOf.f k r = some x) ∧ x.1.size ≤ 1202 := by
    by_cases c : (r.size : Int) > 600
    · exact ⟨_, fun k _ => by unfold spec_HexOf.f; rw [if_pos c], Nat.zero_le _⟩
    · obtain ⟨h, h1, h2⟩ := l1Hex_l0 r (by omega) r.size 0 [] 10000 (by omega) (by omega) (by simp)
      refine ⟨(h, true), fun k hk => ?_, by show h.size ≤ 1202; omega⟩
      have h1' : spec_l1Hex.f 10000 r = some h := h1
      have := up_to (fun k => spec_l1Hex.f k r) (fun k => spec_l1Hex.mono _ k) 10000 k hk _ h1'
      unfold spec_HexOf.f
      rw [if_neg c]
      rw [show spec_l1Hex.f k r = some h from this]
      rfl
  obtain ⟨w, a2, s2, p2, r1, r2, r3⟩ := cur_among l hl a1 s1 [0, 1, 4, 64, 100, 101] (by decide) (by decide) (by omega) (by omega)
  have hr : 0 ≤ w ∧ w ≤ 101 := by
    have : ∀ x ∈ ([0, 1, 4, 64, 100, 101] : List Int), 0 ≤ x ∧ x ≤ 101 := by decide
    exact this w r3
  refine ⟨x.1, w, fun k hk => ?_, x2, hr.1, hr.2⟩
  unfold spec_DrawLinesOf.f
  rw [up1 k hk, Option.bind_some]
  (try simp only)
  rw [x1 k hk, Option.bind_some, p2]
  rfl
theorem nameOk_l0 (s : ByteArray) (h : NameOk s) : ∀ (d k i : Nat), i + d = s.size → d < k → spec_l3Name.l0 k s (i : Int) = some true ∧ impl_isArmorName.l0 k s (s.size : Int) (i : Int) = some true
  | 0, k, i, hd, hk => by
    obtain ⟨k, rfl⟩ : ∃ m, k = m + 1 := ⟨k - 1, by omega⟩
    have h1 := h.2.1
    have h2 := h.2.2
    rw [spec_l3Name.l0, impl_isArmorName.l0, if_neg (by omega), if_neg (by omega)]
    unfold spec_l1In.f impl_within.f
    rw [if_pos (by omega), Option.bind_some, decide_eq_true (by omega)]
    exact ⟨rfl, rfl⟩
  | d + 1, k, i, hd, hk => by
    obtain ⟨k, rfl⟩ : ∃ m, k = m + 1 := ⟨k - 1, by omega⟩
    have h2 := h.2.2
    have hlt : i < s.data.toList.length := by rw [sg_dl]; omega
    have hw : wrap64 ((i : Int) + 1) = ((i + 1 : Nat) : Int) := by rw [w64 (by omega) (by omega)]; omega
    have hb := sg_bt' s i (by omega)
    have hg : s.data.toList.getD i 0 = s.data.toList[i] := by rw [List.getD_eq_getElem?_getD, List.getElem?_eq_getElem hlt]; rfl
    have hm := h.1 _ (List.getElem_mem hlt)
    rw [← hg] at hm
    have c1 : (i : Int) < (s.size : Int) := by omega
    have c2 : (0 : Int) ≤ (i : Int) := by omega
    have c3 : ¬ bt s (i : Int) < 65 := by omega
    have c4 : ¬ bt s (i : Int) > 90 := by omega
    rw [spec_l3Name.l0, impl_isArmorName.l0, hw]
    simp only [if_pos c1, if_pos c2, if_neg c3, if_neg c4]
    exact nameOk_l0 s h d k (i + 1) (by omega) (by omega)
theorem nameOk_true (s : ByteArray) (h : NameOk s) (k : Nat) (hk : 100 ≤ k) : spec_l3Name.f k s = some true ∧ impl_isArmorName.f k s = some true := nameOk_l0 s h s.size k 0 (by omega) (by have := h.2.2; omega)
/-- Both read a text alike. -/
theorem of_both (t : ByteArray) (ht : t.size ≤ 140737488355328) (k : Nat) (hk : 80000 ≤ k) :
    ∃ x : ByteArray × ByteArray × Bool, impl_OfArmor.f k t = some x ∧ spec_OfArmor.f k t = some x ∧ (x.2.2 = true → t.data.toList = armorL x.1 x.2.1 ∧ NameOk x.1 ∧ x.2.1.size ≤ 600) := by
  obtain ⟨x, x1, x2, x3⟩ := impl_total t ht k (by omega)
  obtain ⟨y, y1, y2, y3⟩ := spec_total t k hk
  rcases hx : x.2.2 with _ | _
  · rcases hy : y.2.2 with _ | _
    · exact ⟨x, x1, by rw [y1, x2 hx, y2 hy], fun e => by rw [hx] at e; cases e⟩
    · obtain ⟨a, b, c, d⟩ := y3 hy
      have := impl_back y.1 y.2.1 t b c a d k (by omega) (nameOk_true _ b k (by omega)).2
      rw [x1] at this
      rw [Option.some.inj this] at hx
      cases hx
  · obtain ⟨a, b, c, d⟩ := x3 hx
    have := spec_back x.1 x.2.1 t b c a d k (by omega) (nameOk_true _ b k (by omega)).1 (fun j hj => (nameOk_true _ b j (by omega)).1)
    refine ⟨x, x1, ?_, fun _ => ⟨a, b, c⟩⟩
    rw [this]
    obtain ⟨p, q, r⟩ := x
    simp only at hx
    rw [hx]
theorem law_j4 (l1 : List Int) (hl : Bytes8 l1) (k : Nat) (hk : 20000 ≤ k) : laws_FnArmor.j4 k l1 = some true := by
  obtain ⟨k, rfl⟩ : ∃ m, k = m + 2 := ⟨k - 2, by omega⟩
  obtain ⟨v, w, d1, vs, w0, w1⟩ := drawLinesOf l1 hl
  obtain ⟨w, rfl⟩ : ∃ m : Nat, w = m := ⟨w.toNat, by omega⟩
  have fin : ∀ (x : List ByteArray × Bool), impl_LinesOf.f (k + 1) v (w : Int) = some x → spec_LinesOf.f (k + 1) v (w : Int) = some x → x.1.length ≤ 1000000 →
      laws_FnArmor.j5 (k + 1) v (w : Int) x.1 x.2 false = some true → laws_FnArmor.j4 (k + 2) l1 = some true := fun x e1 e2 hl e3 => by
    have sm : laws_sameTexts.f (k + 1) x.1 x.1 = some true ∨ ¬ x.1.length + 1 ≤ k + 1 := by
      by_cases q : x.1.length + 1 ≤ k + 1
      · refine Or.inl ?_
        unfold laws_sameTexts.f
        rw [if_pos rfl]
        exact same_l0 x.1 hl x.1.length 0 (k + 1) (by omega) q
      · exact Or.inr q
    rcases sm with sm | sm
    · rw [laws_FnArmor.j4, d1 (k + 1) (by omega), Option.bind_some]
      (try simp only)
      rw [e1, Option.bind_some, e2, Option.bind_some, if_neg (by simp), sm, Option.bind_some]
      exact e3
    · exfalso
      unfold impl_LinesOf.f at e1
      by_cases c : (v.size : Int) > 800
      · rw [if_pos c] at e1; rw [← Option.some.inj e1] at sm; simp at sm
      · rw [if_neg c] at e1
        unfold impl_within.f at e1
        obtain ⟨b, b1, b2⟩ := Option.bind_eq_some_iff.1 e1
        by_cases q : b = true
        · rw [if_pos q] at b2
          by_cases h1 : (w : Int) ≥ 1
          · obtain ⟨a1, a2⟩ := lines_both w (by omega) (by omega) v (by omega) (k + 1) (by omega)
            rw [a1] at b2
            have := Option.some.inj b2
            rw [← this] at sm
            have cl := chunk_len w (by omega) v.size v.data.toList
            simp only at sm
            omega
          · rw [if_neg h1] at b1; rw [q] at b1; cases b1
        · rw [if_neg q] at b2; rw [← Option.some.inj b2] at sm; simp at sm
  by_cases c : (v.size : Int) > 800
  · refine fin ([], false) (by unfold impl_LinesOf.f; rw [if_pos c]) (by unfold spec_LinesOf.f; rw [if_pos c]) (by simp) ?_
    rw [laws_FnArmor.j5]; rfl
  · by_cases h1 : (w : Int) ≥ 1 ∧ (w : Int) ≤ 100
    · obtain ⟨a1, a2⟩ := lines_both w (by omega) (by omega) v (by omega) (k + 1) (by omega)
      have cl := chunk_len w (by omega) v.size v.data.toList
      have cj := chunk_join w (by omega) v.size v.data.toList (by rw [sg_dl]; exact Nat.le_refl _)
      refine fin (chunksF w v.size v.data.toList, true) ?_ ?_ (by simp only; omega) ?_
      · unfold impl_LinesOf.f impl_within.f
        rw [if_neg c, if_pos h1.1, Option.bind_some, decide_eq_true h1.2, if_pos rfl, a1]; rfl
      · unfold spec_LinesOf.f spec_l1In.f
        rw [if_neg c, if_pos h1.1, Option.bind_some, decide_eq_true h1.2, if_pos rfl, a2]; rfl
      · have g := law_l0 v w (by omega) (chunksF w v.size v.data.toList) (pieces_chunks w (by omega) _ _ (by rw [sg_dl]; exact Nat.le_refl _)) (by omega) (chunksF w v.size v.data.toList).length 0 ⟨#[]⟩ k (by omega) (by omega) (by rw [List.drop_zero, cj, sg_dl]; show 0 + _ ≤ _; omega) (by rw [List.drop_zero, cj]; rfl)
        rw [laws_FnArmor.j5, if_neg (by decide), if_pos rfl]
        exact g
    · refine fin ([], false) ?_ ?_ (by simp) (by rw [laws_FnArmor.j5]; rfl)
      · unfold impl_LinesOf.f impl_within.f
        rw [if_neg c]
        by_cases q : (w : Int) ≥ 1
        · rw [if_pos q, Option.bind_some, if_neg (by rw [decide_eq_true_eq]; omega)]
        · rw [if_neg q, Option.bind_some, if_neg (by decide)]
      · unfold spec_LinesOf.f spec_l1In.f
        rw [if_neg c]
        by_cases q : (w : Int) ≥ 1
        · rw [if_pos q, Option.bind_some, if_neg (by rw [decide_eq_true_eq]; omega)]
        · rw [if_neg q, Option.bind_some, if_neg (by decide)]
theorem law_j2 (l1 : List Int) (hl : Bytes8 l1) : ∃ K, ∀ k, K ≤ k → laws_FnArmor.j2 k l1 = some true := by
  obtain ⟨t, ⟨K, ev⟩, ts⟩ := drawOfArmor l1 hl
  refine ⟨K + 100000, fun k hk => ?_⟩
  obtain ⟨k, rfl⟩ : ∃ m, k = m + 2 := ⟨k - 2, by omega⟩
  obtain ⟨x, x1, x2, x3⟩ := of_both t (by omega) (k + 1) (by omega)
  have ev' : spec_DrawOfArmor.f (k + 1) l1 = some t := ev (k + 1) (by omega)
  have e : laws_FnArmor.j3 (k + 1) l1 t x.1 x.2.1 x.2.2 false = some true := by
    rw [laws_FnArmor.j3, if_neg (by decide)]
    by_cases h : x.2.2 = true
    · obtain ⟨a, b, c⟩ := x3 h
      have hn := b.2.2
      obtain ⟨ar, _⟩ := armor_both x.1 x.2.1 (by omega) c k (by omega)
      have ea : impl_ArmorOf.f k x.1 x.2.1 = some (⟨(armorL x.1 x.2.1).toArray⟩, true) := by
        unfold impl_ArmorOf.f
        rw [(nameOk_true x.1 b k (by omega)).2, Option.bind_some, if_pos rfl, if_neg (by omega), ar]
        rfl
      rw [if_pos h, ea, Option.bind_some]
      rw [if_pos (show (((⟨(armorL x.1 x.2.1).toArray⟩ : ByteArray), true) : ByteArray × Bool).2 = true from rfl), if_pos (by rw [ByteArray.toList_eq, ByteArray.toList_eq, a])]
      exact law_j4 l1 hl k (by omega)
    · rw [if_neg h]
      exact law_j4 l1 hl k (by omega)
  rw [laws_FnArmor.j2, ev', Option.bind_some, x1, Option.bind_some, x2, Option.bind_some, if_neg (by simp), if_pos rfl, show (x.2.1.toList != x.2.1.toList) = false from by simp]
  exact e
theorem FnArmor : laws_FnArmor.Pure := by
  intro l0 l1 h0 _ hb0 h1 _ hb1
  have B0 := bytes_of_wf hb0
  have B1 := bytes_of_wf hb1
  obtain ⟨n, s, d1, ns, ss⟩ := drawArmorOf l0 B0
  obtain ⟨K, j2⟩ := law_j2 l1 B1
  refine ⟨K + 100003, ?_⟩
  obtain ⟨x, x1, x2, x3⟩ := armorOf_both n s (by omega) (K + 100003) (by omega)
  unfold laws_FnArmor.f
  by_cases c : wrap64 ((l0.length : Int) + (l1.length : Int)) > 1048576
  · rw [if_pos c]
  rw [if_neg c, d1 _ (by omega), Option.bind_some]
  (try simp only)
  rw [x1, Option.bind_some, x2, Option.bind_some, if_neg (by simp), show (x.1.toList != x.1.toList) = false from by simp, show K + 100003 = (K + 100002) + 1 from rfl, laws_FnArmor.j0, if_neg (by decide)]
  by_cases h : x.2 = true
  · obtain ⟨a, b, v, c2⟩ := x3 h
    rw [if_pos h, show K + 100002 = (K + 100001) + 1 from rfl, laws_FnArmor.j1]
    by_cases q : (x.1.size : Int) ≤ 1000
    · rw [if_pos (decide_eq_true q), impl_back n s x.1 b c2 (by rw [a]) (by omega) (K + 100001) (by omega) (nameOk_true n b _ (by omega)).2, Option.bind_some]
      simp only [if_true]
      exact j2 _ (by omega)
    · rw [if_neg (by rw [decide_eq_true_eq]; exact q)]
      exact j2 _ (by omega)
  · rw [if_neg h, show K + 100002 = (K + 100001) + 1 from rfl, laws_FnArmor.j1, if_neg (by decide)]
    exact j2 _ (by omega)

end Go.Proofs.YtgoedenbekedbaaDoor.Pure
