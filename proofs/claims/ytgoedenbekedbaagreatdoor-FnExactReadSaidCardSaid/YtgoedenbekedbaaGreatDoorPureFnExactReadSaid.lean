/-
The pure statement of FnExactReadSaid is proved: the program and the reference read one signed head out of each text, or both none.
Conditions: the text is a string that Go can hold. None besides.
-/
import Derived.Test.YtgoedenbekedbaaGreatDoorPFnExactReadSaidx7
set_option linter.unusedVariables false
set_option linter.unusedSimpArgs false
namespace Go.Proofs.YtgoedenbekedbaaGreatDoor.Pure
open Go.RowKit Go.Proofs.YtgoedenbekedbaaGreatDoor.PFnExactReadSaid Go.Proofs.YtgoedenbekedbaaGreatDoorW.PrintWords Go.Proofs.YtgoedenbekedbaaGreatDoorW.PrintLast Go.Proofs.YtgoedenbekedbaaGreatDoorW.PrintMore

theorem w64 {n : Int} (h0 : -9223372036854775808 ≤ n) (h1 : n ≤ 9223372036854775807) : wrap64 n = n := by unfold wrap64; omega
theorem z3 (s : ByteArray) : s.data.toList.length = s.size := Array.length_toList
def z0 (l : List UInt8) : List Int := l.map fun b => (b.toNat : Int)
theorem z9 (l : List UInt8) : strOfNums (z0 l) = ⟨l.toArray⟩ := by
 unfold strOfNums z0
 simp only [List.map_map]
 congr 2
 conv => rhs; rw [← List.map_id l]
 refine List.map_congr_left fun b _ => ?_
 simp
theorem bt_alpha : ∀ X : Fin 64, bt (⟨#[65, 66, 67, 68, 69, 70, 71, 72, 73, 74, 75, 76, 77, 78, 79, 80, 81, 82, 83, 84, 85, 86, 87, 88, 89, 90, 97, 98, 99, 100, 101, 102, 103, 104, 105, 106, 107, 108, 109, 110, 111, 112, 113, 114, 115, 116, 117, 118, 119, 120, 121, 122, 48, 49, 50, 51, 52, 53, 54, 55, 56, 57, 43, 47]⟩ : ByteArray) (X.val : Int) = ((sg_alpha.getD X.val 0).toNat : Int) := by decide +kernel
theorem z15 (t : ByteArray) (k : Nat) (h : k < t.size) : bt t (k : Int) = ((t.data.toList.getD k 0).toNat : Int) := by
 unfold bt
 have h' : (k : Int).toNat < t.size := by simpa using h
 rw [dif_pos h', List.getD_eq_getElem?_getD, List.getElem?_eq_getElem (by rw [z3]; exact h)]
 simp; rfl
theorem z37 (k : Nat) (s : ByteArray) (out : List Int) (at_ : Int) (g : List UInt8) (i : Nat) (hi : i < 4) (hl : out.length < 140737488355328) :
  spec_l3Signs.l2 (k + 1) s out at_ (sg_num g 3 : Int) (g.length : Int) (i : Int) = spec_l3Signs.l2 k s (out ++ z0 [sg_one g i]) at_ (sg_num g 3 : Int) (g.length : Int) ((i + 1 : Nat) : Int) := by
 have hn := sg_num_lt g 3
 rw [spec_l3Signs.l2, if_pos (by omega)]
 have hw : wrap64 ((i : Int) + 1) = ((i + 1 : Nat) : Int) := by rw [w64 (by omega) (by omega)]; omega
 by_cases c : (i : Int) ≤ (g.length : Int)
 ·have hone : sg_one g i = sg_alpha.getD (sg_num g 3 / 2 ^ (18 - 6 * i) % 64) 0 := by unfold sg_one; rw [if_neg (by omega)]
  have hs : IntKind.u64.wrap (wrap64 (18 - wrap64 (6 * (i : Int)))) = ((18 - 6 * i : Nat) : Int) := by
   rcases (by omega : i = 0 ∨ i = 1 ∨ i = 2 ∨ i = 3) with rfl | rfl | rfl | rfl <;> decide +kernel
  have hx : Go.bits .and .i64 (shr .i64 (sg_num g 3 : Int) (IntKind.u64.wrap (wrap64 (18 - wrap64 (6 * (i : Int)))))) 63 = ((sg_num g 3 / 2 ^ (18 - 6 * i) % 64 : Nat) : Int) := by
   rw [hs]
   have e : shr .i64 (sg_num g 3 : Int) ((18 - 6 * i : Nat) : Int) = ((sg_num g 3 / 2 ^ (18 - 6 * i) : Nat) : Int) := by
    rw [← shr_small (k := .i64) (x := (sg_num g 3 : Int)) (y := ((18 - 6 * i : Nat) : Int)) rfl (by show _ ≤ ((64 : Nat) : Int); omega), Int.toNat_natCast]
    norm_cast
   rw [e]
   have hd : sg_num g 3 / 2 ^ (18 - 6 * i) ≤ sg_num g 3 := Nat.div_le_self _ _
   have hn' : sg_num g 3 < 16777216 := hn
   generalize sg_num g 3 / 2 ^ (18 - 6 * i) = q at hd ⊢
   rw [sg_and63 _ (by omega) (by omega)]
   omega
  have hlt : sg_num g 3 / 2 ^ (18 - 6 * i) % 64 < 64 := Nat.mod_lt _ (by decide)
  have ha := bt_alpha ⟨_, hlt⟩
  simp only at ha
  rw [if_pos c, hx, hs, hw, if_pos (by omega), if_pos (by omega), if_pos (by omega), if_pos hl, ha, hone]
  rfl
 ·have hone : sg_one g i = 61 := by unfold sg_one; rw [if_pos (by omega)]
  rw [if_neg c, hw, if_pos hl, hone]
  rfl
theorem sg_four (k : Nat) (s : ByteArray) (out : List Int) (at_ : Int) (g : List UInt8) (hl : out.length + 4 < 140737488355328) :
  spec_l3Signs.l2 (k + 5) s out at_ (sg_num g 3 : Int) (g.length : Int) 0 = spec_l3Signs.l0 k s (out ++ z0 (sg_quad g)) (wrap64 (at_ + 3)) := by
 have h0 := z37 (k + 4) s out at_ g 0 (by omega) (by omega)
 have h1 := z37 (k + 3) s (out ++ z0 [sg_one g 0]) at_ g 1 (by omega) (by simp [z0]; omega)
 have h2 := z37 (k + 2) s (out ++ z0 [sg_one g 0] ++ z0 [sg_one g 1]) at_ g 2 (by omega) (by simp [z0]; omega)
 have h3 := z37 (k + 1) s (out ++ z0 [sg_one g 0] ++ z0 [sg_one g 1] ++ z0 [sg_one g 2]) at_ g 3 (by omega) (by simp [z0]; omega)
 refine h0.trans (h1.trans (h2.trans (h3.trans ?_)))
 rw [spec_l3Signs.l2, if_neg (by decide)]
 simp only [z0, sg_quad, List.append_assoc, List.map_cons, List.map_nil, List.cons_append, List.nil_append]
theorem sg_or' (n b : Nat) (hn : n < 65536) (hb : b < 256) : Go.bits .or .i64 ((n * 256 : Nat) : Int) (b : Int) = ((n * 256 : Nat) : Int) + (b : Int) :=
 sg_or _ _ (by omega) (by omega) (by omega) (by omega) (by omega)
theorem sg_shl (n : Nat) (hn : n < 65536) : wrap64 ((n : Int) * 256) = ((n * 256 : Nat) : Int) := by rw [w64 (by omega) (by omega)]; omega
theorem sg_small (b : Nat) (hb : b < 256) : wrap64 (b : Int) = (b : Int) := w64 (by omega) (by omega)
theorem z53 (k : Nat) (s : ByteArray) (out : List Int) (a : Nat) (g : List UInt8) (hg : g = (s.data.toList.drop a).take 3) (hs : s.size ≤ 4194304) (ha : a < s.size) (i : Nat) (hi : i < 3) :
  spec_l3Signs.l1 (k + 1) s out (a : Int) (sg_num g i : Int) (g.length : Int) (i : Int) = spec_l3Signs.l1 k s out (a : Int) (sg_num g (i + 1) : Int) (g.length : Int) ((i + 1 : Nat) : Int) := by
 have hn : sg_num g i < 65536 := Nat.lt_of_lt_of_le (sg_num_lt g i) (by rcases (by omega : i = 0 ∨ i = 1 ∨ i = 2) with rfl | rfl | rfl <;> decide)
 have hlen : g.length = min 3 (s.size - a) := by rw [hg, List.length_take, List.length_drop, z3]
 have hw : wrap64 ((i : Int) + 1) = ((i + 1 : Nat) : Int) := by rw [w64 (by omega) (by omega)]; omega
 have hw2 : wrap64 ((a : Int) + (i : Int)) = ((a + i : Nat) : Int) := by rw [w64 (by omega) (by omega)]; omega
 have hb := sg_b_lt g i
 have h3 : (i : Int) < 3 := by omega
 have e1 := sg_shl (sg_num g i) hn
 have e2 := sg_small (sg_b g i) hb
 have e3 := sg_or' (sg_num g i) (sg_b g i) hn hb
 have e4 : ((sg_num g (i + 1) : Nat) : Int) = ((sg_num g i * 256 : Nat) : Int) + (sg_b g i : Int) := Int.natCast_add _ _
 rw [e4, spec_l3Signs.l1, if_pos h3, hw, hw2, e1]
 by_cases c : (i : Int) < (g.length : Int)
 ·have hbt : bt s ((a + i : Nat) : Int) = (sg_b g i : Int) := by
   rw [z15 s (a + i) (by omega)]
   have : g.getD i 0 = s.data.toList.getD (a + i) 0 := by
    rw [hg, List.getD_eq_getElem?_getD, List.getD_eq_getElem?_getD, List.getElem?_take, if_pos hi, List.getElem?_drop]
   rw [sg_b, this]
  have p0 : (0 : Int) ≤ ((a + i : Nat) : Int) := by omega
  have p1 : ((a + i : Nat) : Int) < (s.size : Int) := by omega
  rw [if_pos c, if_pos p0, if_pos p1, hbt, e2, e3]
 ·have hb0 : sg_b g i = 0 := by rw [sg_b, List.getD_eq_getElem?_getD, List.getElem?_eq_none (by omega)]; rfl
  rw [if_neg c, hb0, Int.natCast_zero, Int.add_zero]
theorem sg_three (k : Nat) (s : ByteArray) (out : List Int) (a : Nat) (g : List UInt8) (hg : g = (s.data.toList.drop a).take 3) (hs : s.size ≤ 4194304) (ha : a < s.size) :
  spec_l3Signs.l1 (k + 4) s out (a : Int) 0 (g.length : Int) 0 = spec_l3Signs.l2 k s out (a : Int) (sg_num g 3 : Int) (g.length : Int) 0 := by
 refine (z53 (k + 3) s out a g hg hs ha 0 (by omega)).trans ((z53 (k + 2) s out a g hg hs ha 1 (by omega)).trans ((z53 (k + 1) s out a g hg hs ha 2 (by omega)).trans ?_))
 rw [spec_l3Signs.l1, if_neg (by decide)]
theorem sg_l0 (s : ByteArray) (hs : s.size ≤ 4194304) : ∀ (d a : Nat) (out : List UInt8) (k : Nat), s.size - a ≤ d → 10 * d + 1 ≤ k → out.length ≤ 4 * a → a ≤ s.size + 2 →
  spec_l3Signs.l0 k s (z0 out) (a : Int) = some ⟨(out ++ sg_of (s.data.toList.drop a)).toArray⟩
 | 0, a, out, k, hd, hk, ho, ha => by
  obtain ⟨k, rfl⟩ : ∃ m, k = m + 1 := ⟨k - 1, by omega⟩
  rw [spec_l3Signs.l0, if_neg (by omega), z9, List.drop_eq_nil_of_le (by rw [z3]; omega)]
  simp [sg_of, sg_all]
 | d + 1, a, out, k, hd, hk, ho, ha => by
  by_cases c : a < s.size
  ·obtain ⟨k, rfl⟩ : ∃ m, k = m + 10 := ⟨k - 10, by omega⟩
   obtain ⟨g, hg⟩ : ∃ g, g = (s.data.toList.drop a).take 3 := ⟨_, rfl⟩
   have hlen : g.length = min 3 (s.size - a) := by rw [hg, List.length_take, List.length_drop, z3]
   have hl : spec_l1Least.f 3 (wrap64 ((s.size : Int) - (a : Int))) = some (g.length : Int) := by
    rw [w64 (by omega) (by omega), spec_l1Least.f]
    by_cases q : (3 : Int) < (s.size : Int) - (a : Int)
    ·rw [if_pos q, show (g.length : Int) = 3 by omega]
    ·rw [if_neg q, show (g.length : Int) = (s.size : Int) - (a : Int) by omega]
   rw [spec_l3Signs.l0, if_pos (by omega), hl, Option.bind_some, show k + 9 = (k + 5) + 4 from rfl, sg_three (k + 5) s _ a g hg hs c, sg_four k s _ _ g (by simp [z0]; omega), w64 (by omega) (by omega)]
   have e := sg_l0 s hs d (a + 3) (out ++ sg_quad g) k (by omega) (by omega) (by rw [List.length_append, sg_quad_len]; omega) (by omega)
   have e1 : z0 out ++ z0 (sg_quad g) = z0 (out ++ sg_quad g) := by simp [z0]
   rw [e1, show (a : Int) + 3 = ((a + 3 : Nat) : Int) by omega, e, sg_of_cons (s.data.toList.drop a) (fun h => by have := congrArg List.length h; rw [List.length_drop, z3, List.length_nil] at this; omega), ← hg, List.drop_drop, List.append_assoc]
  ·obtain ⟨k, rfl⟩ : ∃ m, k = m + 1 := ⟨k - 1, by omega⟩
   rw [spec_l3Signs.l0, if_neg (by omega), z9, List.drop_eq_nil_of_le (by rw [z3]; omega)]
   simp [sg_of, sg_all]
theorem z21 (s : ByteArray) (hs : s.size ≤ 4194304) (k : Nat) (hk : 10 * s.size + 1 ≤ k) :
  spec_l3Signs.f k s = some ⟨(sg_of s.data.toList).toArray⟩ ∧ impl_signsOf.f s = some ⟨(sg_of s.data.toList).toArray⟩ := by
 refine ⟨?_, by unfold impl_signsOf.f; rw [if_pos (by omega)]⟩
 have := sg_l0 s hs s.size 0 [] k (by omega) hk (by simp) (by omega)
 simpa [z0, spec_l3Signs.f] using this
theorem z61 (s : ByteArray) : (⟨s.data.toList.toArray⟩ : ByteArray) = s := by cases s; simp
theorem z32 : ∀ (n : Nat) (l : List UInt8), l.length ≤ n → (sg_of l).length = 4 * ((l.length + 2) / 3)
 | 0, l, h => by have : l = [] := List.eq_nil_of_length_eq_zero (by omega); subst this; rfl
 | n + 1, l, h => by
  by_cases e : l = []
  ·subst e; rfl
  ·have h0 : 0 < l.length := List.length_pos_iff.2 e
   have := z32 n (l.drop 3) (by rw [List.length_drop]; omega)
   rw [sg_of_cons l e, List.length_append, sg_quad_len, this, List.length_drop]
   omega
theorem z52 : ∀ (i : Nat) (l : List UInt8), (sg_of l).drop (4 * i) = sg_of (l.drop (3 * i))
 | 0, l => rfl
 | i + 1, l => by
  by_cases e : l = []
  ·subst e; simp [sg_of, sg_all]
  ·rw [sg_of_cons l e, show 4 * (i + 1) = (sg_quad (l.take 3)).length + 4 * i by rw [sg_quad_len]; omega, ← List.drop_drop, List.drop_left, z52 i, List.drop_drop]
   congr 2; omega
theorem sg_num3 (g : List UInt8) : sg_num g 3 = (sg_b g 0 * 256 + sg_b g 1) * 256 + sg_b g 2 := by
 show ((0 * 256 + sg_b g 0) * 256 + sg_b g 1) * 256 + sg_b g 2 = _
 omega
theorem sg_b0 (g : List UInt8) (i : Nat) (h : g.length ≤ i) : sg_b g i = 0 := by rw [sg_b, List.getD_eq_getElem?_getD, List.getElem?_eq_none h]; rfl
theorem alpha_idx : ∀ X : Fin 64, Lib.indexByte sg_alpha (sg_alpha.getD X.val 0) = (X.val : Int) := by decide +kernel
theorem alpha_ne : ∀ X : Fin 64, sg_alpha.getD X.val 0 ≠ 61 := by decide +kernel
theorem z35 (X : Nat) (h : X < 64) : Lib.indexByte sg_alpha (sg_alpha.getD X 0) = (X : Int) := alpha_idx ⟨X, h⟩
def sg_x (g : List UInt8) (i : Nat) : Nat := sg_num g 3 / 2 ^ (18 - 6 * i) % 64
theorem z27 (g : List UInt8) (i : Nat) : sg_x g i < 64 := Nat.mod_lt _ (by decide)
theorem z14 (g : List UInt8) (i : Nat) (h : i ≤ g.length) : sg_one g i = sg_alpha.getD (sg_x g i) 0 := by unfold sg_one sg_x; rw [if_neg (by omega)]
theorem z31 (g : List UInt8) (i : Nat) (h : g.length < i) : sg_one g i = 61 := by unfold sg_one; rw [if_pos h]
def sg_n (g : List UInt8) (i : Nat) : Nat := sg_num g 3 / 2 ^ (24 - 6 * i)
theorem z43 (g : List UInt8) (i : Nat) (hi : i < 4) : sg_n g (i + 1) = sg_n g i * 64 + sg_x g i := by
 unfold sg_n sg_x
 rcases (by omega : i = 0 ∨ i = 1 ∨ i = 2 ∨ i = 3) with rfl | rfl | rfl | rfl
 all_goals simp only [Nat.reduceAdd, Nat.reduceMul, Nat.reduceSub, Nat.reducePow, Nat.div_one]; omega
theorem sg_n_lt (g : List UInt8) (i : Nat) (hi : i ≤ 4) : sg_n g i < 16777216 := Nat.lt_of_le_of_lt (Nat.div_le_self _ _) (sg_num_lt g 3)
theorem sg_n0 (g : List UInt8) : sg_n g 0 = 0 := Nat.div_eq_of_lt (sg_num_lt g 3)
theorem sg_n4 (g : List UInt8) : sg_n g 4 = sg_num g 3 := Nat.div_one _
theorem z58 (g : List UInt8) (i : Nat) (h1 : 1 ≤ g.length) (hi : i < 4) (h : g.length < i) : sg_x g i = 0 := by
 unfold sg_x
 rw [sg_num3]
 have l0 := sg_b_lt g 0
 have l1 := sg_b_lt g 1
 rcases (by omega : i = 2 ∨ i = 3) with rfl | rfl
 ·rw [sg_b0 g 1 (by omega), sg_b0 g 2 (by omega)]
  simp only [Nat.reduceMul, Nat.reduceSub, Nat.reducePow]; omega
 ·rw [sg_b0 g 2 (by omega)]
  simp only [Nat.reduceMul, Nat.reduceSub, Nat.reducePow, Nat.div_one]; omega
theorem or6 (n x : Nat) (hn : n < 16777216) (hx : x < 64) : Go.bits .or .i64 (wrap64 ((n : Int) * 64)) (x : Int) = ((n * 64 + x : Nat) : Int) := by
 rw [w64 (by omega) (by omega), bits_join .i64 63 (by decide) (fun n h₀ h₁ => by rw [IntKind.wrap_i64]; omega) 6 _ _ (by omega) (by omega) (by omega) (by omega) (by omega) (by omega)]
 omega
theorem byte_back (b : UInt8) : ((b.toNat : Int)).toNat.toUInt8 = b := by simp
theorem os_step (k : Nat) (t : ByteArray) (out : List Int) (at_ : Int) (u : ByteArray) (n : Int) (i : Nat) (hi : i < 4) (c : i < u.size) :
  impl_ofSigns.l1 (k + 1) t out at_ u n (i : Int) = if Lib.indexByte sg_alpha (u.data.toList.getD i 0) < 0 then some ((⟨#[]⟩ : ByteArray), false) else
   impl_ofSigns.l1 k t out at_ u (Go.bits .or .i64 (wrap64 (n * 64)) (Lib.indexByte sg_alpha (u.data.toList.getD i 0))) ((i + 1 : Nat) : Int) := by
 have hw : wrap64 ((i : Int) + 1) = ((i + 1 : Nat) : Int) := by rw [w64 (by omega) (by omega)]; omega
 have hx : strings_IndexByte.f (⟨#[65, 66, 67, 68, 69, 70, 71, 72, 73, 74, 75, 76, 77, 78, 79, 80, 81, 82, 83, 84, 85, 86, 87, 88, 89, 90, 97, 98, 99, 100, 101, 102, 103, 104, 105, 106, 107, 108, 109, 110, 111, 112, 113, 114, 115, 116, 117, 118, 119, 120, 121, 122, 48, 49, 50, 51, 52, 53, 54, 55, 56, 57, 43, 47]⟩ : ByteArray) (bt u (i : Int)) = some (Lib.indexByte sg_alpha (u.data.toList.getD i 0)) := by
  rw [z15 u i c, strings_IndexByte.f, byte_back]
  rfl
 rw [impl_ofSigns.l1, if_pos (by omega), if_neg (by omega), if_pos (by omega), if_pos (by omega), hx, Option.bind_some, hw]
theorem os_skip (k : Nat) (t : ByteArray) (out : List Int) (at_ : Int) (u : ByteArray) (n : Int) (i : Nat) (hi : i < 4) (c : u.size ≤ i) :
  impl_ofSigns.l1 (k + 1) t out at_ u n (i : Int) = impl_ofSigns.l1 k t out at_ u (wrap64 (n * 64)) ((i + 1 : Nat) : Int) := by
 have hw : wrap64 ((i : Int) + 1) = ((i + 1 : Nat) : Int) := by rw [w64 (by omega) (by omega)]; omega
 rw [impl_ofSigns.l1, if_pos (by omega), if_pos (by omega), hw]
theorem os_l1 (t : ByteArray) (out : List Int) (at_ : Int) (u : ByteArray) : ∀ (d i : Nat), i + d = 4 → ∀ (n : Int) (k : Nat),
  (∃ n', impl_ofSigns.l1 (k + d) t out at_ u n (i : Int) = impl_ofSigns.l1 k t out at_ u n' 4) ∨ impl_ofSigns.l1 (k + d) t out at_ u n (i : Int) = some ((⟨#[]⟩ : ByteArray), false)
 | 0, i, h, n, k => by obtain rfl : i = 4 := (by omega); exact Or.inl ⟨n, rfl⟩
 | d + 1, i, h, n, k => by
  by_cases c : i < u.size
  ·rw [show k + (d + 1) = (k + d) + 1 from rfl, os_step (k + d) t out at_ u n i (by omega) c]
   by_cases q : Lib.indexByte sg_alpha (u.data.toList.getD i 0) < 0
   ·rw [if_pos q]; exact Or.inr rfl
   ·rw [if_neg q]; exact os_l1 t out at_ u d (i + 1) (by omega) _ k
  ·rw [show k + (d + 1) = (k + d) + 1 from rfl, os_skip (k + d) t out at_ u n i (by omega) (by omega)]
   exact os_l1 t out at_ u d (i + 1) (by omega) _ k
theorem os_l2 (t : ByteArray) (at_ n : Int) (m : Nat) (hm : m ≤ 3) : ∀ (d i : Nat), i + d = m → ∀ (out : List Int) (k : Nat), out.length + 3 < 140737488355328 + i →
  ∃ more : List Int, more.length = d ∧ impl_ofSigns.l2 (k + d + 1) t out at_ n (m : Int) (i : Int) = impl_ofSigns.l0 k t (out ++ more) (wrap64 (at_ + 4))
 | 0, i, h, out, k, ho => ⟨[], rfl, by rw [impl_ofSigns.l2, if_neg (by omega), List.append_nil]⟩
 | d + 1, i, h, out, k, ho => by
  have e : wrap64 (16 - wrap64 (8 * (i : Int))) = ((16 - 8 * i : Nat) : Int) := by rw [w64 (n := 8 * (i : Int)) (by omega) (by omega), w64 (by omega) (by omega)]; omega
  have hw : wrap64 ((i : Int) + 1) = ((i + 1 : Nat) : Int) := by rw [w64 (by omega) (by omega)]; omega
  obtain ⟨more, h1, h2⟩ := os_l2 t at_ n m hm d (i + 1) (by omega) (out ++ [(shr .i64 n (wrap64 (16 - (wrap64 (8 * (i : Int)))))) % 256]) k (by rw [List.length_append]; simp only [List.length_cons, List.length_nil]; omega)
  refine ⟨(shr .i64 n (wrap64 (16 - (wrap64 (8 * (i : Int)))))) % 256 :: more, by rw [List.length_cons, h1], ?_⟩
  rw [show k + (d + 1) + 1 = (k + d + 1) + 1 from rfl, impl_ofSigns.l2, if_pos (by omega), if_pos (by rw [e]; omega), if_pos (by omega), hw, h2, List.append_assoc]
  rfl
theorem os_trim (x : ByteArray) (h : x.size ≤ 140737488355328) : strings_TrimRight.f x (⟨#[61]⟩ : ByteArray) = some ⟨(Lib.trimRightB x.data.toList 61).toArray⟩ := by
 unfold strings_TrimRight.f
 show (if (61 : UInt8).toNat < 128 ∧ x.size ≤ 9223372036854775807 then _ else _) = _
 rw [if_pos ⟨by decide, by omega⟩]
theorem trimB_len (l : List UInt8) (c : UInt8) : (Lib.trimRightB l c).length ≤ l.length := by
 unfold Lib.trimRightB
 rw [List.length_reverse]
 exact Nat.le_trans (List.dropWhile_sublist _).length_le (by rw [List.length_reverse]; exact Nat.le_refl _)
theorem os_l0e (t : ByteArray) (ht : t.size ≤ 800) : ∀ (d a : Nat) (out : List Int) (k : Nat), a + 4 * d = t.size → 10 * d + 1 ≤ k → out.length ≤ a →
  ∃ r : ByteArray × Bool, impl_ofSigns.l0 k t out (a : Int) = some r ∧ (r.2 = true → sg_of r.1.data.toList = t.data.toList ∧ r.1.size ≤ 600) ∧ (r.2 = false → r.1 = ⟨#[]⟩)
 | 0, a, out, k, hd, hk, ho => by
  obtain ⟨k, rfl⟩ : ∃ m, k = m + 1 := ⟨k - 1, by omega⟩
  have hs : (strOfNums out).size = out.length := by simp [strOfNums, ByteArray.size]
  rw [impl_ofSigns.l0, if_neg (by omega), impl_signsOf.f, if_pos (by rw [hs]; omega), Option.bind_some]
  by_cases c : (⟨(sg_of (strOfNums out).data.toList).toArray⟩ : ByteArray).toList = t.toList
  ·rw [if_pos c]
   by_cases q : (out.length : Int) > 600
   ·rw [if_pos q]; exact ⟨_, rfl, (fun h => by cases h), fun _ => rfl⟩
   ·rw [if_neg q]
    refine ⟨_, rfl, fun _ => ⟨?_, by rw [hs]; omega⟩, fun h => by cases h⟩
    rw [ByteArray.toList_eq, ByteArray.toList_eq] at c
    exact c
  ·rw [if_neg c]; exact ⟨_, rfl, (fun h => by cases h), fun _ => rfl⟩
 | d + 1, a, out, k, hd, hk, ho => by
  obtain ⟨k, rfl⟩ : ∃ m, k = m + 10 := ⟨k - 10, by omega⟩
  have hw : wrap64 ((a : Int) + 4) = ((a + 4 : Nat) : Int) := by rw [w64 (by omega) (by omega)]; omega
  obtain ⟨u, hu⟩ : ∃ u : ByteArray, u = ⟨(Lib.trimRightB (t.extract a (a + 4)).data.toList 61).toArray⟩ := ⟨_, rfl⟩
  have hx : (t.extract a (a + 4)).size = 4 := by rw [ByteArray.size_extract]; omega
  have ul : u.size ≤ 4 := by
   rw [hu]
   have := trimB_len (t.extract a (a + 4)).data.toList 61
   rw [z3, hx] at this
   exact Nat.le_trans (Nat.le_of_eq List.size_toArray) this
  have e1 : impl_ofSigns.l0 (k + 10) t out (a : Int) = impl_ofSigns.l1 (k + 9) t out (a : Int) u 0 0 := by
   rw [impl_ofSigns.l0, if_pos (by omega), if_pos (by omega), hw, if_pos (by omega), if_pos (by omega), Int.toNat_natCast, Int.toNat_natCast, os_trim _ (by omega), Option.bind_some, hu]
  rw [e1]
  rcases os_l1 t out (a : Int) u 4 0 rfl 0 (k + 5) with ⟨n', h⟩ | h
  ·rw [show (0 : Int) = ((0 : Nat) : Int) from rfl, show k + 9 = k + 5 + 4 from rfl]
   refine (show _ from ?_)
   have h' : impl_ofSigns.l1 (k + 5 + 4) t out (a : Int) u ((0 : Nat) : Int) ((0 : Nat) : Int) = impl_ofSigns.l1 (k + 5) t out (a : Int) u n' 4 := h
   rw [h', show k + 5 = (k + 4) + 1 from rfl, impl_ofSigns.l1, if_neg (by decide)]
   by_cases c : (u.size : Int) < 2
   ·rw [if_pos c]; exact ⟨_, rfl, (fun h => by cases h), fun _ => rfl⟩
   ·rw [if_neg c]
    obtain ⟨m, hm⟩ : ∃ m : Nat, m = u.size - 1 := ⟨_, rfl⟩
    have em : wrap64 ((u.size : Int) - 1) = (m : Int) := by rw [w64 (by omega) (by omega)]; omega
    rw [em]
    obtain ⟨j, hj⟩ : ∃ j, k + 4 = j + m + 1 := ⟨k + 3 - m, by omega⟩
    obtain ⟨more, m1, m2⟩ := os_l2 t (a : Int) n' m (by omega) m 0 (by omega) out j (by omega)
    have m2' : impl_ofSigns.l2 (j + m + 1) t out (a : Int) n' (m : Int) 0 = impl_ofSigns.l0 j t (out ++ more) (wrap64 ((a : Int) + 4)) := m2
    rw [hj, m2', hw]
    exact os_l0e t ht d (a + 4) (out ++ more) j (by omega) (by omega) (by rw [List.length_append]; omega)
  ·exact ⟨_, h, (fun h => by cases h), fun _ => rfl⟩
theorem os_totale (t : ByteArray) (ht : t.size ≤ 140737488355328) (k : Nat) (hk : 2100 ≤ k) :
  ∃ r : ByteArray × Bool, impl_ofSigns.f k t = some r ∧ (r.2 = true → sg_of r.1.data.toList = t.data.toList ∧ r.1.size ≤ 600) ∧ (r.2 = false → r.1 = ⟨#[]⟩) := by
 obtain ⟨k, rfl⟩ : ∃ m, k = m + 1 := ⟨k - 1, by omega⟩
 unfold impl_ofSigns.f
 by_cases c : (t.size : Int) % 4 = 0
 ·rw [if_pos c, impl_ofSigns.j0]
  by_cases q : (t.size : Int) > 800
  ·rw [if_pos (decide_eq_true q)]; exact ⟨_, rfl, (fun h => by cases h), fun _ => rfl⟩
  ·rw [if_neg (by rw [decide_eq_true_eq]; exact q)]
   exact os_l0e t (by omega) (t.size / 4) 0 [] k (by omega) (by omega) (by simp)
 ·rw [if_neg c, impl_ofSigns.j0, if_pos rfl]; exact ⟨_, rfl, (fun h => by cases h), fun _ => rfl⟩
theorem os_total (t : ByteArray) (ht : t.size ≤ 140737488355328) (k : Nat) (hk : 2100 ≤ k) :
  ∃ r : ByteArray × Bool, impl_ofSigns.f k t = some r ∧ (r.2 = true → sg_of r.1.data.toList = t.data.toList ∧ r.1.size ≤ 600) := by
 obtain ⟨r, h1, h2, _⟩ := os_totale t ht k hk
 exact ⟨r, h1, h2⟩
theorem z17 (g : List UInt8) (j : Nat) (h : j < 4) : (sg_quad g)[j]? = some (sg_one g j) := by
 rcases (by omega : j = 0 ∨ j = 1 ∨ j = 2 ∨ j = 3) with rfl | rfl | rfl | rfl <;> rfl
theorem sg_trim (g : List UInt8) (h3 : g.length ≤ 3) : Lib.trimRightB (sg_quad g) 61 = (sg_quad g).take (g.length + 1) := by
 refine Lib.trimRightB_take _ _ (g.length + 1) (by rw [sg_quad_len]; omega) (fun j b hj hb => ?_) (fun b _ hb => ?_)
 ·by_cases c : j < 4
  ·rw [z17 g j c] at hb
   rw [← Option.some.inj hb]; exact z31 g j (by omega)
  ·rw [List.getElem?_eq_none (by rw [sg_quad_len]; omega)] at hb; cases hb
 ·rw [Nat.add_sub_cancel, z17 g _ (by omega)] at hb
  rw [← Option.some.inj hb, z14 g _ (Nat.le_refl _)]
  exact alpha_ne ⟨_, z27 g g.length⟩
theorem sg_out (g : List UInt8) (i : Nat) (h3 : g.length ≤ 3) (hi : i < g.length) : sg_num g 3 / 2 ^ (16 - 8 * i) % 256 = sg_b g i := by
 rw [sg_num3]
 have l0 := sg_b_lt g 0
 have l1 := sg_b_lt g 1
 have l2 := sg_b_lt g 2
 rcases (by omega : i = 0 ∨ i = 1 ∨ i = 2) with rfl | rfl | rfl
 all_goals simp only [Nat.reduceMul, Nat.reduceSub, Nat.reducePow, Nat.div_one]; omega
theorem sg_take (g : List UInt8) (i : Nat) (hi : i < g.length) : z0 (g.take (i + 1)) = z0 (g.take i) ++ [((sg_b g i : Nat) : Int)] := by
 have e : g.take (i + 1) = g.take i ++ [g.getD i 0] := by rw [List.take_add_one, List.getD_eq_getElem?_getD, List.getElem?_eq_getElem hi]; rfl
 rw [e, z0, List.map_append]
 rfl
theorem sg_shr (g : List UInt8) (i : Nat) (h3 : g.length ≤ 3) (hi : i < g.length) : (shr .i64 (sg_num g 3 : Int) ((16 - 8 * i : Nat) : Int)) % 256 = ((sg_b g i : Nat) : Int) := by
 rw [← shr_small (k := .i64) (x := (sg_num g 3 : Int)) (y := ((16 - 8 * i : Nat) : Int)) rfl (by show _ ≤ ((64 : Nat) : Int); omega), Int.toNat_natCast, ← sg_out g i h3 hi, Int.natCast_emod, Int.natCast_ediv, Int.natCast_pow]
 rfl
theorem z54 (t : ByteArray) (out : List Int) (at_ : Int) (u : ByteArray) (g : List UInt8) (h1 : 1 ≤ g.length) (h3 : g.length ≤ 3) (hu : u.data.toList = (sg_quad g).take (g.length + 1)) : ∀ (d i : Nat), i + d = 4 → ∀ (k : Nat),
  impl_ofSigns.l1 (k + d) t out at_ u (sg_n g i : Int) (i : Int) = impl_ofSigns.l1 k t out at_ u (sg_n g 4 : Int) 4
 | 0, i, h, k => by obtain rfl : i = 4 := (by omega); rfl
 | d + 1, i, h, k => by
  have us : u.size = g.length + 1 := by rw [← z3, hu, List.length_take, sg_quad_len]; omega
  have hn := sg_n_lt g i (by omega)
  have hs := z43 g i (by omega)
  by_cases c : i ≤ g.length
  ·have hg : u.data.toList.getD i 0 = sg_alpha.getD (sg_x g i) 0 := by
    rw [← z14 g i c, hu, List.getD_eq_getElem?_getD, List.getElem?_take, if_pos (by omega), z17 g i (by omega)]
    rfl
   rw [show k + (d + 1) = (k + d) + 1 from rfl, os_step (k + d) t out at_ u _ i (by omega) (by omega), hg, z35 _ (z27 g i), if_neg (by omega), or6 _ _ hn (z27 g i), ← hs]
   exact z54 t out at_ u g h1 h3 hu d (i + 1) (by omega) k
  ·rw [z58 g i h1 (by omega) (by omega), Nat.add_zero] at hs
   have hw : wrap64 ((sg_n g i : Int) * 64) = ((sg_n g (i + 1) : Nat) : Int) := by rw [hs, w64 (by omega) (by omega)]; omega
   rw [show k + (d + 1) = (k + d) + 1 from rfl, os_skip (k + d) t out at_ u _ i (by omega) (by omega), hw]
   exact z54 t out at_ u g h1 h3 hu d (i + 1) (by omega) k
theorem os_put (t : ByteArray) (at_ : Int) (g : List UInt8) (h3 : g.length ≤ 3) (out : List Int) (ho : out.length + 3 < 140737488355328) : ∀ (d i : Nat), i + d = g.length → ∀ (k : Nat),
  impl_ofSigns.l2 (k + d + 1) t (out ++ z0 (g.take i)) at_ (sg_num g 3 : Int) (g.length : Int) (i : Int) = impl_ofSigns.l0 k t (out ++ z0 g) (wrap64 (at_ + 4))
 | 0, i, h, k => by
  rw [impl_ofSigns.l2, if_neg (by omega), List.take_of_length_le (by omega)]
 | d + 1, i, h, k => by
  have e : wrap64 (16 - wrap64 (8 * (i : Int))) = ((16 - 8 * i : Nat) : Int) := by rw [w64 (n := 8 * (i : Int)) (by omega) (by omega), w64 (by omega) (by omega)]; omega
  have hw : wrap64 ((i : Int) + 1) = ((i + 1 : Nat) : Int) := by rw [w64 (by omega) (by omega)]; omega
  have hl : (out ++ z0 (g.take i)).length < 140737488355328 := by rw [List.length_append, z0, List.length_map, List.length_take]; omega
  rw [show k + (d + 1) + 1 = (k + d + 1) + 1 from rfl, impl_ofSigns.l2, if_pos (by omega), if_pos (by rw [e]; omega), if_pos hl, hw, e, sg_shr g i h3 (by omega), List.append_assoc, ← sg_take g i (by omega)]
  exact os_put t at_ g h3 out ho d (i + 1) (by omega) k
theorem os_back (s t : ByteArray) (hs : s.size ≤ 600) (ht : t.data.toList = sg_of s.data.toList) : ∀ (d i : Nat) (k : Nat), s.size ≤ 3 * (i + d) → 3 * i ≤ s.size + 2 → 10 * d + 1 ≤ k →
  impl_ofSigns.l0 k t (z0 (s.data.toList.take (3 * i))) ((4 * i : Nat) : Int) = some (s, true) := by
 have tl : t.size = 4 * ((s.size + 2) / 3) := by rw [← z3, ht, z32 _ _ (Nat.le_refl _), z3]
 intro d
 induction d with
 | zero =>
  intro i k h1 h2 hk
  obtain ⟨k, rfl⟩ : ∃ m, k = m + 1 := ⟨k - 1, by omega⟩
  rw [impl_ofSigns.l0, if_neg (by omega), List.take_of_length_le (by rw [z3]; omega), z9, z61, impl_signsOf.f, if_pos (by omega), Option.bind_some, if_pos (by rw [ByteArray.toList_eq, ByteArray.toList_eq, ht]), if_neg (by rw [z0, List.length_map, z3]; omega)]
 | succ d ih =>
  intro i k h1 h2 hk
  by_cases c : 3 * i < s.size
  ·obtain ⟨g, hg⟩ : ∃ g, g = (s.data.toList.drop (3 * i)).take 3 := ⟨_, rfl⟩
   have gl : g.length = min 3 (s.size - 3 * i) := by rw [hg, List.length_take, List.length_drop, z3]
   obtain ⟨k, rfl⟩ : ∃ m, k = m + g.length + 7 := ⟨k - 7 - g.length, by omega⟩
   have hw : wrap64 (((4 * i : Nat) : Int) + 4) = ((4 * (i + 1) : Nat) : Int) := by rw [w64 (by omega) (by omega)]; omega
   have hx : (t.extract (4 * i) (4 * (i + 1))).data.toList = sg_quad g := by
    simp only [ByteArray.data_extract, Array.toList_extract, List.extract_eq_take_drop]
    rw [ht, z52, sg_of_cons _ (fun e => by have := congrArg List.length e; rw [List.length_drop, z3, List.length_nil] at this; omega), ← hg, show 4 * (i + 1) - 4 * i = (sg_quad g).length by rw [sg_quad_len]; omega, List.take_left']
    rfl
   have hxs : (t.extract (4 * i) (4 * (i + 1))).size = 4 := by rw [← z3, hx]; rfl
   obtain ⟨u, hu⟩ : ∃ u : ByteArray, u = ⟨((sg_quad g).take (g.length + 1)).toArray⟩ := ⟨_, rfl⟩
   have hut : u.data.toList = (sg_quad g).take (g.length + 1) := by rw [hu]
   have us : u.size = g.length + 1 := by rw [← z3, hut, List.length_take, sg_quad_len]; omega
   have e1 : impl_ofSigns.l0 (k + g.length + 7) t (z0 (s.data.toList.take (3 * i))) ((4 * i : Nat) : Int) = impl_ofSigns.l1 (k + g.length + 2 + 4) t (z0 (s.data.toList.take (3 * i))) ((4 * i : Nat) : Int) u (sg_n g 0 : Int) ((0 : Nat) : Int) := by
    rw [impl_ofSigns.l0, if_pos (by omega), if_pos (by omega), hw, if_pos (by omega), if_pos (by omega), Int.toNat_natCast, Int.toNat_natCast, os_trim _ (by omega), Option.bind_some, hx, sg_trim g (by omega), ← hu, sg_n0]
    rfl
   rw [e1, z54 t _ _ u g (by omega) (by omega) hut 4 0 rfl (k + g.length + 2), show k + g.length + 2 = (k + g.length + 1) + 1 from rfl, impl_ofSigns.l1, if_neg (by decide), if_neg (by omega), us, sg_n4,
    show wrap64 (((g.length + 1 : Nat) : Int) - 1) = (g.length : Int) by rw [w64 (by omega) (by omega)]; omega]
   have p := os_put t ((4 * i : Nat) : Int) g (by omega) (z0 (s.data.toList.take (3 * i))) (by rw [z0, List.length_map, List.length_take, z3]; omega) g.length 0 (by omega) k
   simp only [List.take_zero] at p
   rw [show z0 ([] : List UInt8) = [] from rfl, List.append_nil] at p
   refine p.trans ?_
   have e2 : z0 (s.data.toList.take (3 * i)) ++ z0 g = z0 (s.data.toList.take (3 * (i + 1))) := by
    rw [hg, z0, z0, z0, ← List.map_append, show 3 * (i + 1) = 3 * i + 3 by omega, List.take_add]
   rw [e2, hw]
   exact ih (i + 1) k (by omega) (by omega) (by omega)
  ·obtain ⟨k, rfl⟩ : ∃ m, k = m + 1 := ⟨k - 1, by omega⟩
   rw [impl_ofSigns.l0, if_neg (by omega), List.take_of_length_le (by rw [z3]; omega), z9, z61, impl_signsOf.f, if_pos (by omega), Option.bind_some, if_pos (by rw [ByteArray.toList_eq, ByteArray.toList_eq, ht]), if_neg (by rw [z0, List.length_map, z3]; omega)]
theorem os_of (s t : ByteArray) (hs : s.size ≤ 600) (ht : t.data.toList = sg_of s.data.toList) (k : Nat) (hk : 2100 ≤ k) : impl_ofSigns.f k t = some (s, true) := by
 have tl : t.size = 4 * ((s.size + 2) / 3) := by rw [← z3, ht, z32 _ _ (Nat.le_refl _), z3]
 obtain ⟨k, rfl⟩ : ∃ m, k = m + 1 := ⟨k - 1, by omega⟩
 unfold impl_ofSigns.f
 rw [if_pos (by omega), impl_ofSigns.j0, if_neg (by rw [decide_eq_true_eq]; omega)]
 exact os_back s t hs ht 200 0 k (by omega) (by omega) (by omega)
theorem z29 (a b : ByteArray) (h : a.data.toList = b.data.toList) : a = b := ByteArray.ext (Array.toList_inj.1 h)
theorem z18 (x : ByteArray) (i j : Nat) : (x.extract i j).data.toList = (x.data.toList.drop i).take (j - i) := by
 simp only [ByteArray.data_extract, Array.toList_extract, List.extract_eq_take_drop]
def z5 (cs : List ByteArray) : List UInt8 := cs.flatMap fun c => c.data.toList ++ [10]
theorem spq_seg (q : UInt8) (x : ByteArray) (hx : x.size ≤ 1100000) (a : Nat) (c rest : List UInt8) (h10 : q ∉ c) (hd : x.data.toList.drop a = c ++ q :: rest) : ∀ (d i : Nat), i + d = c.length → ∀ (acc : List ByteArray) (k : Nat), acc.length < 1100000 →
  spec_l3Split.l0 (k + d + 1) x (q.toNat : Int) acc (a : Int) ((a + i : Nat) : Int) = spec_l3Split.l0 k x (q.toNat : Int) (acc ++ [⟨c.toArray⟩]) ((a + c.length + 1 : Nat) : Int) ((a + c.length + 1 : Nat) : Int) := by
 have hl : x.size = a + c.length + 1 + rest.length := by
  have := congrArg List.length hd
  rw [List.length_drop, z3, List.length_append, List.length_cons] at this
  omega
 have get : ∀ i, x.data.toList.getD (a + i) 0 = (c ++ q :: rest).getD i 0 := fun i => by
  rw [← hd, List.getD_eq_getElem?_getD, List.getD_eq_getElem?_getD, List.getElem?_drop]
 intro d
 induction d with
 | zero =>
  intro i hi acc k ha
  obtain rfl : i = c.length := by omega
  have hw : wrap64 (((a + c.length : Nat) : Int) + 1) = ((a + c.length + 1 : Nat) : Int) := by rw [w64 (by omega) (by omega)]; omega
  have hb : bt x ((a + c.length : Nat) : Int) = (q.toNat : Int) := by
   rw [z15 x _ (by omega), get, List.getD_eq_getElem?_getD, List.getElem?_append_right (Nat.le_refl _), Nat.sub_self]
   rfl
  have he : x.extract a (a + c.length) = ⟨c.toArray⟩ := z29 _ _ (by
   rw [z18, hd, show a + c.length - a = c.length by omega, List.take_left']; rfl)
  rw [spec_l3Split.l0, if_pos (by omega), if_pos (by omega), if_pos hb, if_pos (by omega), if_pos (by omega), if_pos (by omega), if_pos (by omega), hw, Int.toNat_natCast, Int.toNat_natCast, he]
 | succ d ih =>
  intro i hi acc k ha
  have hw : wrap64 (((a + i : Nat) : Int) + 1) = ((a + (i + 1) : Nat) : Int) := by rw [w64 (by omega) (by omega)]; omega
  have hb : ¬ bt x ((a + i : Nat) : Int) = (q.toNat : Int) := by
   rw [z15 x _ (by omega), get, List.getD_eq_getElem?_getD, List.getElem?_append_left (by omega), List.getElem?_eq_getElem (by omega)]
   intro e
   have e' : ((c[i].toNat : Nat) : Int) = (q.toNat : Int) := e
   have : c[i].toNat = q.toNat := by omega
   have h2 : c[i] = q := UInt8.toNat_inj.1 this
   exact h10 (h2 ▸ List.getElem_mem _)
  rw [show k + (d + 1) + 1 = (k + d + 1) + 1 from rfl, spec_l3Split.l0, if_pos (by omega), if_pos (by omega), if_neg hb, hw]
  exact ih (i + 1) (by omega) acc k ha
theorem spq_end (q : UInt8) (x : ByteArray) (hx : x.size ≤ 1100000) (a : Nat) (ha : a ≤ x.size) (h10 : q ∉ x.data.toList.drop a) : ∀ (d i : Nat), i + d = x.size → a ≤ i → ∀ (acc : List ByteArray) (k : Nat), acc.length < 1100000 → d + 1 ≤ k →
  spec_l3Split.l0 k x (q.toNat : Int) acc (a : Int) (i : Int) = some (acc ++ [⟨(x.data.toList.drop a).toArray⟩])
 | 0, i, hd, hi, acc, k, hl, hk => by
  obtain ⟨k, rfl⟩ : ∃ m, k = m + 1 := ⟨k - 1, by omega⟩
  have he : x.extract a x.size = ⟨(x.data.toList.drop a).toArray⟩ := z29 _ _ (by
   rw [z18, List.take_of_length_le]
   rw [List.length_drop, z3]; exact Nat.le_refl _)
  rw [spec_l3Split.l0, if_neg (by omega), if_pos (by omega), if_pos (by omega), if_pos (by omega), Int.toNat_natCast, he]
 | d + 1, i, hd, hi, acc, k, hl, hk => by
  obtain ⟨k, rfl⟩ : ∃ m, k = m + 1 := ⟨k - 1, by omega⟩
  have hw : wrap64 ((i : Int) + 1) = ((i + 1 : Nat) : Int) := by rw [w64 (by omega) (by omega)]; omega
  have hlt : i < x.data.toList.length := by rw [z3]; omega
  have hb : ¬ bt x (i : Int) = (q.toNat : Int) := by
   rw [z15 x _ (by omega), List.getD_eq_getElem?_getD, List.getElem?_eq_getElem hlt]
   intro e
   have e' : ((x.data.toList[i].toNat : Nat) : Int) = (q.toNat : Int) := e
   have h2 : x.data.toList[i] = q := UInt8.toNat_inj.1 (by omega)
   refine h10 (h2 ▸ ?_)
   rw [List.mem_drop_iff_getElem]
   exact ⟨i - a, by omega, by congr 1; omega⟩
  rw [spec_l3Split.l0, if_pos (by omega), if_pos (by omega), if_neg hb, hw]
  exact spq_end q x hx a ha h10 d (i + 1) (by omega) (by omega) acc k hl (by omega)
theorem z23 (q : UInt8) (x : ByteArray) (hx : x.size ≤ 1100000) : ∀ (d i a : Nat) (acc : List ByteArray) (k : Nat), i + d = x.size → a ≤ i → d + 1 ≤ k → acc.length ≤ i →
  ∃ r : List ByteArray, spec_l3Split.l0 k x (q.toNat : Int) acc (a : Int) (i : Int) = some r ∧ r.length ≤ x.size + 1 ∧ (r.flatMap fun c => c.data.toList).length ≤ (acc.flatMap fun c => c.data.toList).length + (x.size - a)
 | 0, i, a, acc, k, hd, ha, hk, hl => by
  obtain ⟨k, rfl⟩ : ∃ m, k = m + 1 := ⟨k - 1, by omega⟩
  rw [spec_l3Split.l0, if_neg (by omega), if_pos (by omega), if_pos (by omega), if_pos (by omega), Int.toNat_natCast]
  refine ⟨_, rfl, by rw [List.length_append]; simp only [List.length_cons, List.length_nil]; omega, ?_⟩
  rw [List.flatMap_append, List.length_append, List.flatMap_cons, List.flatMap_nil, List.append_nil, z3, ByteArray.size_extract]
  omega
 | d + 1, i, a, acc, k, hd, ha, hk, hl => by
  obtain ⟨k, rfl⟩ : ∃ m, k = m + 1 := ⟨k - 1, by omega⟩
  have hw : wrap64 ((i : Int) + 1) = ((i + 1 : Nat) : Int) := by rw [w64 (by omega) (by omega)]; omega
  rw [spec_l3Split.l0, if_pos (by omega), if_pos (by omega)]
  by_cases c : bt x (i : Int) = (q.toNat : Int)
  ·rw [if_pos c, if_pos (by omega), if_pos (by omega), if_pos (by omega), if_pos (by omega), hw, Int.toNat_natCast, Int.toNat_natCast]
   obtain ⟨r, r1, r2, r3⟩ := z23 q x hx d (i + 1) (i + 1) (acc ++ [x.extract a i]) k (by omega) (by omega) (by omega) (by rw [List.length_append]; simp only [List.length_cons, List.length_nil]; omega)
   refine ⟨r, r1, r2, Nat.le_trans r3 ?_⟩
   rw [List.flatMap_append, List.length_append, List.flatMap_cons, List.flatMap_nil, List.append_nil, z3, ByteArray.size_extract]
   omega
  ·rw [if_neg c, hw]
   exact z23 q x hx d (i + 1) a acc k (by omega) (by omega) (by omega) (by omega)
theorem sp_seg (x : ByteArray) (hx : x.size ≤ 1000000) (a : Nat) (c rest : List UInt8) (h10 : (10 : UInt8) ∉ c) (hd : x.data.toList.drop a = c ++ 10 :: rest) : ∀ (d i : Nat), i + d = c.length → ∀ (acc : List ByteArray) (k : Nat), acc.length < 1000000 →
  spec_l3Split.l0 (k + d + 1) x 10 acc (a : Int) ((a + i : Nat) : Int) = spec_l3Split.l0 k x 10 (acc ++ [⟨c.toArray⟩]) ((a + c.length + 1 : Nat) : Int) ((a + c.length + 1 : Nat) : Int) := by
 have hl : x.size = a + c.length + 1 + rest.length := by
  have := congrArg List.length hd
  rw [List.length_drop, z3, List.length_append, List.length_cons] at this
  omega
 have get : ∀ i, x.data.toList.getD (a + i) 0 = (c ++ 10 :: rest).getD i 0 := fun i => by
  rw [← hd, List.getD_eq_getElem?_getD, List.getD_eq_getElem?_getD, List.getElem?_drop]
 intro d
 induction d with
 | zero =>
  intro i hi acc k ha
  obtain rfl : i = c.length := by omega
  have hw : wrap64 (((a + c.length : Nat) : Int) + 1) = ((a + c.length + 1 : Nat) : Int) := by rw [w64 (by omega) (by omega)]; omega
  have hb : bt x ((a + c.length : Nat) : Int) = 10 := by
   rw [z15 x _ (by omega), get, List.getD_eq_getElem?_getD, List.getElem?_append_right (Nat.le_refl _), Nat.sub_self]
   rfl
  have he : x.extract a (a + c.length) = ⟨c.toArray⟩ := z29 _ _ (by
   rw [z18, hd, show a + c.length - a = c.length by omega, List.take_left']; rfl)
  rw [spec_l3Split.l0, if_pos (by omega), if_pos (by omega), if_pos hb, if_pos (by omega), if_pos (by omega), if_pos (by omega), if_pos (by omega), hw, Int.toNat_natCast, Int.toNat_natCast, he]
 | succ d ih =>
  intro i hi acc k ha
  have hw : wrap64 (((a + i : Nat) : Int) + 1) = ((a + (i + 1) : Nat) : Int) := by rw [w64 (by omega) (by omega)]; omega
  have hb : ¬ bt x ((a + i : Nat) : Int) = 10 := by
   rw [z15 x _ (by omega), get, List.getD_eq_getElem?_getD, List.getElem?_append_left (by omega), List.getElem?_eq_getElem (by omega)]
   intro e
   have e' : ((c[i].toNat : Nat) : Int) = 10 := e
   have : c[i].toNat = 10 := by omega
   have h2 : c[i] = 10 := UInt8.toNat_inj.1 this
   exact h10 (h2 ▸ List.getElem_mem _)
  rw [show k + (d + 1) + 1 = (k + d + 1) + 1 from rfl, spec_l3Split.l0, if_pos (by omega), if_pos (by omega), if_neg hb, hw]
  exact ih (i + 1) (by omega) acc k ha
theorem sp_last (x : ByteArray) (hx : x.size ≤ 1000000) (acc : List ByteArray) (ha : acc.length < 1000000) (k : Nat) (hk : 1 ≤ k) :
  spec_l3Split.l0 k x 10 acc (x.size : Int) (x.size : Int) = some (acc ++ [⟨#[]⟩]) := by
 obtain ⟨k, rfl⟩ : ∃ m, k = m + 1 := ⟨k - 1, by omega⟩
 have he : x.extract x.size x.size = ⟨#[]⟩ := z29 _ _ (by rw [z18, Nat.sub_self]; rfl)
 rw [spec_l3Split.l0, if_neg (by omega), if_pos (by omega), if_pos (by omega), if_pos (by omega), Int.toNat_natCast, he]
theorem sp_all (x : ByteArray) (hx : x.size ≤ 1000000) : ∀ (cs : List ByteArray) (a : Nat) (acc : List ByteArray) (k : Nat), (∀ c ∈ cs, (10 : UInt8) ∉ c.data.toList) → x.data.toList.drop a = z5 cs → a ≤ x.size → x.size - a + 1 ≤ k → acc.length + cs.length < 1000000 →
  spec_l3Split.l0 k x 10 acc (a : Int) (a : Int) = some (acc ++ cs ++ [⟨#[]⟩])
 | [], a, acc, k, hc, hd, ha, hk, hl => by
  have : a = x.size := by
   have := congrArg List.length hd
   rw [List.length_drop, z3] at this
   simp only [z5, List.flatMap_nil, List.length_nil] at this
   omega
  subst this
  rw [sp_last x hx acc (by simpa using hl) k (by omega), List.append_nil]
 | c :: cs, a, acc, k, hc, hd, ha, hk, hl => by
  have e : z5 (c :: cs) = c.data.toList ++ 10 :: z5 cs := by rw [z5, List.flatMap_cons]; simp [z5]
  rw [e] at hd
  have hlen : x.size = a + c.data.toList.length + 1 + (z5 cs).length := by
   have := congrArg List.length hd
   rw [List.length_drop, z3, List.length_append, List.length_cons] at this
   omega
  rw [List.length_cons] at hl
  obtain ⟨j, hj⟩ : ∃ j, k = j + c.data.toList.length + 1 := ⟨k - 1 - c.data.toList.length, by omega⟩
  have s1 := sp_seg x hx a c.data.toList (z5 cs) (hc c (List.mem_cons_self ..)) hd c.data.toList.length 0 (by omega) acc j (by omega)
  have s2 : spec_l3Split.l0 (j + c.data.toList.length + 1) x 10 acc (a : Int) (a : Int) = spec_l3Split.l0 j x 10 (acc ++ [⟨c.data.toList.toArray⟩]) ((a + c.data.toList.length + 1 : Nat) : Int) ((a + c.data.toList.length + 1 : Nat) : Int) := s1
  have hd2 : x.data.toList.drop (a + c.data.toList.length + 1) = z5 cs := by
   rw [Nat.add_assoc, ← List.drop_drop, hd, show c.data.toList ++ 10 :: z5 cs = (c.data.toList ++ [10]) ++ z5 cs by simp, show c.data.toList.length + 1 = (c.data.toList ++ [10]).length by simp, List.drop_left]
  rw [hj, s2, z61, sp_all x hx cs _ _ j (fun d hd => hc d (List.mem_cons_of_mem _ hd)) hd2 (by omega) (by omega) (by rw [List.length_append]; simp only [List.length_cons, List.length_nil]; omega)]
  simp
theorem sp_split (x : ByteArray) (hx : x.size ≤ 1000000) (cs : List ByteArray) (hc : ∀ c ∈ cs, (10 : UInt8) ∉ c.data.toList) (hd : x.data.toList = z5 cs) (k : Nat) (hk : x.size + 1 ≤ k) (hl : cs.length < 1000000) :
  spec_l3Split.f k x 10 = some (cs ++ [⟨#[]⟩]) := by
 have := sp_all x hx cs 0 [] k hc hd (by omega) (by omega) (by simpa using hl)
 simpa [spec_l3Split.f] using this
theorem z36 (x : ByteArray) (hx : x.size ≤ 1100000) : ∀ (d i a : Nat) (acc : List ByteArray) (k : Nat), i + d = x.size → a ≤ i → d + 1 ≤ k → acc.length ≤ i →
  ∃ r : List ByteArray, spec_l3Split.l0 k x 10 acc (a : Int) (i : Int) = some r ∧ r.length ≤ x.size + 1 ∧ (r.flatMap fun c => c.data.toList).length ≤ (acc.flatMap fun c => c.data.toList).length + (x.size - a)
 | 0, i, a, acc, k, hd, ha, hk, hl => by
  obtain ⟨k, rfl⟩ : ∃ m, k = m + 1 := ⟨k - 1, by omega⟩
  rw [spec_l3Split.l0, if_neg (by omega), if_pos (by omega), if_pos (by omega), if_pos (by omega), Int.toNat_natCast]
  refine ⟨_, rfl, by rw [List.length_append]; simp only [List.length_cons, List.length_nil]; omega, ?_⟩
  rw [List.flatMap_append, List.length_append, List.flatMap_cons, List.flatMap_nil, List.append_nil, z3, ByteArray.size_extract]
  omega
 | d + 1, i, a, acc, k, hd, ha, hk, hl => by
  obtain ⟨k, rfl⟩ : ∃ m, k = m + 1 := ⟨k - 1, by omega⟩
  have hw : wrap64 ((i : Int) + 1) = ((i + 1 : Nat) : Int) := by rw [w64 (by omega) (by omega)]; omega
  rw [spec_l3Split.l0, if_pos (by omega), if_pos (by omega)]
  by_cases c : bt x (i : Int) = 10
  ·rw [if_pos c, if_pos (by omega), if_pos (by omega), if_pos (by omega), if_pos (by omega), hw, Int.toNat_natCast, Int.toNat_natCast]
   obtain ⟨r, r1, r2, r3⟩ := z36 x hx d (i + 1) (i + 1) (acc ++ [x.extract a i]) k (by omega) (by omega) (by omega) (by rw [List.length_append]; simp only [List.length_cons, List.length_nil]; omega)
   refine ⟨r, r1, r2, Nat.le_trans r3 ?_⟩
   rw [List.flatMap_append, List.length_append, List.flatMap_cons, List.flatMap_nil, List.append_nil, z3, ByteArray.size_extract]
   omega
  ·rw [if_neg c, hw]
   exact z36 x hx d (i + 1) a acc k (by omega) (by omega) (by omega) (by omega)
theorem idx10 : ∀ (c r : List UInt8), (10 : UInt8) ∉ c → Lib.indexByte (c ++ 10 :: r) 10 = (c.length : Int)
 | [], r, _ => by simp [Lib.indexByte]
 | b :: c, r, h => by
  have hb : (b == 10) = false := by
   rw [beq_eq_false_iff_ne]
   intro e
   exact h (e ▸ List.mem_cons_self ..)
  have ih := idx10 c r (fun q => h (List.mem_cons_of_mem _ q))
  rw [List.cons_append, Lib.indexByte, hb, ih]
  have : ((c.length : Int) == -1) = false := by rw [beq_eq_false_iff_ne]; omega
  rw [this]
  simp
theorem z25 : ∀ (cs : List ByteArray) (s : ByteArray), (∀ c ∈ cs, (10 : UInt8) ∉ c.data.toList) → s.data.toList = z5 cs → Lib.splitB ⟨#[10]⟩ 0 (Lib.countB s ⟨#[10]⟩) s = cs ++ [⟨#[]⟩]
 | [], s, _, hd => by
  have e : s = ⟨#[]⟩ := z29 _ _ hd
  subst e
  rfl
 | c :: cs, s, hc, hd => by
  have e : z5 (c :: cs) = c.data.toList ++ 10 :: z5 cs := by rw [z5, List.flatMap_cons]; simp [z5]
  rw [e] at hd
  have hi : Lib.indexB s ⟨#[10]⟩ = ((c.size : Nat) : Int) := by
   show Lib.index s.data.toList [10] = _
   rw [Lib.index_one, hd, idx10 _ _ (hc c (List.mem_cons_self ..)), z3]
  have hl : s.size = c.size + 1 + (z5 cs).length := by
   have := congrArg List.length hd
   rw [z3, List.length_append, List.length_cons, z3] at this
   omega
  have h1 : s.extract 0 (c.size + 0) = c := z29 _ _ (by rw [z18, hd, List.drop_zero, Nat.sub_zero, Nat.add_zero, ← z3, List.take_left])
  have h2 : (s.extract (c.size + 1) s.size).data.toList = z5 cs := by
   rw [z18, hd, show c.data.toList ++ 10 :: z5 cs = (c.data.toList ++ [10]) ++ z5 cs by simp, show c.size + 1 = (c.data.toList ++ [10]).length by simp [z3], List.drop_left, List.take_of_length_le]
   rw [List.length_append, z3]; simp; omega
  rw [Lib.countB_hit s ⟨#[10]⟩ c.size (by decide) hi, Nat.add_comm, Lib.splitB_hit _ _ _ _ _ hi, h1, show c.size + (⟨#[10]⟩ : ByteArray).size = c.size + 1 from rfl, z25 cs _ (fun d hd => hc d (List.mem_cons_of_mem _ hd)) h2]
  rfl
theorem z24 (sep : ByteArray) : ∀ (n : Nat) (s : ByteArray), ∀ c ∈ Lib.splitB sep 0 n s, c.size ≤ s.size
 | 0, s, c, h => by
  rw [Lib.splitB] at h
  rw [List.mem_singleton.1 h]
  exact Nat.le_refl _
 | n + 1, s, c, h => by
  unfold Lib.splitB at h
  split at h
  ·rw [List.mem_singleton.1 h]; exact Nat.le_refl _
  ·rcases List.mem_cons.1 h with h | h
   ·rw [h, ByteArray.size_extract]; omega
   ·have := z24 sep n _ c h
    rw [ByteArray.size_extract] at this
    omega
theorem ba_app (a b : List UInt8) : (⟨a.toArray⟩ : ByteArray) ++ ⟨b.toArray⟩ = ⟨(a ++ b).toArray⟩ := by apply ByteArray.ext; simp
theorem z13 (a : List UInt8) : (⟨a.toArray⟩ : ByteArray).size = a.length := by simp [ByteArray.size]
theorem num_one (x : Int) (n : Nat) (h : x = n) (hn : n < 10) : strOfNums [(wrap64 (48 + x)) % 256] = ⟨[UInt8.ofNat (48 + n)].toArray⟩ := by
 subst h
 rw [w64 (by omega) (by omega)]
 have e : ((48 + (n : Int)) % 256).toNat = 48 + n := by omega
 simp only [strOfNums, List.map_cons, List.map_nil, e]
theorem z12 (n : Nat) : (Lib.decDigits n).length ≤ n + 1 := by
 induction n using Nat.strongRecOn with
 | _ n ih =>
  rw [Lib.decDigits]
  by_cases h : n < 10
  ·rw [dif_pos h]; simp
  ·rw [dif_neg h]
   have := ih (n / 10) (by omega)
   simp only [List.length_append, List.length_cons, List.length_nil]
   omega
theorem l1Num_eq (k : Nat) : ∀ n : Nat, n < k → (n : Int) < 4611686018427387904 → spec_l1Num.f k (n : Int) = some ⟨(Lib.decDigits n).toArray⟩ := by
 induction k with
 | zero => intro n h; omega
 | succ k ih =>
  intro n h hb
  rw [spec_l1Num.f]
  by_cases h10 : n < 10
  ·rw [if_pos (by omega), num_one n n rfl h10, Lib.decDigits, dif_pos h10]
  ·have e1 : Int.tdiv (n : Int) 10 = ((n / 10 : Nat) : Int) := rfl
   have e2 : Int.tmod (n : Int) 10 = ((n % 10 : Nat) : Int) := rfl
   rw [if_neg (by omega), e1, e2, w64 (n := ((n / 10 : Nat) : Int)) (by omega) (by omega), ih (n / 10) (by omega) (by omega)]
   simp only [Option.bind_some]
   have := z12 (n / 10)
   rw [num_one _ (n % 10) rfl (by omega), if_pos (by rw [z13, z13]; simp only [List.length_cons, List.length_nil]; omega), Lib.decDigits.eq_def n, dif_neg h10, ba_app]
theorem itoa_nat (n : Nat) : Lib.itoa (n : Int) = Lib.decDigits n := by
 unfold Lib.itoa
 rw [if_neg (by omega)]
 rfl
theorem z39 (k n : Nat) (hk : n < k) (hb : (n : Int) < 4611686018427387904) : spec_l1Num.f k (n : Int) = some ⟨(Lib.decDigits n).toArray⟩ ∧ strconv_Itoa.f (n : Int) = some ⟨(Lib.decDigits n).toArray⟩ :=
 ⟨l1Num_eq k n hk hb, by unfold strconv_Itoa.f; rw [if_pos (by omega), itoa_nat]⟩
theorem pu_app : ∀ (l1 : List UInt8) (acc m : Nat) (l2 : List UInt8), Lib.parseUint10 acc l1 = .ok m → Lib.parseUint10 acc (l1 ++ l2) = Lib.parseUint10 m l2
 | [], acc, m, l2, h => by
  simp only [Lib.parseUint10] at h
  injection h with h
  subst h
  rfl
 | c :: r, acc, m, l2, h => by
  rw [List.cons_append]
  simp only [Lib.parseUint10] at h ⊢
  by_cases h1 : 48 ≤ c.toNat ∧ c.toNat ≤ 57
  ·rw [if_pos h1] at h ⊢
   by_cases h2 : 1844674407370955162 ≤ acc
   ·rw [if_pos h2] at h; cases h
   ·rw [if_neg h2] at h ⊢
    by_cases h3 : 18446744073709551616 ≤ acc * 10 + (c.toNat - 48)
    ·rw [if_pos h3] at h; cases h
    ·rw [if_neg h3] at h ⊢
     exact pu_app r _ m l2 h
  ·rw [if_neg h1] at h; cases h
theorem z19 (d : Nat) (h : d < 10) : (UInt8.ofNat (48 + d)).toNat = 48 + d := by rw [UInt8.toNat_ofNat_of_lt' (by show _ < 256; omega)]
theorem pu_dec (n : Nat) (h : n < 1000000000000) : Lib.parseUint10 0 (Lib.decDigits n) = .ok n := by
 induction n using Nat.strongRecOn with
 | _ n ih =>
  rw [Lib.decDigits]
  by_cases h1 : n < 10
  ·rw [dif_pos h1]
   simp only [Lib.parseUint10, z19 n h1]
   rw [if_pos (by omega), if_neg (by omega), if_neg (by omega)]
   congr 1; omega
  ·rw [dif_neg h1, pu_app _ _ _ _ (ih (n / 10) (by omega) (by omega))]
   simp only [Lib.parseUint10, z19 (n % 10) (by omega)]
   rw [if_pos (by omega), if_neg (by omega), if_neg (by omega)]
   congr 1; omega
theorem z41 (n : Nat) : ∀ b ∈ Lib.decDigits n, 48 ≤ b.toNat ∧ b.toNat ≤ 57 := by
 induction n using Nat.strongRecOn with
 | _ n ih =>
  rw [Lib.decDigits]
  by_cases h1 : n < 10
  ·rw [dif_pos h1]
   intro b hb
   rw [List.mem_singleton.1 hb, z19 n h1]; omega
  ·rw [dif_neg h1]
   intro b hb
   rcases List.mem_append.1 hb with hb | hb
   ·exact ih (n / 10) (by omega) b hb
   ·rw [List.mem_singleton.1 hb, z19 (n % 10) (by omega)]; omega
theorem z34 (n : Nat) : Lib.decDigits n ≠ [] := by
 rw [Lib.decDigits]
 by_cases h1 : n < 10
 ·rw [dif_pos h1]; simp
 ·rw [dif_neg h1]; simp
theorem dec_head (n : Nat) (h : 1 ≤ n) : (Lib.decDigits n).getD 0 0 ≠ 48 := by
 induction n using Nat.strongRecOn with
 | _ n ih =>
  rw [Lib.decDigits]
  by_cases h1 : n < 10
  ·rw [dif_pos h1]
   intro e
   have := congrArg UInt8.toNat e
   rw [show [UInt8.ofNat (48 + n)].getD 0 0 = UInt8.ofNat (48 + n) from rfl, z19 n h1] at this
   have h48 : (48 : UInt8).toNat = 48 := rfl
   omega
  ·rw [dif_neg h1]
   have := ih (n / 10) (by omega) (by omega)
   have hne := z34 (n / 10)
   have hl : 0 < (Lib.decDigits (n / 10)).length := List.length_pos_iff.2 hne
   rw [List.getD_eq_getElem?_getD, List.getElem?_append_left hl, ← List.getD_eq_getElem?_getD]
   exact this
theorem z47 : ∀ (k n : Nat), 1 ≤ k → n < 10 ^ k → (Lib.decDigits n).length ≤ k
 | 0, n, hk, _ => by omega
 | k + 1, n, hk, h => by
  rw [Lib.decDigits]
  by_cases h1 : n < 10
  ·rw [dif_pos h1]; simp
  ·rw [dif_neg h1, List.length_append]
   have : 1 ≤ k := by
    rcases Nat.eq_zero_or_pos k with e | e
    ·subst e; simp at h; omega
    ·exact e
   have := z47 k (n / 10) this (by rw [Nat.pow_succ] at h; omega)
   simp only [List.length_cons, List.length_nil]; omega
theorem z62 (n : Nat) (h : n < 1000000000000) : Lib.atoiAll (Lib.decDigits n) = .ok (n : Int) := by
 have hp := pu_dec n h
 have hd := z41 n
 cases hl : Lib.decDigits n with
 | nil => exact absurd hl (z34 n)
 | cons c r =>
  rw [hl] at hp hd
  have hc := hd c (List.mem_cons_self ..)
  unfold Lib.atoiAll
  simp only
  rw [if_neg (by omega)]
  unfold Lib.parseMag
  rw [if_neg (by simp), hp]
  simp only
  rw [if_neg (by omega), if_neg (by omega), if_neg (by omega)]
def z56 (acc : Nat) (l : List UInt8) : Nat := l.foldl (fun a b => 10 * a + (b.toNat - 48)) acc
theorem dfold_dec (n : Nat) : z56 0 (Lib.decDigits n) = n := by
 induction n using Nat.strongRecOn with
 | _ n ih =>
  rw [Lib.decDigits]
  by_cases h1 : n < 10
  ·rw [dif_pos h1]
   simp only [z56, List.foldl_cons, List.foldl_nil, z19 n h1]; omega
  ·rw [dif_neg h1]
   have := ih (n / 10) (by omega)
   unfold z56 at this ⊢
   rw [List.foldl_append, this]
   simp only [List.foldl_cons, List.foldl_nil, z19 (n % 10) (by omega)]; omega
theorem origin_l0 (s : ByteArray) (hs : s.size ≤ 140737488351232) (d : Nat) : ∀ (k : Nat) (i : Int), 0 ≤ i → i ≤ s.size → (s.size : Int) - i = d → d < k →
  ∃ r : Bool, spec_l14Origin.l0 k s i = some r ∧ impl_isOrigin.l0 k s (s.size : Int) i = some r := by
 induction d with
 | zero =>
  intro k i h0 hi hd hk
  obtain ⟨k, rfl⟩ : ∃ m, k = m + 1 := ⟨k - 1, by omega⟩
  simp only [spec_l14Origin.l0, impl_isOrigin.l0]
  rw [if_neg (by omega), if_neg (by omega)]
  unfold spec_l1In.f impl_within.f
  by_cases h : (s.size : Int) ≥ 1
  ·simp only [h, if_true, Option.bind_some]; exact ⟨_, rfl, rfl⟩
  ·simp only [h, if_false, Option.bind_some]; exact ⟨_, rfl, rfl⟩
 | succ d ih =>
  intro k i h0 hi hd hk
  obtain ⟨k, rfl⟩ : ∃ m, k = m + 1 := ⟨k - 1, by omega⟩
  simp only [spec_l14Origin.l0, impl_isOrigin.l0]
  have hlt : i < (s.size : Int) := by omega
  simp only [if_pos hlt, if_pos h0]
  rw [w64 (by omega) (by omega)]
  by_cases ha : bt s i < 97
  ·simp only [ha, if_true]; exact ⟨_, rfl, rfl⟩
  ·by_cases hb : bt s i > 122
   ·simp only [ha, hb, if_true, if_false]; exact ⟨_, rfl, rfl⟩
   ·simp only [ha, hb, if_false]
    exact ih k (i + 1) (by omega) (by omega) (by omega) (by omega)
theorem z10 (s : ByteArray) (n : Int) (r : ByteArray) (hs : s.size ≤ 140737488351232) (k : Nat) (hk : s.size < k) :
  ∃ b : Bool, spec_GoodHead.f k s n r = some b ∧ impl_isHead.f k s n r = some b ∧ (b = true → 0 ≤ n ∧ n ≤ 1000000 ∧ r.size = 32) := by
 obtain ⟨b, h1, h2⟩ := origin_l0 s hs s.size k 0 (by omega) (by omega) (by omega) hk
 have h1' : spec_l14Origin.f k s = some b := h1
 have h2' : impl_isOrigin.f k s = some b := h2
 unfold spec_GoodHead.f impl_isHead.f
 rw [h1', h2']
 unfold spec_l1In.f impl_within.f impl_isDigest.f
 cases b with
 | false => exact ⟨false, rfl, rfl, fun h => by cases h⟩
 | true =>
  simp only [Option.bind_some, if_true]
  by_cases h : n ≥ 0
  ·by_cases h' : n ≤ 1000000
   ·simp only [h, h', if_true, Option.bind_some, decide_true]
    refine ⟨_, rfl, rfl, fun e => ⟨trivial, trivial, ?_⟩⟩
    have := eq_of_beq e
    omega
   ·simp only [h, h', if_true, Option.bind_some, decide_false, Bool.false_eq_true, if_false]
    exact ⟨_, rfl, rfl, fun e => by cases e⟩
  ·simp only [h, if_false, Option.bind_some, Bool.false_eq_true]
   exact ⟨_, rfl, rfl, fun e => by cases e⟩
theorem z45 : (⟨#[10]⟩ : ByteArray).size = 1 := rfl
theorem sign_at : ∀ c : Fin 256, spec_l3Sign.f 65 (c.val : Int) = some (Lib.indexByte sg_alpha (UInt8.ofNat c.val)) := by decide +kernel
theorem up_mono {α : Type} (f : Nat → Option α) (hf : ∀ k, LeO (f k) (f (k + 1))) (k0 : Nat) (r : α) (h : f k0 = some r) : ∀ d, f (k0 + d) = some r
 | 0 => h
 | d + 1 => hf (k0 + d) r (up_mono f hf k0 r h d)
theorem up_to {α : Type} (f : Nat → Option α) (hf : ∀ k, LeO (f k) (f (k + 1))) (k0 k : Nat) (hk : k0 ≤ k) (r : α) (h : f k0 = some r) : f k = some r := by
 have := up_mono f hf k0 r h (k - k0)
 rw [Nat.add_sub_cancel' hk] at this
 exact this
theorem sign_at' (n : Nat) (h : n < 256) : spec_l3Sign.f 65 (n : Int) = some (Lib.indexByte sg_alpha (UInt8.ofNat n)) := sign_at ⟨n, h⟩
theorem l3Sign_eq (b : UInt8) (k : Nat) (hk : 65 ≤ k) : spec_l3Sign.f k (b.toNat : Int) = some (Lib.indexByte sg_alpha b) := by
 have h := sign_at' b.toNat (UInt8.toNat_lt b)
 rw [UInt8.ofNat_toNat] at h
 exact up_to (fun k => spec_l3Sign.f k (b.toNat : Int)) (fun k => spec_l3Sign.mono _ k) 65 k hk _ h
theorem so_step (k : Nat) (t : ByteArray) (out : List Int) (a : Nat) (n m : Int) (i : Nat) (hi : i < 4) (hk : 65 ≤ k) (ha : a + i < t.size) (ht : t.size ≤ 4000) :
  spec_l3Of.l1 (k + 1) t out (a : Int) n m (i : Int) = if Lib.indexByte sg_alpha (t.data.toList.getD (a + i) 0) ≥ 0 then
   spec_l3Of.l1 k t out (a : Int) (Go.bits .or .i64 (wrap64 (n * 64)) (Lib.indexByte sg_alpha (t.data.toList.getD (a + i) 0))) (wrap64 (m + 1)) ((i + 1 : Nat) : Int) else
   spec_l3Of.l1 k t out (a : Int) (wrap64 (n * 64)) m ((i + 1 : Nat) : Int) := by
 have hw : wrap64 ((i : Int) + 1) = ((i + 1 : Nat) : Int) := by rw [w64 (by omega) (by omega)]; omega
 have hw2 : wrap64 ((a : Int) + (i : Int)) = ((a + i : Nat) : Int) := by rw [w64 (by omega) (by omega)]; omega
 rw [spec_l3Of.l1, if_pos (by omega), hw2, if_pos (by omega), if_pos (by omega), z15 t (a + i) ha, l3Sign_eq _ k hk, Option.bind_some, hw]
theorem so_l1 (t : ByteArray) (ht : t.size ≤ 4000) (out : List Int) (a : Nat) (ha : a + 4 ≤ t.size) (k : Nat) (hk : 65 ≤ k) : ∀ (d i : Nat), i + d = 4 → ∀ (n : Int) (m : Nat), m ≤ i →
  ∃ (n' : Int) (m' : Nat), m' ≤ 4 ∧ spec_l3Of.l1 (k + d) t out (a : Int) n (m : Int) (i : Int) = spec_l3Of.l1 k t out (a : Int) n' (m' : Int) 4
 | 0, i, h, n, m, hm => by obtain rfl : i = 4 := (by omega); exact ⟨n, m, hm, rfl⟩
 | d + 1, i, h, n, m, hm => by
  have hw : wrap64 ((m : Int) + 1) = ((m + 1 : Nat) : Int) := by rw [w64 (by omega) (by omega)]; omega
  rw [show k + (d + 1) = (k + d) + 1 from rfl, so_step (k + d) t out a n m i (by omega) (by omega) (by omega) ht]
  by_cases q : Lib.indexByte sg_alpha (t.data.toList.getD (a + i) 0) ≥ 0
  ·rw [if_pos q, hw]; exact so_l1 t ht out a ha k hk d (i + 1) (by omega) _ (m + 1) (by omega)
  ·rw [if_neg q]; exact so_l1 t ht out a ha k hk d (i + 1) (by omega) _ m (by omega)
theorem z57 (i : Nat) (hi : i ≤ 2) : IntKind.u64.wrap (wrap64 (16 - wrap64 (8 * (i : Int)))) = ((16 - 8 * i : Nat) : Int) := by
 rcases (by omega : i = 0 ∨ i = 1 ∨ i = 2) with rfl | rfl | rfl <;> decide +kernel
theorem so_l2 (t : ByteArray) (at_ n : Int) (m : Nat) (hm : m ≤ 4) : ∀ (d i : Nat), i + d = m - 1 → ∀ (out : List Int) (k : Nat), out.length + 3 < 140737488355328 + i →
  ∃ more : List Int, more.length = d ∧ spec_l3Of.l2 (k + d + 1) t out at_ n (m : Int) (i : Int) = spec_l3Of.l0 k t (out ++ more) (wrap64 (at_ + 4))
 | 0, i, h, out, k, ho => ⟨[], rfl, by rw [spec_l3Of.l2, w64 (n := (m : Int) - 1) (by omega) (by omega), if_neg (by omega), List.append_nil]⟩
 | d + 1, i, h, out, k, ho => by
  have hw : wrap64 ((i : Int) + 1) = ((i + 1 : Nat) : Int) := by rw [w64 (by omega) (by omega)]; omega
  obtain ⟨more, h1, h2⟩ := so_l2 t at_ n m hm d (i + 1) (by omega) (out ++ [(shr .i64 n ((16 - 8 * i : Nat) : Int)) % 256]) k (by rw [List.length_append]; simp only [List.length_cons, List.length_nil]; omega)
  refine ⟨(shr .i64 n ((16 - 8 * i : Nat) : Int)) % 256 :: more, by rw [List.length_cons, h1], ?_⟩
  rw [show k + (d + 1) + 1 = (k + d + 1) + 1 from rfl, spec_l3Of.l2, w64 (n := (m : Int) - 1) (by omega) (by omega), if_pos (by omega), z57 i (by omega), if_pos (by omega), if_pos (by omega), hw, h2, List.append_assoc]
  rfl
theorem ba_beq (a b : ByteArray) : (a.toList == b.toList) = true → a = b := fun h => by
 have := eq_of_beq h
 rw [ByteArray.toList_eq, ByteArray.toList_eq] at this
 exact ByteArray.ext (Array.toList_inj.1 this)
theorem so_l0 (t : ByteArray) (ht : t.size ≤ 4000) : ∀ (d a : Nat) (out : List Int) (k : Nat), a + 4 * d = t.size → 10 * d + 50000 ≤ k → out.length ≤ a →
  ∃ r : ByteArray × Bool, spec_l3Of.l0 k t out (a : Int) = some r ∧ (r.2 = true → sg_of r.1.data.toList = t.data.toList ∧ r.1.size ≤ 4000)
 | 0, a, out, k, hd, hk, ho => by
  obtain ⟨k, rfl⟩ : ∃ m, k = m + 1 := ⟨k - 1, by omega⟩
  have hs : (strOfNums out).size = out.length := by simp [strOfNums, ByteArray.size]
  rw [spec_l3Of.l0, if_neg (by omega), (z21 (strOfNums out) (by omega) k (by omega)).1, Option.bind_some]
  refine ⟨_, rfl, fun h => ⟨?_, by rw [hs]; omega⟩⟩
  have := ba_beq _ _ h
  rw [← this]
 | d + 1, a, out, k, hd, hk, ho => by
  obtain ⟨k, rfl⟩ : ∃ m, k = m + 10 := ⟨k - 10, by omega⟩
  have hw : wrap64 ((a : Int) + 4) = ((a + 4 : Nat) : Int) := by rw [w64 (by omega) (by omega)]; omega
  obtain ⟨n', m, hm, h⟩ := so_l1 t ht out a (by omega) (k + 5) (by omega) 4 0 rfl 0 0 (by omega)
  have e1 : spec_l3Of.l0 (k + 10) t out (a : Int) = spec_l3Of.l1 (k + 5 + 4) t out (a : Int) 0 ((0 : Nat) : Int) ((0 : Nat) : Int) := by
   rw [spec_l3Of.l0, if_pos (by omega)]; rfl
  rw [e1, h, show k + 5 = (k + 4) + 1 from rfl, spec_l3Of.l1, if_neg (by decide)]
  obtain ⟨j, hj⟩ : ∃ j, k + 4 = j + (m - 1) + 1 := ⟨k + 3 - (m - 1), by omega⟩
  obtain ⟨more, m1, m2⟩ := so_l2 t (a : Int) n' m hm (m - 1) 0 (by omega) out j (by omega)
  have m2' : spec_l3Of.l2 (j + (m - 1) + 1) t out (a : Int) n' (m : Int) 0 = spec_l3Of.l0 j t (out ++ more) (wrap64 ((a : Int) + 4)) := m2
  rw [hj, m2', hw]
  exact so_l0 t ht d (a + 4) (out ++ more) j (by omega) (by omega) (by rw [List.length_append]; omega)
theorem so_total (t : ByteArray) (ht : t.size ≤ 4000) (k : Nat) (hk : 60001 ≤ k) :
  ∃ r : ByteArray × Bool, spec_l3Of.f k t = some r ∧ (r.2 = true → sg_of r.1.data.toList = t.data.toList ∧ r.1.size ≤ 4000) := by
 unfold spec_l3Of.f
 by_cases c : (t.size : Int) % 4 = 0
 ·rw [if_pos c]
  exact so_l0 t ht (t.size / 4) 0 [] k (by omega) (by omega) (by simp)
 ·rw [if_neg c]; exact ⟨_, rfl, fun h => by cases h⟩
theorem idx61 : Lib.indexByte sg_alpha 61 = -1 := by decide +kernel
theorem z51 (t : ByteArray) (ht : t.size ≤ 4000) (out : List Int) (a : Nat) (ha : a + 4 ≤ t.size) (g : List UInt8) (h1 : 1 ≤ g.length) (h3 : g.length ≤ 3) (hu : ∀ i, i < 4 → t.data.toList.getD (a + i) 0 = sg_one g i) (k : Nat) (hk : 65 ≤ k) : ∀ (d i : Nat), i + d = 4 → ∀ (m : Nat), m = min i (g.length + 1) →
  spec_l3Of.l1 (k + d) t out (a : Int) (sg_n g i : Int) (m : Int) (i : Int) = spec_l3Of.l1 k t out (a : Int) (sg_n g 4 : Int) ((g.length + 1 : Nat) : Int) 4
 | 0, i, h, m, hm => by obtain rfl : i = 4 := (by omega); rw [hm, Nat.min_eq_right (by omega)]; rfl
 | d + 1, i, h, m, hm => by
  have a1 : i ≤ g.length → m + 1 = min (i + 1) (g.length + 1) := by omega
  have a2 : ¬ i ≤ g.length → m = min (i + 1) (g.length + 1) := by omega
  have a3 : i + 1 + d = 4 := by omega
  have hn := sg_n_lt g i (by omega)
  have hs := z43 g i (by omega)
  have hw : wrap64 ((m : Int) + 1) = ((m + 1 : Nat) : Int) := by rw [w64 (by omega) (by omega)]; omega
  rw [show k + (d + 1) = (k + d) + 1 from rfl, so_step (k + d) t out a _ m i (by omega) (by omega) (by omega) ht, hu i (by omega)]
  by_cases c : i ≤ g.length
  ·rw [z14 g i c, z35 _ (z27 g i), if_pos (by omega), or6 _ _ hn (z27 g i), ← hs, hw]
   exact z51 t ht out a ha g h1 h3 hu k hk d (i + 1) a3 (m + 1) (a1 c)
  ·rw [z58 g i h1 (by omega) (by omega), Nat.add_zero] at hs
   have hw' : wrap64 ((sg_n g i : Int) * 64) = ((sg_n g (i + 1) : Nat) : Int) := by rw [hs, w64 (by omega) (by omega)]; omega
   rw [z31 g i (by omega), idx61, if_neg (by decide), hw']
   exact z51 t ht out a ha g h1 h3 hu k hk d (i + 1) a3 m (a2 c)
theorem so_put (t : ByteArray) (at_ : Int) (g : List UInt8) (h3 : g.length ≤ 3) (out : List Int) (ho : out.length + 3 < 140737488355328) : ∀ (d i : Nat), i + d = g.length → ∀ (k : Nat),
  spec_l3Of.l2 (k + d + 1) t (out ++ z0 (g.take i)) at_ (sg_num g 3 : Int) ((g.length + 1 : Nat) : Int) (i : Int) = spec_l3Of.l0 k t (out ++ z0 g) (wrap64 (at_ + 4))
 | 0, i, h, k => by
  rw [spec_l3Of.l2, w64 (n := ((g.length + 1 : Nat) : Int) - 1) (by omega) (by omega), if_neg (by omega), List.take_of_length_le (by omega)]
 | d + 1, i, h, k => by
  have hw : wrap64 ((i : Int) + 1) = ((i + 1 : Nat) : Int) := by rw [w64 (by omega) (by omega)]; omega
  have hl : (out ++ z0 (g.take i)).length < 140737488355328 := by rw [List.length_append, z0, List.length_map, List.length_take]; omega
  rw [show k + (d + 1) + 1 = (k + d + 1) + 1 from rfl, spec_l3Of.l2, w64 (n := ((g.length + 1 : Nat) : Int) - 1) (by omega) (by omega), if_pos (by omega), z57 i (by omega), if_pos (by omega), if_pos hl, hw, sg_shr g i h3 (by omega), List.append_assoc, ← sg_take g i (by omega)]
  exact so_put t at_ g h3 out ho d (i + 1) (by omega) k
theorem so_back (s t : ByteArray) (ht : t.data.toList = sg_of s.data.toList) (hs : s.size ≤ 2900) : ∀ (d i : Nat) (k : Nat), s.size ≤ 3 * (i + d) → 3 * i ≤ s.size + 2 → 10 * d + 50000 ≤ k →
  spec_l3Of.l0 k t (z0 (s.data.toList.take (3 * i))) ((4 * i : Nat) : Int) = some (s, true) := by
 have tl : t.size = 4 * ((s.size + 2) / 3) := by rw [← z3, ht, z32 _ _ (Nat.le_refl _), z3]
 have fin : ∀ (i k : Nat), s.size ≤ 3 * i → 50000 ≤ k → spec_l3Of.l0 k t (z0 (s.data.toList.take (3 * i))) ((4 * i : Nat) : Int) = some (s, true) := by
  intro i k h1 hk
  obtain ⟨k, rfl⟩ : ∃ m, k = m + 1 := ⟨k - 1, by omega⟩
  rw [spec_l3Of.l0, if_neg (by omega), List.take_of_length_le (by rw [z3]; omega), z9, z61, (z21 s (by omega) k (by omega)).1, Option.bind_some, ByteArray.toList_eq, ByteArray.toList_eq, ht, beq_self_eq_true]
 intro d
 induction d with
 | zero => intro i k h1 h2 hk; exact fin i k (by omega) (by omega)
 | succ d ih =>
  intro i k h1 h2 hk
  by_cases c : 3 * i < s.size
  ·obtain ⟨g, hg⟩ : ∃ g, g = (s.data.toList.drop (3 * i)).take 3 := ⟨_, rfl⟩
   have gl : g.length = min 3 (s.size - 3 * i) := by rw [hg, List.length_take, List.length_drop, z3]
   obtain ⟨k, rfl⟩ : ∃ m, k = m + g.length + 7 := ⟨k - 7 - g.length, by omega⟩
   have hw : wrap64 (((4 * i : Nat) : Int) + 4) = ((4 * (i + 1) : Nat) : Int) := by rw [w64 (by omega) (by omega)]; omega
   have hu : ∀ j, j < 4 → t.data.toList.getD (4 * i + j) 0 = sg_one g j := fun j hj => by
    have e : t.data.toList.getD (4 * i + j) 0 = (t.data.toList.drop (4 * i)).getD j 0 := by rw [List.getD_eq_getElem?_getD, List.getD_eq_getElem?_getD, List.getElem?_drop]
    rw [e, ht, z52, sg_of_cons _ (fun e => by have := congrArg List.length e; rw [List.length_drop, z3, List.length_nil] at this; omega), ← hg, List.getD_eq_getElem?_getD, List.getElem?_append_left (by rw [sg_quad_len]; omega), z17 g j hj]
    rfl
   have e1 : spec_l3Of.l0 (k + g.length + 7) t (z0 (s.data.toList.take (3 * i))) ((4 * i : Nat) : Int) = spec_l3Of.l1 (k + g.length + 2 + 4) t (z0 (s.data.toList.take (3 * i))) ((4 * i : Nat) : Int) (sg_n g 0 : Int) ((0 : Nat) : Int) ((0 : Nat) : Int) := by
    rw [spec_l3Of.l0, if_pos (by omega), sg_n0]; rfl
   rw [e1, z51 t (by omega) _ (4 * i) (by omega) g (by omega) (by omega) hu (k + g.length + 2) (by omega) 4 0 rfl 0 (by omega), show k + g.length + 2 = (k + g.length + 1) + 1 from rfl, spec_l3Of.l1, if_neg (by decide), sg_n4]
   have p := so_put t ((4 * i : Nat) : Int) g (by omega) (z0 (s.data.toList.take (3 * i))) (by rw [z0, List.length_map, List.length_take, z3]; omega) g.length 0 (by omega) k
   simp only [List.take_zero] at p
   rw [show z0 ([] : List UInt8) = [] from rfl, List.append_nil] at p
   refine p.trans ?_
   have e2 : z0 (s.data.toList.take (3 * i)) ++ z0 g = z0 (s.data.toList.take (3 * (i + 1))) := by
    rw [hg, z0, z0, z0, ← List.map_append, show 3 * (i + 1) = 3 * i + 3 by omega, List.take_add]
   rw [e2, hw]
   exact ih (i + 1) k (by omega) (by omega) (by omega)
  ·exact fin i k (by omega) (by omega)
theorem so_of (s t : ByteArray) (hs : s.size ≤ 2900) (ht : t.data.toList = sg_of s.data.toList) (k : Nat) (hk : 60000 ≤ k) : spec_l3Of.f k t = some (s, true) := by
 have tl : t.size = 4 * ((s.size + 2) / 3) := by rw [← z3, ht, z32 _ _ (Nat.le_refl _), z3]
 unfold spec_l3Of.f
 rw [if_pos (by omega)]
 exact so_back s t ht hs 967 0 k (by omega) (by omega) (by omega)
theorem z46 (x : ByteArray) (hx : x.size ≤ 7) : ∀ (d i : Nat) (n : Nat) (k : Nat), i + d = x.size → d + 1 ≤ k → n < 10 ^ i → ∃ v : Int, spec_l14Int.l0 k x (n : Int) (i : Int) = some v
 | 0, i, n, k, hd, hk, hn => by
  obtain ⟨k, rfl⟩ : ∃ m, k = m + 1 := ⟨k - 1, by omega⟩
  exact ⟨_, by rw [spec_l14Int.l0, if_neg (by omega)]⟩
 | d + 1, i, n, k, hd, hk, hn => by
  obtain ⟨k, rfl⟩ : ∃ m, k = m + 1 := ⟨k - 1, by omega⟩
  have b := bt_range x (i : Int)
  have hp : 10 ^ i ≤ 10 ^ 7 := Nat.pow_le_pow_right (by omega) (by omega)
  rw [spec_l14Int.l0, if_pos (by omega), if_pos (by omega)]
  by_cases h1 : bt x (i : Int) < 48
  ·rw [if_pos h1]; exact ⟨_, rfl⟩
  ·by_cases h2 : bt x (i : Int) > 57
   ·rw [if_neg h1, if_pos h2]; exact ⟨_, rfl⟩
   ·rw [if_neg h1, if_neg h2, w64 (n := (i : Int) + 1) (by omega) (by omega), w64 (n := 10 * (n : Int)) (by omega) (by omega), w64 (by omega) (by omega)]
    obtain ⟨v, hv⟩ := z46 x hx d (i + 1) (10 * n + (bt x (i : Int) - 48).toNat) k (by omega) (by omega) (by rw [Nat.pow_succ]; omega)
    refine ⟨v, ?_⟩
    rw [← hv]
    congr 1 <;> omega
theorem z16 (x : ByteArray) (k : Nat) (hk : 20 ≤ k) : ∃ v : Int, spec_l14Int.f k x = some v := by
 obtain ⟨k, rfl⟩ : ∃ m, k = m + 1 := ⟨k - 1, by omega⟩
 unfold spec_l14Int.f spec_l1In.f
 by_cases h1 : (x.size : Int) ≥ 1
 ·rw [if_pos h1, Option.bind_some]
  by_cases h2 : (x.size : Int) ≤ 7
  ·have key : ∃ v, spec_l14Int.l0 k x 0 0 = some v := z46 x (by omega) x.size 0 0 k (by omega) (by omega) (by simp)
   obtain ⟨v, hv⟩ := key
   rw [decide_eq_true h2, if_pos rfl, if_pos (by omega)]
   by_cases h3 : bt x 0 = 48
   ·rw [if_pos h3, spec_l14Int.j0]
    by_cases h4 : (x.size : Int) > 1
    ·rw [if_pos (decide_eq_true h4)]; exact ⟨_, rfl⟩
    ·rw [if_neg (by rw [decide_eq_true_eq]; exact h4)]; exact ⟨v, hv⟩
   ·rw [if_neg h3, spec_l14Int.j0, if_neg (by decide)]; exact ⟨v, hv⟩
  ·rw [decide_eq_false h2, if_neg (by decide), spec_l14Int.j0, if_pos rfl]; exact ⟨_, rfl⟩
 ·rw [if_neg h1, Option.bind_some, if_neg (by decide), spec_l14Int.j0, if_pos rfl]; exact ⟨_, rfl⟩
theorem z33 (x : ByteArray) (hx : x.size ≤ 7) (hd' : ∀ b ∈ x.data.toList, 48 ≤ b.toNat ∧ b.toNat ≤ 57) : ∀ (d i : Nat) (n : Nat) (k : Nat), i + d = x.size → d + 1 ≤ k → n < 10 ^ i → spec_l14Int.l0 k x (n : Int) (i : Int) = some ((z56 n (x.data.toList.drop i) : Nat) : Int)
 | 0, i, n, k, hd, hk, hn => by
  obtain ⟨k, rfl⟩ : ∃ m, k = m + 1 := ⟨k - 1, by omega⟩
  rw [spec_l14Int.l0, if_neg (by omega), List.drop_of_length_le (by rw [z3]; omega)]
  rfl
 | d + 1, i, n, k, hd, hk, hn => by
  obtain ⟨k, rfl⟩ : ∃ m, k = m + 1 := ⟨k - 1, by omega⟩
  have hlt : i < x.data.toList.length := by rw [z3]; omega
  have hp : 10 ^ i ≤ 10 ^ 7 := Nat.pow_le_pow_right (by omega) (by omega)
  have hb := hd' _ (List.getElem_mem hlt)
  have hbt : bt x (i : Int) = ((x.data.toList[i]).toNat : Int) := by
   rw [z15 x i (by omega), List.getD_eq_getElem?_getD, List.getElem?_eq_getElem hlt]; rfl
  rw [spec_l14Int.l0, if_pos (by omega), if_pos (by omega), hbt, if_neg (by omega), if_neg (by omega), w64 (n := (i : Int) + 1) (by omega) (by omega), w64 (n := 10 * (n : Int)) (by omega) (by omega), w64 (by omega) (by omega)]
  have ih := z33 x hx hd' d (i + 1) (10 * n + ((x.data.toList[i]).toNat - 48)) k (by omega) (by omega) (by rw [Nat.pow_succ]; omega)
  rw [List.drop_eq_getElem_cons hlt]
  have e : z56 n (x.data.toList[i] :: x.data.toList.drop (i + 1)) = z56 (10 * n + ((x.data.toList[i]).toNat - 48)) (x.data.toList.drop (i + 1)) := rfl
  rw [e, ← ih]
  congr 1 <;> omega
theorem z22 (n : Nat) (h : n ≤ 1000000) (k : Nat) (hk : 20 ≤ k) : spec_l14Int.f k ⟨(Lib.decDigits n).toArray⟩ = some (n : Int) := by
 obtain ⟨k, rfl⟩ : ∃ m, k = m + 1 := ⟨k - 1, by omega⟩
 have hs : (⟨(Lib.decDigits n).toArray⟩ : ByteArray).size = (Lib.decDigits n).length := z13 _
 have h7 := z47 7 n (by omega) (by omega)
 have h1 : 0 < (Lib.decDigits n).length := List.length_pos_iff.2 (z34 n)
 have key := z33 ⟨(Lib.decDigits n).toArray⟩ (by omega) (z41 n) (Lib.decDigits n).length 0 0 k (by omega) (by omega) (by simp)
 rw [List.drop_zero] at key
 have key : spec_l14Int.l0 k ⟨(Lib.decDigits n).toArray⟩ 0 0 = some ((z56 0 (Lib.decDigits n) : Nat) : Int) := key
 rw [dfold_dec] at key
 unfold spec_l14Int.f spec_l1In.f
 rw [if_pos (by omega), Option.bind_some, decide_eq_true (by omega), if_pos rfl, if_pos (by omega)]
 by_cases h3 : bt ⟨(Lib.decDigits n).toArray⟩ 0 = 48
 ·rw [if_pos h3, spec_l14Int.j0]
  have hb : bt ⟨(Lib.decDigits n).toArray⟩ ((0 : Nat) : Int) = (((Lib.decDigits n).getD 0 0).toNat : Int) := z15 _ 0 (by omega)
  have hb : bt ⟨(Lib.decDigits n).toArray⟩ 0 = (((Lib.decDigits n).getD 0 0).toNat : Int) := hb
  have h0 : n = 0 := by
   rcases Nat.eq_zero_or_pos n with e | e
   ·exact e
   ·have := dec_head n e
    rw [hb] at h3
    exact absurd (UInt8.toNat_inj.1 (show ((Lib.decDigits n).getD 0 0).toNat = (48 : UInt8).toNat by have : (48 : UInt8).toNat = 48 := rfl; omega)) this
  have hl : (Lib.decDigits n).length = 1 := by rw [h0, Lib.decDigits, dif_pos (by omega)]; rfl
  rw [if_neg (by rw [decide_eq_true_eq]; omega)]
  exact key
 ·rw [if_neg h3, spec_l14Int.j0, if_neg (by decide)]
  exact key
theorem z55 (s : ByteArray) (hs : s.size ≤ 140737488351232) (d : Nat) : ∀ (k i : Nat), i + d = s.size → spec_l14Origin.l0 k s (i : Int) = some true → ∀ j, i ≤ j → j < s.size → 97 ≤ bt s (j : Int) := by
 induction d with
 | zero => intro k i hd _ j h1 h2; omega
 | succ d ih =>
  intro k i hd h j h1 h2
  cases k with
  | zero => rw [spec_l14Origin.l0] at h; cases h
  | succ k =>
   rw [spec_l14Origin.l0, if_pos (by omega), if_pos (by omega), w64 (by omega) (by omega)] at h
   by_cases h3 : bt s (i : Int) < 97
   ·rw [if_pos h3] at h; cases h
   ·rw [if_neg h3] at h
    by_cases h4 : bt s (i : Int) > 122
    ·rw [if_pos h4] at h; cases h
    ·rw [if_neg h4] at h
     by_cases e : i = j
     ·subst e; omega
     ·exact ih k (i + 1) (by omega) h j (by omega) h2
theorem z28 (s : ByteArray) (n : Int) (r : ByteArray) (hs : s.size ≤ 140737488351232) (k : Nat) (h : spec_GoodHead.f k s n r = some true) : (10 : UInt8) ∉ s.data.toList := by
 unfold spec_GoodHead.f at h
 obtain ⟨b, hb, h⟩ := Option.bind_eq_some_iff.1 h
 cases b with
 | false => rw [if_neg (by decide)] at h; cases h
 | true =>
  have hb : spec_l14Origin.l0 k s ((0 : Nat) : Int) = some true := hb
  have key := z55 s hs s.size k 0 (by omega) hb
  intro hm
  obtain ⟨j, hj, e⟩ := List.getElem_of_mem hm
  have hj' : j < s.size := by rw [z3] at hj; exact hj
  have := key j (by omega) hj'
  rw [z15 s j hj', List.getD_eq_getElem?_getD, List.getElem?_eq_getElem hj, e] at this
  exact absurd this (by decide)
theorem alpha_no10 : ∀ i : Fin 64, sg_alpha.getD i.val 0 ≠ 10 := by decide +kernel
theorem one_no10 (g : List UInt8) (i : Nat) : sg_one g i ≠ 10 := by
 unfold sg_one
 by_cases h : g.length < i
 ·rw [if_pos h]; decide
 ·rw [if_neg h]; exact alpha_no10 ⟨_, Nat.mod_lt _ (by decide)⟩
theorem z42 : ∀ (f : Nat) (l : List UInt8), (10 : UInt8) ∉ sg_all f l
 | 0, l => by simp [sg_all]
 | f + 1, l => by
  rw [sg_all]
  by_cases e : l = []
  ·rw [if_pos e]; simp
  ·rw [if_neg e, List.mem_append]
   rintro (h | h)
   ·simp only [sg_quad, List.mem_cons, List.not_mem_nil, or_false] at h
    rcases h with h | h | h | h <;> exact one_no10 _ _ h.symm
   ·exact z42 f _ h
theorem z60 (n : Nat) : (10 : UInt8) ∉ Lib.decDigits n := fun h => absurd (z41 n _ h) (by decide)
def z7 (o : ByteArray) (n : Nat) (r : ByteArray) : List ByteArray := [o, ⟨(Lib.decDigits n).toArray⟩, ⟨(sg_of r.data.toList).toArray⟩]
theorem z50 (k : Nat) (o : ByteArray) (n : Nat) (r : ByteArray) (hs : o.size ≤ 140737488351232) (hn : n ≤ 1000000) (hr : r.size = 32) (hk : 1000001 ≤ k) :
  ∃ T : ByteArray, spec_l14Text.f k o (n : Int) r = some T ∧ impl_headText.f o (n : Int) r = some T ∧ T.data.toList = z5 (z7 o n r) := by
 obtain ⟨n1, n2⟩ := z39 k n (by omega) (by omega)
 obtain ⟨g1, g2⟩ := z21 r (by omega) k (by omega)
 have hD : (⟨(Lib.decDigits n).toArray⟩ : ByteArray).size ≤ 1000001 := by rw [z13]; have := z12 n; omega
 have hG : (⟨(sg_of r.data.toList).toArray⟩ : ByteArray).size ≤ 128 := by rw [z13]; have := sg_of_len _ r.data.toList (Nat.le_refl _); rw [z3, hr] at this; omega
 have hb : z5 (z7 o n r) = ((((o ++ (⟨#[10]⟩ : ByteArray)) ++ ⟨(Lib.decDigits n).toArray⟩) ++ (⟨#[10]⟩ : ByteArray)) ++ ⟨(sg_of r.data.toList).toArray⟩ ++ (⟨#[10]⟩ : ByteArray)).data.toList := by
  simp [z5, z7]
 rw [hb]
 generalize (⟨(Lib.decDigits n).toArray⟩ : ByteArray) = D at n1 n2 hD
 generalize (⟨(sg_of r.data.toList).toArray⟩ : ByteArray) = G at g1 g2 hG
 refine ⟨(((((o ++ (⟨#[10]⟩ : ByteArray)) ++ D) ++ (⟨#[10]⟩ : ByteArray)) ++ G) ++ (⟨#[10]⟩ : ByteArray)), ?_, ?_, rfl⟩
 ·unfold spec_l14Text.f
  rw [if_pos (by omega), n1, Option.bind_some, if_pos (by simp only [ByteArray.size_append, z45]; omega), if_pos (by simp only [ByteArray.size_append, z45]; omega), g1, Option.bind_some, if_pos (by simp only [ByteArray.size_append, z45]; omega), if_pos (by simp only [ByteArray.size_append, z45]; omega)]
 ·unfold impl_headText.f
  rw [if_pos (by omega), n2, Option.bind_some, if_pos (by simp only [ByteArray.size_append, z45]; omega), if_pos (by simp only [ByteArray.size_append, z45]; omega), g2, Option.bind_some, if_pos (by simp only [ByteArray.size_append, z45]; omega), if_pos (by simp only [ByteArray.size_append, z45]; omega)]
theorem cs_no10 (o : ByteArray) (n : Nat) (r : ByteArray) (ho : (10 : UInt8) ∉ o.data.toList) : ∀ c ∈ z7 o n r, (10 : UInt8) ∉ c.data.toList := by
 intro c hc
 simp only [z7, List.mem_cons, List.not_mem_nil, or_false] at hc
 rcases hc with rfl | rfl | rfl
 ·exact ho
 ·exact z60 n
 ·exact z42 _ _
def HeadIs (k : Nat) (s : ByteArray) (x : ByteArray × Int × ByteArray × Bool) : Prop :=
 (x.2.2.2 = false → x = ((⟨#[]⟩ : ByteArray), 0, (⟨#[]⟩ : ByteArray), false)) ∧ (x.2.2.2 = true → ∃ n : Nat, x.2.1 = (n : Int) ∧ n ≤ 1000000 ∧ x.2.2.1.size = 32 ∧ spec_GoodHead.f k x.1 (n : Int) x.2.2.1 = some true ∧ x.1.size ≤ 1048576 ∧ s.data.toList = z5 (z7 x.1 n x.2.2.1))
theorem headIs_no (k : Nat) (s : ByteArray) : HeadIs k s ((⟨#[]⟩ : ByteArray), 0, (⟨#[]⟩ : ByteArray), false) := ⟨fun _ => rfl, fun h => by cases h⟩
theorem rd_size (L : List ByteArray) (n : Nat) (h : ∀ c ∈ L, c.size ≤ n) (i : Int) : (rdOf ByteArray.empty L i).size ≤ n := by
 unfold rdOf
 rw [List.getD_eq_getElem?_getD]
 cases e : L[i.toNat]? with
 | none => exact Nat.zero_le _
 | some c => exact h c (List.mem_of_getElem? e)
theorem z30 (s : ByteArray) (hs : s.size ≤ 1048576) (k : Nat) (hk : 2000000 ≤ k) : ∃ x, impl_readHead.f k s = some x ∧ HeadIs k s x := by
 have no := headIs_no k s
 unfold impl_readHead.f strings_Split.f
 rw [if_pos ⟨by omega, by decide⟩, Option.bind_some]
 have hsz := z24 ⟨#[10]⟩ (Lib.countB s ⟨#[10]⟩) s
 generalize Lib.splitB ⟨#[10]⟩ 0 (Lib.countB s ⟨#[10]⟩) s = L at hsz
 by_cases c4 : (L.length : Int) = 4
 ·rw [if_pos c4, if_pos (by omega)]
  have hz := rd_size L s.size hsz
  have ha : ∃ y : Int × Option Int, strconv_Atoi.f (rdOf ByteArray.empty L 1) = some y := by
   unfold strconv_Atoi.f
   rw [if_pos (by have := hz 1; omega)]
   cases Lib.atoiAll (rdOf ByteArray.empty L 1).data.toList <;> exact ⟨_, rfl⟩
  obtain ⟨y, hy⟩ := ha
  obtain ⟨z, hz1, hz2⟩ := os_total (rdOf ByteArray.empty L 2) (by have := hz 2; omega) k (by omega)
  rw [hy, Option.bind_some, if_pos (by omega), hz1, Option.bind_some, if_pos (by omega)]
  by_cases q1 : y.2.isNone = true
  ·rw [if_pos q1]
   by_cases q2 : z.2 = true
   ·rw [if_pos q2]
    obtain ⟨b, b1, b2, b3⟩ := z10 (rdOf ByteArray.empty L 0) y.1 z.1 (by have := hz 0; omega) k (by have := hz 0; omega)
    rw [b2, Option.bind_some]
    cases b with
    | false => rw [if_neg (by decide)]; exact ⟨_, rfl, no⟩
    | true =>
     obtain ⟨v0, v1, v2⟩ := b3 rfl
     obtain ⟨n, hn⟩ : ∃ n : Nat, y.1 = n := ⟨y.1.toNat, by omega⟩
     rw [if_pos rfl]
     rw [hn] at b1 v1 ⊢
     obtain ⟨T, t1, t2, t3⟩ := z50 k (rdOf ByteArray.empty L 0) n z.1 (by have := hz 0; omega) (by omega) v2 (by omega)
     rw [t2, Option.bind_some]
     by_cases q3 : T.toList = s.toList
     ·rw [if_pos q3]
      rw [ByteArray.toList_eq, ByteArray.toList_eq] at q3
      exact ⟨_, rfl, ⟨(fun h => by cases h), fun _ => ⟨n, rfl, by omega, v2, b1, by have := hz 0; show (rdOf ByteArray.empty L 0).size ≤ 1048576; omega, by rw [← q3, t3]⟩⟩⟩
     ·rw [if_neg q3]; exact ⟨_, rfl, no⟩
   ·rw [if_neg q2]; exact ⟨_, rfl, no⟩
  ·rw [if_neg q1]; exact ⟨_, rfl, no⟩
 ·rw [if_neg c4]; exact ⟨_, rfl, no⟩
theorem z38 (s o : ByteArray) (n : Nat) (r : ByteArray) (hs : s.size ≤ 1048576) (k : Nat) (hk : 2000000 ≤ k) (hn : n ≤ 1000000) (hr : r.size = 32) (hg : spec_GoodHead.f k o (n : Int) r = some true) (ho : o.size ≤ 1048576) (hd : s.data.toList = z5 (z7 o n r)) :
  impl_readHead.f k s = some (o, (n : Int), r, true) := by
 have h10 := z28 o n r (by omega) k hg
 unfold impl_readHead.f strings_Split.f
 rw [if_pos ⟨by omega, by decide⟩, Option.bind_some, z25 _ s (cs_no10 o n r h10) hd]
 have ha : strconv_Atoi.f ⟨(Lib.decDigits n).toArray⟩ = some ((n : Int), none) := by
  unfold strconv_Atoi.f
  rw [if_pos (by rw [z13]; have := z12 n; omega)]
  have e : Lib.atoiAll (⟨(Lib.decDigits n).toArray⟩ : ByteArray).data.toList = .ok (n : Int) := z62 n (by omega)
  rw [e]
 have e0 : rdOf ByteArray.empty (z7 o n r ++ [(⟨#[]⟩ : ByteArray)]) 0 = o := rfl
 have e1 : rdOf ByteArray.empty (z7 o n r ++ [(⟨#[]⟩ : ByteArray)]) 1 = ⟨(Lib.decDigits n).toArray⟩ := rfl
 have e2 : rdOf ByteArray.empty (z7 o n r ++ [(⟨#[]⟩ : ByteArray)]) 2 = ⟨(sg_of r.data.toList).toArray⟩ := rfl
 have el : (z7 o n r ++ [(⟨#[]⟩ : ByteArray)]).length = 4 := rfl
 obtain ⟨b, b1, b2, b3⟩ := z10 o n r (by omega) k (by omega)
 obtain rfl : b = true := Option.some.inj (b1.symm.trans hg)
 obtain ⟨T, t1, t2, t3⟩ := z50 k o n r (by omega) hn hr (by omega)
 rw [e0, e1, e2, el, if_pos (by decide), if_pos (by decide), ha, Option.bind_some, if_pos (by decide), os_of r _ (by omega) rfl k (by omega), Option.bind_some, if_pos (by decide), if_pos (show ((n : Int), (none : Option Int)).2.isNone = true from rfl), if_pos rfl]
 show ((impl_isHead.f k o (n : Int) r).bind _) = _
 rw [b2, Option.bind_some, if_pos rfl, t2, Option.bind_some, if_pos (by rw [ByteArray.toList_eq, ByteArray.toList_eq, t3, hd])]
theorem mem_flat (L : List ByteArray) (c : ByteArray) (h : c ∈ L) : c.size ≤ (L.flatMap fun c => c.data.toList).length := by
 induction L with
 | nil => cases h
 | cons d L ih =>
  rw [List.flatMap_cons, List.length_append, z3]
  rcases List.mem_cons.1 h with rfl | h
  ·omega
  ·have := ih h; omega
theorem two2 (a b : UInt8) : (⟨#[a, b]⟩ : ByteArray).size = 2 := rfl
theorem z11 (a b : Int) : ∃ c : Bool, spec_l6Signed.f a b = some c ∧ impl_isFormed.f a b = some c ∧ (c = true → 0 ≤ a ∧ a ≤ 2026 ∧ 0 ≤ b ∧ b ≤ 1012) := by
 unfold spec_l6Signed.f impl_isFormed.f spec_l1In.f impl_within.f
 by_cases h : a ≥ 1 <;> by_cases h' : a ≤ 2026 <;> by_cases h'' : b ≥ 0 <;> by_cases h''' : b ≤ 1012 <;> simp [h, h', h'', h'''] <;> omega
theorem z40 : ∀ (c r : List UInt8) (n : Nat), (10 : UInt8) ∉ c → Lib.index r [10, 10] = (n : Int) → Lib.index (c ++ r) [10, 10] = ((n + c.length : Nat) : Int)
 | [], r, n, _, h => by simpa using h
 | b :: c, r, n, hc, h => by
  have hb : ¬ b = 10 := fun e => hc (e ▸ List.mem_cons_self ..)
  have ih := z40 c r n (fun q => hc (List.mem_cons_of_mem _ q)) h
  rw [List.cons_append, Lib.index, if_neg (by simp [List.isPrefixOf, Ne.symm hb]), ih, if_neg (by rw [beq_iff_eq]; omega), List.length_cons]
  omega
theorem ix_nl (b : UInt8) (r : List UInt8) (n : Nat) (hb : ¬ b = 10) (h : Lib.index (b :: r) [10, 10] = (n : Int)) : Lib.index (10 :: b :: r) [10, 10] = ((n + 1 : Nat) : Int) := by
 rw [Lib.index, if_neg (by simp [List.isPrefixOf, Ne.symm hb]), h, if_neg (by rw [beq_iff_eq]; omega)]
 omega
theorem ix_here (r : List UInt8) : Lib.index (10 :: 10 :: r) [10, 10] = 0 := by
 rw [Lib.index, if_pos (by simp [List.isPrefixOf])]
theorem cut_at (s sep : List UInt8) (i : Nat) (h : Lib.index s sep = (i : Int)) : Lib.cut s sep = (s.take i, s.drop (i + sep.length), true) := by
 unfold Lib.cut
 rw [h, if_pos (by omega), Int.toNat_natCast]
theorem idxq (q : UInt8) : ∀ (c r : List UInt8), q ∉ c → Lib.indexByte (c ++ q :: r) q = (c.length : Int)
 | [], r, _ => by simp [Lib.indexByte]
 | b :: c, r, h => by
  have hb : (b == q) = false := by
   rw [beq_eq_false_iff_ne]
   intro e
   exact h (e ▸ List.mem_cons_self ..)
  have ih := idxq q c r (fun z => h (List.mem_cons_of_mem _ z))
  rw [List.cons_append, Lib.indexByte, hb, ih]
  have : ((c.length : Int) == -1) = false := by rw [beq_eq_false_iff_ne]; omega
  rw [this]
  simp
def z4 (a c : Nat) : List UInt8 := (114 :: Lib.decDigits a) ++ 32 :: 115 :: Lib.decDigits c
def z8 (o : ByteArray) (n : Nat) (r : ByteArray) (a c : Nat) : List ByteArray := z7 o n r ++ [⟨#[]⟩, ⟨(z4 a c).toArray⟩]
theorem z20 (k : Nat) (o : ByteArray) (n : Nat) (r : ByteArray) (a c : Nat) (hs : o.size ≤ 140737488351232) (hn : n ≤ 1000000) (hr : r.size = 32) (ha : a ≤ 2026) (hc : c ≤ 1012) (hk : 1000001 ≤ k) :
  ∃ T : ByteArray, spec_l14SaidText.f k o (n : Int) r (a : Int) (c : Int) = some T ∧ impl_saidText.f o (n : Int) r (a : Int) (c : Int) = some T ∧ T.data.toList = z5 (z8 o n r a c) := by
 obtain ⟨T, t1, t2, t3⟩ := z50 k o n r hs hn hr hk
 obtain ⟨n1, n2⟩ := z39 k a (by omega) (by omega)
 obtain ⟨o1, o2⟩ := z39 k c (by omega) (by omega)
 have tl : T.size ≤ 281474976710656 := by
  have := congrArg List.length t3
  rw [z3] at this
  simp only [z5, z7, List.flatMap_cons, List.flatMap_nil, List.length_append, List.length_nil, List.length_cons, z3] at this
  have := z12 n
  have := sg_of_len _ r.data.toList (Nat.le_refl _)
  rw [z3, hr] at this
  omega
 have hA : (⟨(Lib.decDigits a).toArray⟩ : ByteArray).size ≤ 3000 := by rw [z13]; have := z12 a; omega
 have hC : (⟨(Lib.decDigits c).toArray⟩ : ByteArray).size ≤ 3000 := by rw [z13]; have := z12 c; omega
 have hb : z5 (z8 o n r a c) = (((((T ++ (⟨#[10, 114]⟩ : ByteArray)) ++ ⟨(Lib.decDigits a).toArray⟩) ++ (⟨#[32, 115]⟩ : ByteArray)) ++ ⟨(Lib.decDigits c).toArray⟩) ++ (⟨#[10]⟩ : ByteArray)).data.toList := by
  have e : z5 (z8 o n r a c) = z5 (z7 o n r) ++ ([10] ++ (z4 a c ++ [10])) := by
   unfold z8 z5
   rw [List.flatMap_append]
   simp
  rw [e, ← t3]
  simp [z4]
 rw [hb]
 generalize (⟨(Lib.decDigits a).toArray⟩ : ByteArray) = A at n1 n2 hA
 generalize (⟨(Lib.decDigits c).toArray⟩ : ByteArray) = C at o1 o2 hC
 refine ⟨(((((T ++ (⟨#[10, 114]⟩ : ByteArray)) ++ A) ++ (⟨#[32, 115]⟩ : ByteArray)) ++ C) ++ (⟨#[10]⟩ : ByteArray)), ?_, ?_, rfl⟩
 ·unfold spec_l14SaidText.f
  rw [t1, Option.bind_some, if_pos (by omega), n1, Option.bind_some, if_pos (by simp only [ByteArray.size_append, two2]; omega), if_pos (by simp only [ByteArray.size_append, two2]; omega), o1, Option.bind_some, if_pos (by simp only [ByteArray.size_append, two2]; omega), if_pos (by simp only [ByteArray.size_append, two2]; omega)]
 ·unfold impl_saidText.f
  rw [t2, Option.bind_some, if_pos (by omega), n2, Option.bind_some, if_pos (by simp only [ByteArray.size_append, two2]; omega), if_pos (by simp only [ByteArray.size_append, two2]; omega), o2, Option.bind_some, if_pos (by simp only [ByteArray.size_append, two2]; omega), if_pos (by simp only [ByteArray.size_append, two2]; omega)]
theorem z26 (q : UInt8) (hq : q = 10 ∨ q = 32) (n : Nat) : q ∉ Lib.decDigits n := fun h => by
 have := z41 n _ h
 rcases hq with rfl | rfl <;> exact absurd this (by decide)
theorem signL_no10 (a c : Nat) : (10 : UInt8) ∉ z4 a c := by
 have h1 := z26 10 (.inl rfl) a
 have h2 := z26 10 (.inl rfl) c
 unfold z4
 simp only [List.mem_append, List.mem_cons, not_or]
 exact ⟨⟨by decide, h1⟩, by decide, by decide, h2⟩
def z49 (k : Nat) (s : ByteArray) (x : ByteArray × Int × ByteArray × Int × Int × Bool) : Prop :=
 (x.2.2.2.2.2 = false → x = ((⟨#[]⟩ : ByteArray), 0, (⟨#[]⟩ : ByteArray), 0, 0, false)) ∧ (x.2.2.2.2.2 = true → ∃ n a c : Nat, x.2.1 = (n : Int) ∧ n ≤ 1000000 ∧ x.2.2.1.size = 32 ∧ spec_GoodHead.f k x.1 (n : Int) x.2.2.1 = some true ∧ x.1.size ≤ 1048576 ∧ x.2.2.2.1 = (a : Int) ∧ x.2.2.2.2.1 = (c : Int) ∧ spec_l6Signed.f (a : Int) (c : Int) = some true ∧ s.data.toList = z5 (z8 x.1 n x.2.2.1 a c) ∧ s.size ≤ 200)
theorem z44 (k : Nat) (s : ByteArray) : z49 k s ((⟨#[]⟩ : ByteArray), 0, (⟨#[]⟩ : ByteArray), 0, 0, false) := ⟨fun _ => rfl, fun h => by cases h⟩
theorem z48 (s : ByteArray) (h : s.size ≤ 281474976710656) : ∃ y, strconv_Atoi.f s = some y := by
 unfold strconv_Atoi.f
 rw [if_pos h]
 cases Lib.atoiAll s.data.toList <;> exact ⟨_, rfl⟩
theorem cut_len (s sep : List UInt8) : (Lib.cut s sep).1.length ≤ s.length ∧ (Lib.cut s sep).2.1.length ≤ s.length := by
 unfold Lib.cut
 split
 ·simp only [List.length_take, List.length_drop]; omega
 ·simp
theorem pre_len (s p : List UInt8) : (Lib.trimPrefix s p).length ≤ s.length := by
 unfold Lib.trimPrefix
 split
 ·rw [List.length_drop]; omega
 ·exact Nat.le_refl _
theorem suf_len (s p : List UInt8) : (Lib.trimSuffix s p).length ≤ s.length := by
 unfold Lib.trimSuffix
 split
 ·rw [List.length_take]; omega
 ·exact Nat.le_refl _
theorem z6 (l : List UInt8) : (⟨l.toArray⟩ : ByteArray).size = l.length := by simp [ByteArray.size]
theorem impl_said (s : ByteArray) (k : Nat) (hk : 2000000 ≤ k) : ∃ x, impl_ReadSaid.f k s = some x ∧ z49 k s x := by
 have no := z44 k s
 unfold impl_ReadSaid.f
 by_cases c0 : (s.size : Int) > 200
 ·rw [if_pos c0]; exact ⟨_, rfl, no⟩
 rw [if_neg c0]
 obtain ⟨l1, l2⟩ := cut_len s.data.toList [10, 10]
 rw [z3] at l1 l2
 unfold strings_Cut.f
 rw [if_pos (by omega), Option.bind_some, if_pos (by rw [z6]; show (Lib.cut s.data.toList [10, 10]).1.length + 1 ≤ _; omega)]
 have hz : ((⟨(Lib.cut s.data.toList (⟨#[10, 10]⟩ : ByteArray).data.toList).1.toArray⟩ : ByteArray) ++ (⟨#[10]⟩ : ByteArray)).size ≤ 201 := by
  rw [ByteArray.size_append, z6]; show (Lib.cut s.data.toList [10, 10]).1.length + 1 ≤ _; omega
 obtain ⟨x, x1, x2, x3⟩ := z30 ((⟨(Lib.cut s.data.toList (⟨#[10, 10]⟩ : ByteArray).data.toList).1.toArray⟩ : ByteArray) ++ (⟨#[10]⟩ : ByteArray)) (by omega) k hk
 show ∃ x, ((impl_readHead.f k ((⟨(Lib.cut s.data.toList (⟨#[10, 10]⟩ : ByteArray).data.toList).1.toArray⟩ : ByteArray) ++ (⟨#[10]⟩ : ByteArray))).bind _) = some x ∧ z49 k s x
 rw [x1, Option.bind_some]
 by_cases hx : x.2.2.2 = true
 ·obtain ⟨n, e1, e2, e3, e4, e5, e6⟩ := x3 hx
  rw [if_pos hx]
  unfold strings_TrimSuffix.f strings_TrimPrefix.f
  have l3 := suf_len (Lib.cut s.data.toList [10, 10]).2.1 [10]
  have hs1 : (⟨(Lib.cut s.data.toList (⟨#[10, 10]⟩ : ByteArray).data.toList).2.1.toArray⟩ : ByteArray).size ≤ 200 := by rw [z6]; show (Lib.cut s.data.toList [10, 10]).2.1.length ≤ _; omega
  rw [if_pos (show (⟨(Lib.cut s.data.toList (⟨#[10, 10]⟩ : ByteArray).data.toList).2.1.toArray⟩ : ByteArray).size ≤ 9223372036854775807 by omega), Option.bind_some]
  have hs2 : (⟨(Lib.trimSuffix (⟨(Lib.cut s.data.toList (⟨#[10, 10]⟩ : ByteArray).data.toList).2.1.toArray⟩ : ByteArray).data.toList (⟨#[10]⟩ : ByteArray).data.toList).toArray⟩ : ByteArray).size ≤ 200 := by
   rw [z6]
   have := suf_len (⟨(Lib.cut s.data.toList (⟨#[10, 10]⟩ : ByteArray).data.toList).2.1.toArray⟩ : ByteArray).data.toList (⟨#[10]⟩ : ByteArray).data.toList
   rw [z3] at this
   omega
  generalize (⟨(Lib.trimSuffix (⟨(Lib.cut s.data.toList (⟨#[10, 10]⟩ : ByteArray).data.toList).2.1.toArray⟩ : ByteArray).data.toList (⟨#[10]⟩ : ByteArray).data.toList).toArray⟩ : ByteArray) = U at hs2
  obtain ⟨m1, m2⟩ := cut_len U.data.toList (⟨#[32]⟩ : ByteArray).data.toList
  rw [z3] at m1 m2
  rw [if_pos (by omega), Option.bind_some, Option.bind_some]
  generalize Lib.cut U.data.toList (⟨#[32]⟩ : ByteArray).data.toList = V at m1 m2
  have p1 := pre_len V.1 (⟨#[114]⟩ : ByteArray).data.toList
  have p2 := pre_len V.2.1 (⟨#[115]⟩ : ByteArray).data.toList
  obtain ⟨y, hy⟩ := z48 ⟨(Lib.trimPrefix V.1 (⟨#[114]⟩ : ByteArray).data.toList).toArray⟩ (by rw [z6]; omega)
  obtain ⟨z, hz⟩ := z48 ⟨(Lib.trimPrefix V.2.1 (⟨#[115]⟩ : ByteArray).data.toList).toArray⟩ (by rw [z6]; omega)
  obtain ⟨b, b1, b2, b3⟩ := z10 x.1 (n : Int) x.2.2.1 (by omega) k (by omega)
  obtain rfl : b = true := Option.some.inj (b1.symm.trans e4)
  obtain ⟨d, f1, f2, f3⟩ := z11 y.1 z.1
  have hy' : strconv_Atoi.f ⟨(Lib.trimPrefix (⟨V.1.toArray⟩ : ByteArray).data.toList (⟨#[114]⟩ : ByteArray).data.toList).toArray⟩ = some y := hy
  have hz' : strconv_Atoi.f ⟨(Lib.trimPrefix (⟨V.2.1.toArray⟩ : ByteArray).data.toList (⟨#[115]⟩ : ByteArray).data.toList).toArray⟩ = some z := hz
  rw [hy', Option.bind_some, Option.bind_some, hz', Option.bind_some]
  unfold impl_isSaid.f
  rw [e1, b2, Option.bind_some, if_pos rfl, f2, Option.bind_some, Option.bind_some]
  cases d with
  | false => rw [if_neg (by decide)]; exact ⟨_, rfl, no⟩
  | true =>
   obtain ⟨u0, u1, u2, u3⟩ := f3 rfl
   obtain ⟨a, ha⟩ : ∃ a : Nat, y.1 = a := ⟨y.1.toNat, by omega⟩
   obtain ⟨c, hc⟩ : ∃ c : Nat, z.1 = c := ⟨z.1.toNat, by omega⟩
   obtain ⟨T, t1, t2, t3⟩ := z20 k x.1 n x.2.2.1 a c (by omega) e2 e3 (by omega) (by omega) (by omega)
   rw [if_pos rfl, ha, hc, t2, Option.bind_some]
   rw [ha, hc] at f1
   by_cases q3 : T.toList = s.toList
   ·rw [if_pos q3]
    rw [ByteArray.toList_eq, ByteArray.toList_eq] at q3
    exact ⟨_, rfl, ⟨(fun h => by cases h), fun _ => ⟨n, a, c, rfl, e2, e3, e4, e5, rfl, rfl, f1, by rw [← q3, t3], by omega⟩⟩⟩
   ·rw [if_neg q3]; exact ⟨_, rfl, no⟩
 ·rw [if_neg hx]; exact ⟨_, rfl, no⟩
theorem cs10 (o : ByteArray) (n : Nat) (r : ByteArray) (a c : Nat) (ho : (10 : UInt8) ∉ o.data.toList) : ∀ d ∈ z8 o n r a c, (10 : UInt8) ∉ d.data.toList := by
 intro d hd
 rcases List.mem_append.1 hd with hd | hd
 ·exact cs_no10 o n r ho d hd
 ·simp only [List.mem_cons, List.not_mem_nil, or_false] at hd
  rcases hd with rfl | rfl
  ·simp
  ·exact signL_no10 a c
theorem impl_sback (s o : ByteArray) (n : Nat) (r : ByteArray) (a c : Nat) (hs : s.size ≤ 200) (k : Nat) (hk : 2000000 ≤ k) (hn : n ≤ 1000000) (hr : r.size = 32) (hg : spec_GoodHead.f k o (n : Int) r = some true) (ho : o.size ≤ 1048576) (hf : spec_l6Signed.f (a : Int) (c : Int) = some true)
  (hd : s.data.toList = z5 (z8 o n r a c)) : impl_ReadSaid.f k s = some (o, (n : Int), r, (a : Int), (c : Int), true) := by
 have h10 := z28 o n r (by omega) k hg
 obtain ⟨d, f1, f2, f3⟩ := z11 (a : Int) (c : Int)
 obtain rfl : d = true := Option.some.inj (f1.symm.trans hf)
 obtain ⟨_, fa, _, fc⟩ := f3 rfl
 obtain ⟨b, b1, b2, b3⟩ := z10 o (n : Int) r (by omega) k (by omega)
 obtain rfl : b = true := Option.some.inj (b1.symm.trans hg)
 obtain ⟨T, t1, t2, t3⟩ := z20 k o n r a c (by omega) hn hr (by omega) (by omega) (by omega)
 -- the text in pieces
 obtain ⟨g, G, hG⟩ : ∃ g G, sg_of r.data.toList = g :: G := by
  cases e : sg_of r.data.toList with
  | nil =>
   have := z32 _ _ (Nat.le_refl r.data.toList.length)
   rw [e, z3, hr] at this
   simp at this
  | cons g G => exact ⟨g, G, rfl⟩
 obtain ⟨p, D, hD⟩ : ∃ p D, Lib.decDigits n = p :: D := by
  cases e : Lib.decDigits n with
  | nil => exact absurd e (z34 n)
  | cons p D => exact ⟨p, D, rfl⟩
 have g10 := z42 r.data.toList.length r.data.toList
 have g10 : (10 : UInt8) ∉ sg_of r.data.toList := g10
 have p10 := z60 n
 have hg0 : ¬ g = 10 := fun e => g10 (by rw [hG, e]; exact List.mem_cons_self ..)
 have hp0 : ¬ p = 10 := fun e => p10 (by rw [hD, e]; exact List.mem_cons_self ..)
 have eS : s.data.toList = o.data.toList ++ 10 :: (Lib.decDigits n ++ 10 :: (sg_of r.data.toList ++ 10 :: 10 :: (z4 a c ++ [10]))) := by
  rw [hd]
  simp [z8, z7, z5]
 have i1 := z40 (sg_of r.data.toList) _ 0 g10 (ix_here (z4 a c ++ [10]))
 have i2 : Lib.index (10 :: (sg_of r.data.toList ++ 10 :: 10 :: (z4 a c ++ [10]))) [10, 10] = ((0 + (sg_of r.data.toList).length + 1 : Nat) : Int) := by
  rw [hG] at i1 ⊢
  exact ix_nl g _ _ hg0 i1
 have i3 := z40 (Lib.decDigits n) _ _ p10 i2
 have i4 : Lib.index (10 :: (Lib.decDigits n ++ 10 :: (sg_of r.data.toList ++ 10 :: 10 :: (z4 a c ++ [10])))) [10, 10] = ((0 + (sg_of r.data.toList).length + 1 + (Lib.decDigits n).length + 1 : Nat) : Int) := by
  rw [hD] at i3 ⊢
  exact ix_nl p _ _ hp0 i3
 have i5 := z40 o.data.toList _ _ h10 i4
 rw [← eS] at i5
 have hc1 := cut_at _ _ _ i5
 have eT : s.data.toList = (o.data.toList ++ 10 :: (Lib.decDigits n ++ 10 :: sg_of r.data.toList)) ++ ([10, 10] ++ (z4 a c ++ [10])) := by rw [eS]; simp
 have eL : (o.data.toList ++ 10 :: (Lib.decDigits n ++ 10 :: sg_of r.data.toList)).length = 0 + (sg_of r.data.toList).length + 1 + (Lib.decDigits n).length + 1 + o.data.toList.length := by
  simp only [List.length_append, List.length_cons]; omega
 have k1 : s.data.toList.take (0 + (sg_of r.data.toList).length + 1 + (Lib.decDigits n).length + 1 + o.data.toList.length) = o.data.toList ++ 10 :: (Lib.decDigits n ++ 10 :: sg_of r.data.toList) := by
  rw [eT, ← eL, List.take_left]
 have k2 : s.data.toList.drop (0 + (sg_of r.data.toList).length + 1 + (Lib.decDigits n).length + 1 + o.data.toList.length + [(10 : UInt8), 10].length) = z4 a c ++ [10] := by
  rw [← List.drop_drop, eT, ← eL, List.drop_left]; rfl
 rw [k1, k2] at hc1
 have hcut : strings_Cut.f s (⟨#[10, 10]⟩ : ByteArray) = some (⟨(o.data.toList ++ 10 :: (Lib.decDigits n ++ 10 :: sg_of r.data.toList)).toArray⟩, ⟨(z4 a c ++ [10]).toArray⟩, true) := by
  unfold strings_Cut.f
  rw [if_pos (by omega), show Lib.cut s.data.toList (⟨#[10, 10]⟩ : ByteArray).data.toList = _ from hc1]
 have hhead : impl_readHead.f k ((⟨(o.data.toList ++ 10 :: (Lib.decDigits n ++ 10 :: sg_of r.data.toList)).toArray⟩ : ByteArray) ++ (⟨#[10]⟩ : ByteArray)) = some (o, (n : Int), r, true) := by
  refine z38 _ o n r ?_ k hk hn hr hg ho ?_
  ·rw [ByteArray.size_append, z6]
   have := congrArg List.length eT
   rw [z3, List.length_append] at this
   have e1 : (⟨#[10]⟩ : ByteArray).size = 1 := rfl
   omega
  ·simp [z7, z5]
 have hl2 : (z4 a c ++ [10]).length ≤ 200 := by
  have := congrArg List.length eT
  rw [z3, List.length_append] at this
  have h2 : ([(10 : UInt8), 10] ++ (z4 a c ++ [10])).length = 2 + (z4 a c ++ [10]).length := by rw [List.length_append]; rfl
  omega
 have hsuf : strings_TrimSuffix.f ⟨(z4 a c ++ [10]).toArray⟩ (⟨#[10]⟩ : ByteArray) = some ⟨(z4 a c).toArray⟩ := by
  unfold strings_TrimSuffix.f
  have hl : (z4 a c ++ [10]).length ≤ 200 := hl2
  rw [if_pos (by rw [z6]; omega)]
  have e : Lib.trimSuffix (z4 a c ++ [10]) [10] = z4 a c := by
   unfold Lib.trimSuffix
   rw [if_pos (by simp [Lib.hasSuffix])]
   have e9 : (z4 a c ++ [10]).length - [(10 : UInt8)].length = (z4 a c).length := by rw [List.length_append]; simp
   rw [e9, List.take_left]
  exact congrArg some (congrArg (fun l : List UInt8 => (⟨l.toArray⟩ : ByteArray)) e)
 have r32 : (32 : UInt8) ∉ 114 :: Lib.decDigits a := by
  have := z26 32 (.inr rfl) a
  simp only [List.mem_cons, not_or]
  exact ⟨by decide, this⟩
 have hcut2 : strings_Cut.f ⟨(z4 a c).toArray⟩ (⟨#[32]⟩ : ByteArray) = some (⟨(114 :: Lib.decDigits a).toArray⟩, ⟨(115 :: Lib.decDigits c).toArray⟩, true) := by
  have hl : (z4 a c).length ≤ 200 := by
   rw [List.length_append] at hl2
   omega
  have hi : Lib.index (z4 a c) [32] = (((114 :: Lib.decDigits a).length : Nat) : Int) := by
   rw [Lib.index_one]
   exact idxq 32 _ _ r32
  have e := cut_at _ _ _ hi
  have e1 : (z4 a c).take (114 :: Lib.decDigits a).length = 114 :: Lib.decDigits a := by unfold z4; rw [List.take_left]
  have e2 : (z4 a c).drop ((114 :: Lib.decDigits a).length + [(32 : UInt8)].length) = 115 :: Lib.decDigits c := by
   unfold z4
   rw [← List.drop_drop, List.drop_left]; rfl
  rw [e1, e2] at e
  unfold strings_Cut.f
  rw [if_pos (by rw [z6]; omega), show Lib.cut (⟨(z4 a c).toArray⟩ : ByteArray).data.toList (⟨#[32]⟩ : ByteArray).data.toList = _ from e]
 have hpr : ∀ (q : UInt8) (l : List UInt8), Lib.trimPrefix (q :: l) [q] = l := fun q l => by
  unfold Lib.trimPrefix
  rw [if_pos (by simp [Lib.hasPrefix])]
  rfl
 have hat : ∀ m : Nat, m ≤ 3000 → strconv_Atoi.f ⟨(Lib.decDigits m).toArray⟩ = some ((m : Int), none) := fun m hm => by
  unfold strconv_Atoi.f
  rw [if_pos (by rw [z13]; have := z12 m; omega)]
  have e : Lib.atoiAll (⟨(Lib.decDigits m).toArray⟩ : ByteArray).data.toList = .ok (m : Int) := z62 m (by omega)
  rw [e]
 have hp1 : strings_TrimPrefix.f ⟨(114 :: Lib.decDigits a).toArray⟩ (⟨#[114]⟩ : ByteArray) = some ⟨(Lib.decDigits a).toArray⟩ := congrArg some (congrArg (fun l : List UInt8 => (⟨l.toArray⟩ : ByteArray)) (hpr 114 (Lib.decDigits a)))
 have hp2 : strings_TrimPrefix.f ⟨(115 :: Lib.decDigits c).toArray⟩ (⟨#[115]⟩ : ByteArray) = some ⟨(Lib.decDigits c).toArray⟩ := congrArg some (congrArg (fun l : List UInt8 => (⟨l.toArray⟩ : ByteArray)) (hpr 115 (Lib.decDigits c)))
 have hz : (⟨(o.data.toList ++ 10 :: (Lib.decDigits n ++ 10 :: sg_of r.data.toList)).toArray⟩ : ByteArray).size ≤ 200 := by
  rw [z6]
  have := congrArg List.length eT
  rw [z3, List.length_append] at this
  omega
 unfold impl_ReadSaid.f
 rw [if_neg (by omega), hcut, Option.bind_some, if_pos (by show (⟨(o.data.toList ++ 10 :: (Lib.decDigits n ++ 10 :: sg_of r.data.toList)).toArray⟩ : ByteArray).size + 1 ≤ _; omega), hhead, Option.bind_some, if_pos rfl]
 show ((strings_TrimSuffix.f ⟨(z4 a c ++ [10]).toArray⟩ (⟨#[10]⟩ : ByteArray)).bind _) = _
 rw [hsuf, Option.bind_some, hcut2, Option.bind_some]
 show ((strings_TrimPrefix.f ⟨(114 :: Lib.decDigits a).toArray⟩ (⟨#[114]⟩ : ByteArray)).bind _) = _
 rw [hp1, Option.bind_some, hat a (by omega), Option.bind_some]
 show ((strings_TrimPrefix.f ⟨(115 :: Lib.decDigits c).toArray⟩ (⟨#[115]⟩ : ByteArray)).bind _) = _
 rw [hp2, Option.bind_some, hat c (by omega), Option.bind_some]
 show ((impl_isSaid.f k o (n : Int) r (a : Int) (c : Int)).bind _) = _
 unfold impl_isSaid.f
 rw [b2, Option.bind_some, if_pos rfl, f2, Option.bind_some, Option.bind_some, if_pos rfl]
 show ((impl_saidText.f o (n : Int) r (a : Int) (c : Int)).bind _) = _
 rw [t2, Option.bind_some, if_pos (by rw [ByteArray.toList_eq, ByteArray.toList_eq, t3, hd])]
theorem spec_said (s : ByteArray) (hs : s.size ≤ 1048576) (k : Nat) (hk : 3000000 ≤ k) : ∃ x, spec_ReadSaid.f k s = some x ∧ z49 k s x := by
 have no := z44 k s
 obtain ⟨L, l1, l2, l3⟩ := z36 s (by omega) s.size 0 0 [] k (by omega) (by omega) (by omega) (by simp)
 have l1' : spec_l3Split.f k s 10 = some L := l1
 have l3 : (L.flatMap fun c => c.data.toList).length ≤ s.size := by simpa using l3
 obtain ⟨k, rfl⟩ : ∃ m, k = m + 2 := ⟨k - 2, by omega⟩
 unfold spec_ReadSaid.f
 rw [l1', Option.bind_some]
 by_cases c : (s.size : Int) > 200
 ·rw [if_pos c, spec_ReadSaid.j0, if_pos rfl]; exact ⟨_, rfl, no⟩
 rw [if_neg c, spec_ReadSaid.j0]
 by_cases c4 : (L.length : Int) = 6
 rotate_left
 ·rw [if_pos (by simpa using c4)]; exact ⟨_, rfl, no⟩
 have hz := rd_size L s.size (fun c hc => by have := mem_flat L c hc; omega)
 obtain ⟨w, w1, w2, w3⟩ := z23 32 (rdOf ByteArray.empty L 4) (by have := hz 4; omega) (rdOf ByteArray.empty L 4).size 0 0 [] (k + 1) (by omega) (by omega) (by have := hz 4; omega) (by simp)
 have w1' : spec_l3Split.f (k + 1) (rdOf ByteArray.empty L 4) 32 = some w := w1
 rw [if_neg (by simp [c4]), if_pos (by omega), w1', Option.bind_some]
 have bad : ∃ x, spec_ReadSaid.j1 (k + 1) s L w true = some x ∧ z49 (k + 2) s x := by
  rw [spec_ReadSaid.j1, if_pos rfl]; exact ⟨_, rfl, no⟩
 by_cases q1 : (w.length : Int) = 2
 rotate_left
 ·rw [if_neg q1]; exact bad
 rw [if_pos q1, if_pos (by omega)]
 by_cases q2 : ((rdOf ByteArray.empty w 0).size : Int) < 2
 ·rw [if_pos q2]; exact bad
 rw [if_neg q2, if_pos (by omega)]
 by_cases q3 : ((rdOf ByteArray.empty w 1).size : Int) < 2
 ·rw [decide_eq_true q3]; exact bad
 rw [decide_eq_false q3, spec_ReadSaid.j1, if_neg (by decide), if_pos (by omega)]
 obtain ⟨y, y1, _⟩ := so_total (rdOf ByteArray.empty L 2) (by have := hz 2; omega) k (by omega)
 obtain ⟨v, hv⟩ := z16 (rdOf ByteArray.empty L 1) k (by omega)
 obtain ⟨a, ha⟩ := z16 ((rdOf ByteArray.empty w 0).extract 1 (rdOf ByteArray.empty w 0).size) k (by omega)
 obtain ⟨d, hd⟩ := z16 ((rdOf ByteArray.empty w 1).extract 1 (rdOf ByteArray.empty w 1).size) k (by omega)
 obtain ⟨b, b1, b2, b3⟩ := z10 (rdOf ByteArray.empty L 0) v y.1 (by have := hz 0; omega) k (by have := hz 0; omega)
 obtain ⟨e, f1, f2, f3⟩ := z11 a d
 rw [y1, Option.bind_some, if_pos (by omega), if_pos (by omega), hv, Option.bind_some, if_pos (by omega), if_pos (by omega), ha, Option.bind_some, if_pos (by omega), if_pos (by omega), hd, Option.bind_some]
 unfold spec_l14Good.f
 rw [b1, Option.bind_some]
 cases b with
 | false => rw [if_neg (by decide), Option.bind_some, if_neg (by decide)]; exact ⟨_, rfl, no⟩
 | true =>
  rw [if_pos rfl, f1, Option.bind_some, Option.bind_some]
  cases e with
  | false => rw [if_neg (by decide)]; exact ⟨_, rfl, no⟩
  | true =>
   obtain ⟨v0, v1, v2⟩ := b3 rfl
   obtain ⟨u0, u1, u2, u3⟩ := f3 rfl
   obtain ⟨n, rfl⟩ : ∃ n : Nat, v = n := ⟨v.toNat, by omega⟩
   obtain ⟨a, rfl⟩ : ∃ m : Nat, a = m := ⟨a.toNat, by omega⟩
   obtain ⟨d, rfl⟩ : ∃ m : Nat, d = m := ⟨d.toNat, by omega⟩
   obtain ⟨T, t1, t2, t3⟩ := z20 k (rdOf ByteArray.empty L 0) n y.1 a d (by have := hz 0; omega) (by omega) v2 (by omega) (by omega) (by omega)
   rw [if_pos rfl, t1, Option.bind_some]
   by_cases q4 : T.toList = s.toList
   ·rw [if_pos q4]
    rw [ByteArray.toList_eq, ByteArray.toList_eq] at q4
    exact ⟨_, rfl, ⟨(fun h => by cases h), fun _ => ⟨n, a, d, rfl, by omega, v2, spec_GoodHead.mono _ _ _ (k + 1) _ (spec_GoodHead.mono _ _ _ k _ b1), by have := hz 0; show (rdOf ByteArray.empty L 0).size ≤ 1048576; omega, rfl, rfl, f1, by rw [← q4, t3], by omega⟩⟩⟩
   ·rw [if_neg q4]; exact ⟨_, rfl, no⟩
theorem z59 (q : UInt8) (l : List UInt8) : (⟨(q :: l).toArray⟩ : ByteArray).extract 1 (⟨(q :: l).toArray⟩ : ByteArray).size = ⟨l.toArray⟩ := by
 apply z29
 rw [z18, z6]
 simp
theorem spec_sback (s o : ByteArray) (n : Nat) (r : ByteArray) (a c : Nat) (hs : s.size ≤ 200) (k : Nat) (hk : 3000000 ≤ k) (hn : n ≤ 1000000) (hr : r.size = 32) (hg : spec_GoodHead.f k o (n : Int) r = some true) (ho : o.size ≤ 1048576) (hf : spec_l6Signed.f (a : Int) (c : Int) = some true)
  (hd : s.data.toList = z5 (z8 o n r a c)) : spec_ReadSaid.f k s = some (o, (n : Int), r, (a : Int), (c : Int), true) := by
 have h10 := z28 o n r (by omega) k hg
 obtain ⟨d, f1, f2, f3⟩ := z11 (a : Int) (c : Int)
 obtain rfl : d = true := Option.some.inj (f1.symm.trans hf)
 obtain ⟨_, fa, _, fc⟩ := f3 rfl
 have l1 := sp_split s (by omega) _ (cs10 o n r a c h10) hd k (by omega) (by simp [z8, z7])
 obtain ⟨k, rfl⟩ : ∃ m, k = m + 2 := ⟨k - 2, by omega⟩
 obtain ⟨b, b1, b2, b3⟩ := z10 o (n : Int) r (by omega) k (by omega)
 obtain rfl : b = true := Option.some.inj ((spec_GoodHead.mono _ _ _ (k + 1) _ (spec_GoodHead.mono _ _ _ k _ b1)).symm.trans hg)
 obtain ⟨T, t1, t2, t3⟩ := z20 k o n r a c (by omega) hn hr (by omega) (by omega) (by omega)
 have e0 : rdOf ByteArray.empty (z8 o n r a c ++ [(⟨#[]⟩ : ByteArray)]) 0 = o := rfl
 have e1 : rdOf ByteArray.empty (z8 o n r a c ++ [(⟨#[]⟩ : ByteArray)]) 1 = ⟨(Lib.decDigits n).toArray⟩ := rfl
 have e2 : rdOf ByteArray.empty (z8 o n r a c ++ [(⟨#[]⟩ : ByteArray)]) 2 = ⟨(sg_of r.data.toList).toArray⟩ := rfl
 have e4 : rdOf ByteArray.empty (z8 o n r a c ++ [(⟨#[]⟩ : ByteArray)]) 4 = ⟨(z4 a c).toArray⟩ := rfl
 have el : (z8 o n r a c ++ [(⟨#[]⟩ : ByteArray)]).length = 6 := rfl
 have r32 : (32 : UInt8) ∉ 114 :: Lib.decDigits a := by
  have := z26 32 (.inr rfl) a
  simp only [List.mem_cons, not_or]
  exact ⟨by decide, this⟩
 have s32 : (32 : UInt8) ∉ 115 :: Lib.decDigits c := by
  have := z26 32 (.inr rfl) c
  simp only [List.mem_cons, not_or]
  exact ⟨by decide, this⟩
 have la := z12 a
 have lc := z12 c
 have sl : (⟨(z4 a c).toArray⟩ : ByteArray).size = (114 :: Lib.decDigits a).length + 1 + (115 :: Lib.decDigits c).length := by
  rw [z6]; simp only [z4, List.length_append, List.length_cons]; omega
 have hw : spec_l3Split.f (k + 1) ⟨(z4 a c).toArray⟩ 32 = some [⟨(114 :: Lib.decDigits a).toArray⟩, ⟨(115 :: Lib.decDigits c).toArray⟩] := by
  have hsz : (⟨(z4 a c).toArray⟩ : ByteArray).size ≤ 1100000 := by rw [sl]; simp only [List.length_cons]; omega
  obtain ⟨j, hj⟩ : ∃ j, k + 1 = j + (114 :: Lib.decDigits a).length + 1 := ⟨k - (114 :: Lib.decDigits a).length, by simp only [List.length_cons]; omega⟩
  have z1 := spq_seg 32 ⟨(z4 a c).toArray⟩ hsz 0 (114 :: Lib.decDigits a) (115 :: Lib.decDigits c) r32 rfl (114 :: Lib.decDigits a).length 0 (by omega) [] j (by simp)
  have hdrop : (⟨(z4 a c).toArray⟩ : ByteArray).data.toList.drop (0 + (114 :: Lib.decDigits a).length + 1) = 115 :: Lib.decDigits c := by
   show (z4 a c).drop _ = _
   unfold z4
   rw [Nat.zero_add, ← List.drop_drop, List.drop_left]; rfl
  have z2 := spq_end 32 ⟨(z4 a c).toArray⟩ hsz (0 + (114 :: Lib.decDigits a).length + 1) (by rw [sl]; omega) (by rw [hdrop]; exact s32) (115 :: Lib.decDigits c).length (0 + (114 :: Lib.decDigits a).length + 1) (by rw [sl]; omega) (Nat.le_refl _) [⟨(114 :: Lib.decDigits a).toArray⟩] j (by simp) (by simp only [List.length_cons] at hj ⊢; omega)
  rw [hdrop] at z2
  unfold spec_l3Split.f
  rw [hj]
  exact z1.trans z2
 have w0 : rdOf ByteArray.empty [(⟨(114 :: Lib.decDigits a).toArray⟩ : ByteArray), ⟨(115 :: Lib.decDigits c).toArray⟩] 0 = ⟨(114 :: Lib.decDigits a).toArray⟩ := rfl
 have w1 : rdOf ByteArray.empty [(⟨(114 :: Lib.decDigits a).toArray⟩ : ByteArray), ⟨(115 :: Lib.decDigits c).toArray⟩] 1 = ⟨(115 :: Lib.decDigits c).toArray⟩ := rfl
 have wl : [(⟨(114 :: Lib.decDigits a).toArray⟩ : ByteArray), ⟨(115 :: Lib.decDigits c).toArray⟩].length = 2 := rfl
 have pa : 0 < (Lib.decDigits a).length := List.length_pos_iff.2 (z34 a)
 have pc : 0 < (Lib.decDigits c).length := List.length_pos_iff.2 (z34 c)
 have za : (⟨(114 :: Lib.decDigits a).toArray⟩ : ByteArray).size = (Lib.decDigits a).length + 1 := by rw [z6]; rfl
 have zc : (⟨(115 :: Lib.decDigits c).toArray⟩ : ByteArray).size = (Lib.decDigits c).length + 1 := by rw [z6]; rfl
 unfold spec_ReadSaid.f
 rw [l1, Option.bind_some, if_neg (by omega), el, spec_ReadSaid.j0, if_neg (by decide), el, if_pos (by decide), e4, hw, Option.bind_some, wl, if_pos (by decide), if_pos (by decide), w0, if_neg (by rw [za]; omega), if_pos (by decide), w1, decide_eq_false (by rw [zc]; omega), spec_ReadSaid.j1, if_neg (by decide), el, if_pos (by decide), e2, so_of r _ (by omega) rfl k (by omega), Option.bind_some, if_pos (by decide), if_pos (by decide), e1, z22 n hn k (by omega), Option.bind_some, wl, if_pos (by decide), w0, if_pos (by rw [za]; omega), z59, z22 a (by omega) k (by omega), Option.bind_some, if_pos (by decide), w1, if_pos (by rw [zc]; omega), z59, z22 c (by omega) k (by omega), Option.bind_some, e0]
 show ((spec_l14Good.f k o (n : Int) r (a : Int) (c : Int)).bind _) = _
 unfold spec_l14Good.f
 rw [b1, Option.bind_some, if_pos rfl, f1, Option.bind_some, Option.bind_some, if_pos rfl]
 show ((spec_l14SaidText.f k o (n : Int) r (a : Int) (c : Int)).bind _) = _
 rw [t1, Option.bind_some, if_pos (by rw [ByteArray.toList_eq, ByteArray.toList_eq, t3, hd])]
theorem FnExactReadSaid : laws_FnExactReadSaid.Pure := by
 intro s hs
 refine ⟨3000000, ?_⟩
 unfold laws_FnExactReadSaid.f
 by_cases c : (s.size : Int) > 1048576
 ·rw [if_pos c]
 rw [if_neg c]
 obtain ⟨x, x1, ⟨x2, x3⟩⟩ := spec_said s (by omega) 3000000 (by omega)
 obtain ⟨y, y1, ⟨y2, y3⟩⟩ := impl_said s 3000000 (by omega)
 have e : y = x := by
  rcases hx : x.2.2.2.2.2 with _ | _
  ·rcases hy : y.2.2.2.2.2 with _ | _
   ·rw [x2 hx, y2 hy]
   ·obtain ⟨n, a, c, a1, a2, a3, a4, a5, a6, a7, a8, a9, a10⟩ := y3 hy
    have := spec_sback s y.1 n y.2.2.1 a c a10 3000000 (by omega) a2 a3 a4 a5 a8 a9
    rw [x1] at this
    rw [Option.some.inj this] at hx
    cases hx
  ·obtain ⟨n, a, c, a1, a2, a3, a4, a5, a6, a7, a8, a9, a10⟩ := x3 hx
   have := impl_sback s x.1 n x.2.2.1 a c a10 3000000 (by omega) a2 a3 a4 a5 a8 a9
   rw [y1] at this
   rw [Option.some.inj this, ← a1, ← a6, ← a7]
   obtain ⟨p, q, r, u, v, b⟩ := x
   simp only at hx
   rw [hx]
 rw [x1, Option.bind_some, y1, Option.bind_some, e]
 unfold laws_eqSaid.f laws_eqHead.f laws_eqSigned.f
 rw [if_pos rfl, if_pos rfl, if_pos rfl, Option.bind_some, if_pos rfl, if_pos rfl, if_pos rfl, Option.bind_some, if_pos rfl, Option.bind_some, if_pos rfl, if_neg (by simp)]
end Go.Proofs.YtgoedenbekedbaaGreatDoor.Pure