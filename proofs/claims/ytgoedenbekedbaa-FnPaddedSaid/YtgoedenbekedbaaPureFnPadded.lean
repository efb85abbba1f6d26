/-
The pure statement of FnPadded is proved: padded texts are whole blocks and come back, no two are padded alike, and bits that are turned come back, for whatever is drawn.
Conditions: the arguments are slices of bytes that Go can hold. None besides.
-/
import Derived.Test.YtgoedenbekedbaaPFnPaddedx5
set_option linter.unusedVariables false
set_option linter.unusedSimpArgs false
namespace Go.Proofs.Ytgoedenbekedbaa.Pure
open Go.RowKit Go.Proofs.Ytgoedenbekedbaa.PFnPadded Go.Proofs.YtgoedenbekedbaaW.PrintWords Go.Proofs.YtgoedenbekedbaaW.PrintLast Go.Proofs.YtgoedenbekedbaaW.PrintMore

theorem w64 {n : Int} (h0 : -9223372036854775808 ≤ n) (h1 : n ≤ 9223372036854775807) : wrap64 n = n := by unfold wrap64; omega
theorem rd_set (l : List Int) (i j v : Int) (h0 : 0 ≤ i) (h1 : i < l.length) (hj : 0 ≤ j) : rd (l.set i.toNat v) j = if j = i then v else rd l j := by
  unfold rd
  rw [List.getD_eq_getElem?_getD, List.getD_eq_getElem?_getD, List.getElem?_set]
  by_cases e : j = i
  · subst e; rw [if_pos rfl, if_pos (by omega), if_pos rfl]; rfl
  · rw [if_neg (by omega), if_neg e]
theorem rdOf_set {α : Type} (d : α) (l : List α) (i j : Int) (v : α) (h0 : 0 ≤ i) (h1 : i < l.length) (hj : 0 ≤ j) : rdOf d (l.set i.toNat v) j = if j = i then v else rdOf d l j := by
  unfold rdOf
  rw [List.getD_eq_getElem?_getD, List.getD_eq_getElem?_getD, List.getElem?_set]
  by_cases e : j = i
  · subst e; rw [if_pos rfl, if_pos (by omega), if_pos rfl]; rfl
  · rw [if_neg (by omega), if_neg e]

/-! The reader of choices: it never fails, and tells numbers in their ranges. -/
def Bytes8 (l : List Int) : Prop := ∀ x ∈ l, 0 ≤ x ∧ x ≤ 255
theorem bytes_of_wf {l : List Int} (h : ∀ x ∈ l, (Lit.int .u8 x).wf = true) : Bytes8 l := fun x hx => by
  have := h x hx
  simpa [Lit.wf, IntKind.min, IntKind.max, IntKind.signed, IntKind.bits] using this
theorem bytes_rd {l : List Int} (h : Bytes8 l) (i : Int) (h0 : 0 ≤ i) (h1 : i < l.length) : 0 ≤ rd l i ∧ rd l i ≤ 255 := by
  have hi : i.toNat < l.length := by omega
  have : rd l i = l[i.toNat] := by simp [rd, List.getD_eq_getElem?_getD, hi]
  rw [this]; exact h _ (List.getElem_mem hi)
theorem and255 (x : Int) (h0 : 0 ≤ x) (h1 : x < 18446744073709551616) : Go.bits .and .u64 x 255 = x % 256 := by
  have h := bits_mask .u64 64 (by decide) (fun n h₀ h₁ => by simp [IntKind.wrap, IntKind.bits, IntKind.signed]; omega) 8 (by decide) x h0 (by omega)
  simpa using h
theorem u64_range (x : Int) : 0 ≤ IntKind.u64.wrap x ∧ IntKind.u64.wrap x < 18446744073709551616 := by simp [IntKind.wrap, IntKind.bits, IntKind.signed]; omega
theorem cur_next (l : List Int) (hl : Bytes8 l) (at_ s : Int) (h0 : 0 ≤ at_) (h1 : at_ < 4611686018427387904) : ∃ r s', spec_l1Cur_next.f l at_ s = some (r, at_ + 1, s') ∧ 0 ≤ r ∧ r ≤ 255 := by
  have hw : wrap64 (at_ + 1) = at_ + 1 := w64 (by omega) (by omega)
  have hseed : ∀ x : Int, 0 ≤ wrap64 (Go.bits .and .u64 (IntKind.u64.wrap x / 1099511627776) 255) ∧ wrap64 (Go.bits .and .u64 (IntKind.u64.wrap x / 1099511627776) 255) ≤ 255 := fun x => by
    have hx := u64_range x
    rw [and255 _ (by omega) (by omega), w64 (by omega) (by omega)]; omega
  unfold spec_l1Cur_next.f
  rw [hw]
  by_cases hlt : at_ < (l.length : Int)
  · have hb := bytes_rd hl at_ h0 hlt
    rw [if_pos hlt, if_pos h0]
    split
    · exact ⟨_, _, rfl, by rw [w64 (by omega) (by omega)]; exact hb.1, by rw [w64 (by omega) (by omega)]; exact hb.2⟩
    · exact ⟨_, _, rfl, (hseed _).1, (hseed _).2⟩
  · rw [if_neg hlt]
    split
    · exact ⟨_, _, rfl, by omega, by omega⟩
    · exact ⟨_, _, rfl, (hseed _).1, (hseed _).2⟩
theorem cur_pick (l : List Int) (hl : Bytes8 l) (at_ s n : Int) (h0 : 0 ≤ at_) (h1 : at_ < 2305843009213693952) (hn : n < 4611686018427387904) : ∃ r a' s', spec_l1Cur_pick.f l at_ s n = some (r, a', s') ∧ at_ ≤ a' ∧ a' ≤ at_ + 2 ∧ 0 ≤ r ∧ (1 ≤ n → r < n) := by
  unfold spec_l1Cur_pick.f
  by_cases hs : n ≤ 1
  · rw [if_pos hs]; exact ⟨0, at_, s, rfl, by omega, by omega, by omega, by omega⟩
  rw [if_neg hs]
  obtain ⟨r, s', h, hr0, hr1⟩ := cur_next l hl at_ s h0 (by omega)
  rw [h]
  simp only [Option.bind_some]
  by_cases hb : n > 200
  · obtain ⟨r2, s2, h2, h3, h4⟩ := cur_next l hl (at_ + 1) s' (by omega) (by omega)
    rw [if_pos hb, h2]
    simp only [Option.bind_some]
    rw [if_neg (by omega), w64 (n := r * 256) (by omega) (by omega), w64 (by omega) (by omega), Int.tmod_eq_emod_of_nonneg (by omega)]
    exact ⟨_, _, _, rfl, by omega, by omega, Int.emod_nonneg _ (by omega), fun _ => Int.emod_lt_of_pos _ (by omega)⟩
  · rw [if_neg hb, if_neg (by omega), Int.tmod_eq_emod_of_nonneg (by omega)]
    exact ⟨_, _, _, rfl, by omega, by omega, Int.emod_nonneg _ (by omega), fun _ => Int.emod_lt_of_pos _ (by omega)⟩
theorem cur_one (l : List Int) (hl : Bytes8 l) (at_ s n : Int) (h0 : 0 ≤ at_) (h1 : at_ < 2305843009213693952) (hn : n < 4611686018427387904) : ∃ b a' s', spec_l1Cur_one.f l at_ s n = some (b, a', s') ∧ at_ ≤ a' ∧ a' ≤ at_ + 2 := by
  obtain ⟨r, a', s', h, h2, h3, _⟩ := cur_pick l hl at_ s n h0 h1 hn
  unfold spec_l1Cur_one.f
  rw [h]
  exact ⟨_, _, _, rfl, h2, h3⟩

theorem cur_among (l : List Int) (hl : Bytes8 l) (at_ s : Int) (m : List Int) (hm : 1 ≤ m.length) (hm2 : m.length < 4000000000) (h0 : 0 ≤ at_) (h1 : at_ < 2305843009213693952) : ∃ r a' s', spec_l1Cur_among.f l at_ s m = some (r, a', s') ∧ at_ ≤ a' ∧ a' ≤ at_ + 2 ∧ r ∈ m := by
  obtain ⟨r, a', s', h, h2, h3, h4, h5⟩ := cur_pick l hl at_ s m.length h0 h1 (by omega)
  have h5 := h5 (by omega)
  unfold spec_l1Cur_among.f
  rw [h]
  simp only [Option.bind_some]
  rw [if_pos h4, if_pos h5]
  refine ⟨_, _, _, rfl, h2, h3, ?_⟩
  have hi : r.toNat < m.length := by omega
  have : rd m r = m[r.toNat] := by simp [rd, List.getD_eq_getElem?_getD, hi]
  rw [this]; exact List.getElem_mem hi

theorem size_nums' (l : List Int) : (strOfNums l).size = l.length := by simp [strOfNums, ByteArray.size]
theorem cur_text_l0 (l : List Int) (hl : Bytes8 l) : ∀ (d i : Nat) (y : List Int) (at_ s : Int), i + d = y.length → y.length ≤ 1000 → 0 ≤ at_ → at_ + 2 * d < 1000000000000 →
    ∃ r a' s', (∀ k : Nat, spec_l1Cur_text.l0 (k + d + 1) y (y.length : Int) (i : Int) l at_ s = some (r, a', s')) ∧ at_ ≤ a' ∧ a' ≤ at_ + 2 * d ∧ r.size = y.length
  | 0, i, y, at_, s, hi, hy, h0, h1 => ⟨strOfNums y, at_, s, fun k => by rw [spec_l1Cur_text.l0, if_neg (by omega)], by omega, by omega, size_nums' y⟩
  | d + 1, i, y, at_, s, hi, hy, h0, h1 => by
    obtain ⟨r, a1, s1, p1, q1, q2, q3, q4⟩ := cur_pick l hl at_ s 256 h0 (by omega) (by omega)
    have hw : wrap64 ((i : Int) + 1) = ((i + 1 : Nat) : Int) := by rw [w64 (by omega) (by omega)]; omega
    have hl2 : (y.set ((i : Int)).toNat (r % 256)).length = y.length := List.length_set ..
    obtain ⟨r', a', s', e, e1, e2, e3⟩ := cur_text_l0 l hl d (i + 1) (y.set ((i : Int)).toNat (r % 256)) a1 s1 (by rw [hl2]; omega) (by rw [hl2]; omega) (by omega) (by omega)
    rw [hl2] at e e3
    refine ⟨r', a', s', fun k => ?_, by omega, by omega, e3⟩
    rw [show k + (d + 1) + 1 = (k + d + 1) + 1 from rfl, spec_l1Cur_text.l0, if_pos (by omega), p1, Option.bind_some]
    simp only
    rw [if_pos (by omega), if_pos (by omega), hw]
    exact e k
theorem cur_text (l : List Int) (hl : Bytes8 l) (at_ s : Int) (h0 : 0 ≤ at_) (h1 : at_ < 1000000000) (k : Nat) (hk : 100 ≤ k) :
    ∃ r a' s', spec_l1Cur_text.f k l at_ s = some (r, a', s') ∧ at_ ≤ a' ∧ a' ≤ at_ + 100 ∧ r.size ≤ 601 := by
  obtain ⟨b, a1, s1, p1, q1, q2⟩ := cur_one l hl at_ s 12 h0 (by omega) (by omega)
  unfold spec_l1Cur_text.f
  rw [p1, Option.bind_some]
  cases b with
  | true =>
    obtain ⟨r, a2, s2, p2, r1, r2, r3⟩ := cur_among l hl a1 s1 [55, 56, 63, 64, 65, 119, 600, 601] (by decide) (by decide) (by omega) (by omega)
    have hr : 0 ≤ r ∧ r ≤ 601 := by
      have : ∀ x ∈ ([55, 56, 63, 64, 65, 119, 600, 601] : List Int), 0 ≤ x ∧ x ≤ 601 := by decide
      exact this r r3
    simp only [if_true]
    rw [p2, Option.bind_some]
    simp only
    rw [if_pos hr.1, if_pos (by omega)]
    exact ⟨_, _, _, rfl, by omega, by omega, by rw [size_nums', List.length_replicate]; omega⟩
  | false =>
    obtain ⟨n, a2, s2, p2, r1, r2, r3, r4⟩ := cur_pick l hl a1 s1 20 (by omega) (by omega) (by omega)
    have r4 := r4 (by omega)
    simp only [Bool.false_eq_true, if_false]
    rw [p2, Option.bind_some]
    simp only
    rw [if_pos r3, if_pos (by omega), Option.bind_some]
    obtain ⟨r, a', s', e, e1, e2, e3⟩ := cur_text_l0 l hl n.toNat 0 (List.replicate n.toNat 0) a2 s2 (by rw [List.length_replicate]; omega) (by rw [List.length_replicate]; omega) (by omega) (by omega)
    have := e (k - n.toNat - 1)
    rw [show k - n.toNat - 1 + n.toNat + 1 = k by omega] at this
    exact ⟨r, a', s', this, by omega, by omega, by rw [e3, List.length_replicate]; omega⟩

def pdZ (n : Nat) : Nat := (119 - n % 64) % 64
/-- What is put behind a text of n bytes. -/
def pdL (n : Nat) : List Int := [128] ++ List.replicate (pdZ n) 0 ++ [0, 0, 0, 0, 0, 0, ((8 * n / 256 : Nat) : Int), ((8 * n % 256 : Nat) : Int)]
def pdT (n : Nat) : ByteArray := strOfNums (pdL n)
theorem pd_size (n : Nat) : (pdT n).size = pdZ n + 9 := by
  unfold pdT; rw [size_nums']; unfold pdL; simp
theorem pd_whole (n : Nat) : (n + (pdZ n + 9)) % 64 = 0 ∧ pdZ n ≤ 63 := by unfold pdZ; omega
theorem pd_l0 (n : Nat) (hn : n ≤ 600) : ∀ (d j : Nat), j + d = pdZ n → ∀ k, spec_l1Tail.l0 (k + d + 1) (n : Int) ([128] ++ List.replicate j 0) = spec_l1Tail.l1 k (n : Int) ([128] ++ List.replicate (pdZ n) 0) 7
  | 0, j, hj, k => by
    have e : j = pdZ n := by omega
    subst e
    rw [spec_l1Tail.l0, if_pos]
    rw [w64 (by simp; omega) (by simp; have := pd_whole n; omega), Int.tmod_eq_emod_of_nonneg (by simp; omega)]
    simp
    unfold pdZ
    omega
  | d + 1, j, hj, k => by
    have hz := pd_whole n
    rw [show k + (d + 1) + 1 = (k + d + 1) + 1 from rfl, spec_l1Tail.l0, if_neg, if_pos (by simp; omega)]
    · rw [List.append_assoc, show List.replicate j (0 : Int) ++ [0] = List.replicate (j + 1) 0 from List.replicate_succ'.symm]
      exact pd_l0 n hn d (j + 1) (by omega) k
    · rw [w64 (by simp; omega) (by simp; omega), Int.tmod_eq_emod_of_nonneg (by simp; omega)]
      simp
      unfold pdZ at hj
      omega
theorem pd_shr (v s : Nat) (hs : s ≤ 56) : shr .i64 (v : Int) (s : Int) = ((v / 2 ^ s : Nat) : Int) := by
  unfold shr
  rw [Int.toNat_natCast, Nat.min_eq_left (by show s ≤ 64; omega)]
  push_cast
  rfl
theorem pd_l1 (n : Nat) (hn : n ≤ 600) (y : List Int) (hy : y.length < 1000) (k : Nat) : spec_l1Tail.l1 (k + 9) (n : Int) y 7 = some (strOfNums (y ++ [0, 0, 0, 0, 0, 0, ((8 * n / 256 : Nat) : Int), ((8 * n % 256 : Nat) : Int)])) := by
  have hw : wrap64 (8 * (n : Int)) = ((8 * n : Nat) : Int) := by rw [w64 (by omega) (by omega)]; push_cast; rfl
  have step : ∀ (i : Nat) (hi : i ≤ 7) (j : Nat) (z : List Int), z.length < 1100 → spec_l1Tail.l1 (j + 1) (n : Int) z (i : Int) = spec_l1Tail.l1 j (n : Int) (z ++ [((8 * n / 2 ^ (8 * i) % 256 : Nat) : Int)]) ((i : Int) - 1) := by
    intro i hi j z hz
    have hu : IntKind.u64.wrap (wrap64 (8 * (i : Int))) = ((8 * i : Nat) : Int) := by rw [w64 (by omega) (by omega), IntKind.wrap_u64]; omega
    rw [spec_l1Tail.l1, if_pos (by omega), hu, if_pos (by omega), if_pos (by omega), hw, pd_shr _ _ (by omega), w64 (by omega) (by omega)]
    rfl
  rw [show k + 9 = (k + 8) + 1 from rfl, show (7 : Int) = ((7 : Nat) : Int) from rfl, step 7 (by omega) _ _ (by omega)]
  rw [show (((7 : Nat) : Int) - 1) = ((6 : Nat) : Int) from rfl, show k + 8 = (k + 7) + 1 from rfl, step 6 (by omega) _ _ (by simp; omega)]
  rw [show (((6 : Nat) : Int) - 1) = ((5 : Nat) : Int) from rfl, show k + 7 = (k + 6) + 1 from rfl, step 5 (by omega) _ _ (by simp; omega)]
  rw [show (((5 : Nat) : Int) - 1) = ((4 : Nat) : Int) from rfl, show k + 6 = (k + 5) + 1 from rfl, step 4 (by omega) _ _ (by simp; omega)]
  rw [show (((4 : Nat) : Int) - 1) = ((3 : Nat) : Int) from rfl, show k + 5 = (k + 4) + 1 from rfl, step 3 (by omega) _ _ (by simp; omega)]
  rw [show (((3 : Nat) : Int) - 1) = ((2 : Nat) : Int) from rfl, show k + 4 = (k + 3) + 1 from rfl, step 2 (by omega) _ _ (by simp; omega)]
  rw [show (((2 : Nat) : Int) - 1) = ((1 : Nat) : Int) from rfl, show k + 3 = (k + 2) + 1 from rfl, step 1 (by omega) _ _ (by simp; omega)]
  rw [show (((1 : Nat) : Int) - 1) = ((0 : Nat) : Int) from rfl, show k + 2 = (k + 1) + 1 from rfl, step 0 (by omega) _ _ (by simp; omega)]
  rw [spec_l1Tail.l1, if_neg (by omega)]
  have e : ∀ i, 2 ≤ i → i ≤ 7 → 8 * n / 2 ^ (8 * i) % 256 = 0 := fun i h2 h7 => by
    rw [Nat.div_eq_of_lt]
    exact Nat.lt_of_lt_of_le (show 8 * n < 2 ^ 16 by omega) (Nat.pow_le_pow_right (by decide) (by omega))
  rw [e 7 (by omega) (by omega), e 6 (by omega) (by omega), e 5 (by omega) (by omega), e 4 (by omega) (by omega), e 3 (by omega) (by omega), e 2 (by omega) (by omega)]
  rw [show 8 * n / 2 ^ (8 * 1) % 256 = 8 * n / 256 by omega, show 8 * n / 2 ^ (8 * 0) % 256 = 8 * n % 256 by omega]
  simp only [List.append_assoc, List.cons_append, List.nil_append]
  rfl
theorem pd_tail (n : Nat) (hn : n ≤ 600) (k : Nat) (hk : 100 ≤ k) : spec_l1Tail.f k (n : Int) = some (pdT n) := by
  have hz := pd_whole n
  unfold spec_l1Tail.f
  have h := pd_l0 n hn (pdZ n) 0 (by omega) (k - pdZ n - 1)
  rw [show k - pdZ n - 1 + pdZ n + 1 = k by omega] at h
  rw [show ([128] : List Int) = [128] ++ List.replicate 0 0 from rfl, h, show k - pdZ n - 1 = (k - pdZ n - 1 - 9) + 9 by omega, pd_l1 n hn _ (by simp; omega)]
  rfl

theorem pd_nums (xs ys : List Int) : strOfNums (xs ++ ys) = strOfNums xs ++ strOfNums ys := by
  apply ByteArray.ext
  rw [ByteArray.data_append]
  simp [strOfNums]
theorem pd_repeat : ∀ z : Nat, (Lib.repeatL [0] z) = List.replicate z (0 : UInt8)
  | 0 => rfl
  | z + 1 => by rw [Lib.repeatL, pd_repeat z]; rfl
theorem pd_rep (z : Nat) (hz : z ≤ 63) : strings_Repeat.f (⟨#[0]⟩ : ByteArray) (z : Int) = some (strOfNums (List.replicate z 0)) := by
  unfold strings_Repeat.f
  rw [if_pos ⟨by omega, by omega, by show 1 * (z : Int).toNat ≤ _; omega⟩]
  congr 1
  rw [Int.toNat_natCast]
  show (⟨(Lib.repeatL [0] z).toArray⟩ : ByteArray) = _
  rw [pd_repeat]
  apply ByteArray.ext
  simp [strOfNums]
theorem pd_big_step (k : Nat) (v i : Nat) (y : List Int) (hy : y.length = 8) (hi : i ≤ 7) : impl_bigEndian.l0 (k + 1) (v : Int) y (i : Int) = impl_bigEndian.l0 k ((v / 256 : Nat) : Int) (y.set i ((v % 256 : Nat) : Int)) ((i : Int) - 1) := by
  rw [impl_bigEndian.l0, if_pos (by omega), if_pos (by omega), if_pos (by omega), w64 (by omega) (by omega)]
  rfl
theorem pd_big (v : Nat) (hv : v < 65536) (k : Nat) (hk : 20 ≤ k) : impl_bigEndian.f k (v : Int) 8 = some (strOfNums [0, 0, 0, 0, 0, 0, ((v / 256 : Nat) : Int), ((v % 256 : Nat) : Int)]) := by
  obtain ⟨k, rfl⟩ : ∃ m, k = m + 9 := ⟨k - 9, by omega⟩
  unfold impl_bigEndian.f
  rw [if_pos (by decide), if_pos (by decide), show wrap64 (8 - 1) = ((7 : Nat) : Int) by rw [w64 (by decide) (by decide)]; rfl]
  rw [show List.replicate ((8 : Int)).toNat (0 : Int) = [0, 0, 0, 0, 0, 0, 0, 0] from rfl]
  rw [show k + 9 = (k + 8) + 1 from rfl, pd_big_step _ v 7 _ rfl (by omega)]
  rw [show (((7 : Nat) : Int) - 1) = ((6 : Nat) : Int) from rfl, show k + 8 = (k + 7) + 1 from rfl, pd_big_step _ _ 6 _ rfl (by omega)]
  rw [show (((6 : Nat) : Int) - 1) = ((5 : Nat) : Int) from rfl, show k + 7 = (k + 6) + 1 from rfl, pd_big_step _ _ 5 _ rfl (by omega)]
  rw [show (((5 : Nat) : Int) - 1) = ((4 : Nat) : Int) from rfl, show k + 6 = (k + 5) + 1 from rfl, pd_big_step _ _ 4 _ rfl (by omega)]
  rw [show (((4 : Nat) : Int) - 1) = ((3 : Nat) : Int) from rfl, show k + 5 = (k + 4) + 1 from rfl, pd_big_step _ _ 3 _ rfl (by omega)]
  rw [show (((3 : Nat) : Int) - 1) = ((2 : Nat) : Int) from rfl, show k + 4 = (k + 3) + 1 from rfl, pd_big_step _ _ 2 _ rfl (by omega)]
  rw [show (((2 : Nat) : Int) - 1) = ((1 : Nat) : Int) from rfl, show k + 3 = (k + 2) + 1 from rfl, pd_big_step _ _ 1 _ rfl (by omega)]
  rw [show (((1 : Nat) : Int) - 1) = ((0 : Nat) : Int) from rfl, show k + 2 = (k + 1) + 1 from rfl, pd_big_step _ _ 0 _ rfl (by omega)]
  rw [impl_bigEndian.l0, if_neg (by omega)]
  have e1 : v / 256 / 256 = 0 := by omega
  have e0 : v / 256 % 256 = v / 256 := by omega
  rw [e1, e0]
  rfl
theorem pd_impl (n : Nat) (hn : n ≤ 600) (k : Nat) (hk : 100 ≤ k) : impl_padding.f k (n : Int) = some (pdT n) := by
  have hz := pd_whole n
  unfold impl_padding.f
  have e1 : Int.tmod (wrap64 (119 - Int.tmod (n : Int) 64)) 64 = (pdZ n : Int) := by
    rw [Int.tmod_eq_emod_of_nonneg (show (0 : Int) ≤ (n : Int) by omega), w64 (by omega) (by omega), Int.tmod_eq_emod_of_nonneg (by omega)]
    unfold pdZ
    omega
  have e2 : IntKind.u64.wrap (IntKind.u64.wrap (n : Int) * 8) = ((8 * n : Nat) : Int) := by rw [IntKind.wrap_u64, IntKind.wrap_u64]; omega
  rw [e1, pd_rep _ (by omega), Option.bind_some, if_pos (by rw [size_nums', List.length_replicate]; omega), e2, pd_big (8 * n) (by omega) k (by omega), Option.bind_some, if_pos]
  · congr 1
    rw [show (⟨#[128]⟩ : ByteArray) = strOfNums [128] from rfl, ← pd_nums, ← pd_nums]
    rfl
  · rw [ByteArray.size_append, size_nums', size_nums', List.length_replicate]
    show 1 + pdZ n + 8 ≤ _
    omega

theorem pd_ext (a b : ByteArray) (h : a.data.toList = b.data.toList) : a = b := ByteArray.ext (Array.toList_inj.1 h)
theorem pd_eq (a b : ByteArray) : a.toList = b.toList ↔ a = b := by
  rw [ByteArray.toList_eq, ByteArray.toList_eq]
  exact ⟨pd_ext a b, fun h => by rw [h]⟩
theorem pd_list (x : ByteArray) (i j : Nat) : (x.extract i j).data.toList = (x.data.toList.drop i).take (j - i) := by
  simp only [ByteArray.data_extract, Array.toList_extract, List.extract_eq_take_drop]
theorem pd_app (a b : ByteArray) : (a ++ b).data.toList = a.data.toList ++ b.data.toList := by rw [ByteArray.data_append, Array.toList_append]
theorem pd_len (a : ByteArray) : a.data.toList.length = a.size := by rw [Array.length_toList]; rfl
def pdP (t : ByteArray) (m : Nat) : Prop := t.extract m t.size = pdT m
theorem pd_tail_list (n : Nat) : (pdT n).data.toList = (128 : UInt8) :: List.replicate (pdZ n) 0 ++ [0, 0, 0, 0, 0, 0, (8 * n / 256).toUInt8, (8 * n % 256).toUInt8] := by
  unfold pdT pdL strOfNums
  simp
  constructor <;> congr 1 <;> omega
theorem pd_last (a : ByteArray) (n : Nat) : ((a ++ pdT n).extract ((a ++ pdT n).size - 8) (a ++ pdT n).size).data.toList = [0, 0, 0, 0, 0, 0, (8 * n / 256).toUInt8, (8 * n % 256).toUInt8] := by
  rw [pd_list, pd_app, pd_tail_list, ByteArray.size_append, pd_size]
  rw [← List.append_assoc, List.drop_left' (by simp [pd_len]; omega), List.take_of_length_le (by simp; omega)]
theorem pd_eight (A B : Int) (h0 : 0 ≤ A) (h1 : A ≤ 1000) : up_num [0, 0, 0, 0, 0, 0, A, B] 0 = some (A * 256 + B) := by
  rw [up_num, if_neg (by omega), up_num, if_neg (by omega), up_num, if_neg (by omega), up_num, if_neg (by omega), up_num, if_neg (by omega), up_num, if_neg (by omega), up_num, if_neg (by omega), up_num, if_neg (by omega), up_num]
  congr 1
  omega
theorem pd_back (a : ByteArray) (n : Nat) (hn : n ≤ 600) : up_back (a ++ pdT n) = some ((8 * n : Nat) : Int) := by
  unfold up_back
  rw [pd_last]
  have h1 : ((8 * n / 256).toUInt8.toNat : Int) = ((8 * n / 256 : Nat) : Int) := by rw [show (8 * n / 256).toUInt8.toNat = 8 * n / 256 % 256 from rfl]; omega
  have h2 : ((8 * n % 256).toUInt8.toNat : Int) = ((8 * n % 256 : Nat) : Int) := by rw [show (8 * n % 256).toUInt8.toNat = 8 * n % 256 % 256 from rfl]; omega
  simp only [List.map_cons, List.map_nil, h1, h2]
  have h0 : ((0 : UInt8).toNat : Int) = 0 := rfl
  rw [h0, pd_eight _ _ (by omega) (by omega)]
  congr 1
  omega
theorem pd_join (t : ByteArray) (m : Nat) (hm : m ≤ t.size) : t.extract 0 m ++ t.extract m t.size = t := by
  apply pd_ext
  rw [pd_app, pd_list, pd_list, List.drop_zero, Nat.sub_zero, List.take_of_length_le (l := t.data.toList.drop m) (by rw [List.length_drop, pd_len]; omega), List.take_append_drop]
theorem pd_at (t : ByteArray) (m : Nat) (h : pdP t m) : t.size = m + (pdZ m + 9) ∧ t.extract 0 m ++ pdT m = t := by
  have hs : (t.extract m t.size).size = pdZ m + 9 := by rw [h, pd_size]
  rw [ByteArray.size_extract] at hs
  have h1 : t.size = m + (pdZ m + 9) := by omega
  refine ⟨h1, ?_⟩
  rw [← h]
  exact pd_join t m (by omega)
theorem pd_num (t : ByteArray) (m : Nat) (hm : m ≤ 600) (h : pdP t m) : up_back t = some ((8 * m : Nat) : Int) := by
  obtain ⟨_, h2⟩ := pd_at t m h
  rw [← h2]
  exact pd_back _ m hm
theorem pd_one (t : ByteArray) (m x : Nat) (hm : m ≤ 600) (hx : x ≤ 600) (h : pdP t m) (h' : pdP t x) : m = x := by
  have h1 := pd_num t m hm h
  rw [pd_num t x hx h'] at h1
  have := Option.some.inj h1
  omega
theorem pd_step (t : ByteArray) (hts : t.size ≤ 672) (x k : Nat) (hx : x ≤ 601) (hk : 100 ≤ k) : impl_UnpadText.l0 (k + 1) t (x : Int) =
    if x ≤ 600 ∧ x + 9 ≤ t.size then (if t.extract x t.size = pdT x then some (t.extract 0 x, true) else impl_UnpadText.l0 k t ((x + 1 : Nat) : Int)) else some ((⟨#[]⟩ : ByteArray), false) := by
  rw [impl_UnpadText.l0]
  have hmn : mn 600 (wrap64 ((t.size : Int) - 9)) = if (t.size : Int) - 9 < 600 then (t.size : Int) - 9 else 600 := by unfold mn; rw [w64 (by omega) (by omega)]
  rw [hmn]
  by_cases c : x ≤ 600 ∧ x + 9 ≤ t.size
  · rw [if_pos c, if_pos (by split <;> omega), if_pos (by omega), if_pos (by omega), pd_impl x c.1 k hk, Option.bind_some, Int.toNat_natCast, w64 (by omega) (by omega)]
    by_cases e : t.extract x t.size = pdT x
    · rw [if_pos e, if_pos ((pd_eq _ _).2 e)]
    · rw [if_neg e, if_neg (fun q => e ((pd_eq _ _).1 q))]
      rfl
  · rw [if_neg c, if_neg (by split <;> omega)]
theorem pd_hit (t : ByteArray) (m : Nat) (hm : m ≤ 600) (h : pdP t m) : ∀ (d x : Nat), x + d = m → ∀ k, impl_UnpadText.l0 (k + 100 + d + 1) t (x : Int) = some (t.extract 0 m, true)
  | 0, x, hx, k => by
    have e : x = m := by omega
    subst e
    have h1 := pd_at t x h
    have := pd_whole x
    rw [pd_step t (by omega) x _ (by omega) (by omega), if_pos ⟨hm, by omega⟩, if_pos (show t.extract x t.size = pdT x from h)]
  | d + 1, x, hx, k => by
    have h1 := pd_at t m h
    have := pd_whole m
    rw [pd_step t (by omega) x _ (by omega) (by omega), if_pos ⟨by omega, by omega⟩, if_neg (fun q : t.extract x t.size = pdT x => by have := pd_one t m x hm (by omega) h q; omega)]
    exact pd_hit t m hm h d (x + 1) (by omega) k
theorem pd_miss (t : ByteArray) (hts : t.size ≤ 672) (h : ∀ m, m ≤ 600 → ¬ pdP t m) : ∀ (d x : Nat), x + d = 601 → ∀ k, impl_UnpadText.l0 (k + 100 + d + 1) t (x : Int) = some ((⟨#[]⟩ : ByteArray), false)
  | 0, x, hx, k => by rw [pd_step t hts x _ (by omega) (by omega), if_neg (by omega)]
  | d + 1, x, hx, k => by
    rw [pd_step t hts x _ (by omega) (by omega)]
    by_cases c : x ≤ 600 ∧ x + 9 ≤ t.size
    · rw [if_pos c, if_neg (show ¬ t.extract x t.size = pdT x from h x c.1)]
      exact pd_miss t hts h d (x + 1) (by omega) k
    · rw [if_neg c]
theorem up_pos : ∀ (l : List Int) (n v : Int), (∀ x ∈ l, 0 ≤ x) → 0 ≤ n → up_num l n = some v → 0 ≤ v
  | [], n, v, _, h0, h => by have := Option.some.inj h; omega
  | b :: l, n, v, hl, h0, h => by
    rw [up_num] at h
    by_cases c : n > 1048576
    · rw [if_pos c] at h; cases h
    · rw [if_neg c] at h
      have := hl b (by simp)
      exact up_pos l _ v (fun x hx => hl x (by simp [hx])) (by omega) h
theorem pd_back_pos (t : ByteArray) (v : Int) (h : up_back t = some v) : 0 ≤ v := by
  unfold up_back at h
  refine up_pos _ _ _ (fun x hx => ?_) (by omega) h
  obtain ⟨b, _, rfl⟩ := List.mem_map.1 hx
  omega
/-- What both programs make of a text that may be a padded one. -/
theorem pd_unpad (t : ByteArray) : ∃ (u : ByteArray) (b : Bool), (∀ k, 1000 ≤ k → impl_UnpadText.f k t = some (u, b) ∧ spec_UnpadText.f k t = some (u, b)) ∧
    (∀ m, m ≤ 600 → pdP t m → u = t.extract 0 m ∧ b = true) ∧ (b = true → ∃ m, m ≤ 600 ∧ pdP t m ∧ u = t.extract 0 m) := by
  by_cases big : t.size > 672
  · refine ⟨⟨#[]⟩, false, fun k hk => ⟨?_, ?_⟩, fun m hm hp => ?_, fun h => by cases h⟩
    · unfold impl_UnpadText.f; rw [if_pos (by omega)]
    · unfold spec_UnpadText.f; rw [if_pos (by omega)]
    · have := pd_at t m hp
      have := pd_whole m
      omega
  have hts : t.size ≤ 672 := by omega
  have hmx : mx 0 (wrap64 ((t.size : Int) - 72)) = ((t.size - 72 : Nat) : Int) := by unfold mx; rw [w64 (by omega) (by omega)]; split <;> omega
  by_cases c : ∃ m, m ≤ 600 ∧ pdP t m
  · obtain ⟨m, hm, hp⟩ := c
    have h1 := pd_at t m hp
    have h2 := pd_whole m
    refine ⟨t.extract 0 m, true, fun k hk => ⟨?_, ?_⟩, fun x hx hq => ?_, fun _ => ⟨m, hm, hp, rfl⟩⟩
    · unfold impl_UnpadText.f
      rw [if_neg (by omega), hmx]
      have := pd_hit t m hm hp (m - (t.size - 72)) (t.size - 72) (by omega) (k - 100 - (m - (t.size - 72)) - 1)
      rw [show k - 100 - (m - (t.size - 72)) - 1 + 100 + (m - (t.size - 72)) + 1 = k by omega] at this
      exact this
    · unfold spec_UnpadText.f
      rw [if_neg (by omega), if_neg (by omega), if_neg (by omega), pd_num t m hm hp]
      simp only
      have e8 : (((8 * m : Nat) : Int) / 8) = (m : Int) := by omega
      rw [if_neg (by omega), e8, if_neg (by omega), if_neg (by omega), pd_tail m hm k (by omega), Option.bind_some, Int.toNat_natCast, if_pos, if_pos ((pd_eq _ _).2 h1.2)]
      rw [pd_size, ByteArray.size_extract]
      omega
    · have := pd_one t m x hm hx hp hq
      subst this
      exact ⟨rfl, rfl⟩
  · have hno : ∀ m, m ≤ 600 → ¬ pdP t m := fun m hm hp => c ⟨m, hm, hp⟩
    refine ⟨⟨#[]⟩, false, fun k hk => ⟨?_, ?_⟩, fun m hm hp => absurd hp (hno m hm), fun h => by cases h⟩
    · unfold impl_UnpadText.f
      rw [if_neg (by omega), hmx]
      have := pd_miss t hts hno (601 - (t.size - 72)) (t.size - 72) (by omega) (k - 100 - (601 - (t.size - 72)) - 1)
      rw [show k - 100 - (601 - (t.size - 72)) - 1 + 100 + (601 - (t.size - 72)) + 1 = k by omega] at this
      exact this
    · unfold spec_UnpadText.f
      rw [if_neg (by omega)]
      by_cases c1 : (t.size : Int) % 64 = 0
      rotate_left
      · rw [if_pos c1]
      rw [if_neg (not_not_intro c1)]
      by_cases c2 : (t.size : Int) = 0
      · rw [if_pos c2]
      rw [if_neg c2]
      cases hb : up_back t with
      | none => rfl
      | some v =>
        simp only
        have hv := pd_back_pos t v hb
        by_cases c3 : v % 8 = 0
        rotate_left
        · rw [if_pos c3]
        rw [if_neg (not_not_intro c3)]
        by_cases c4 : v / 8 > 600
        · rw [if_pos c4]
        rw [if_neg c4]
        by_cases c5 : v / 8 > (t.size : Int)
        · rw [if_pos c5]
        rw [if_neg c5]
        obtain ⟨m, hm⟩ : ∃ m : Nat, v / 8 = (m : Int) := ⟨(v / 8).toNat, by omega⟩
        rw [hm, pd_tail m (by omega) k (by omega), Option.bind_some, Int.toNat_natCast]
        have hz := pd_whole m
        rw [if_pos (by rw [pd_size, ByteArray.size_extract]; omega)]
        by_cases c6 : t.extract 0 m ++ pdT m = t
        · refine absurd ?_ (hno m (by omega))
          show t.extract m t.size = pdT m
          apply pd_ext
          have h3 : t.data.toList.take m ++ (pdT m).data.toList = t.data.toList := by
            have := congrArg (fun x : ByteArray => x.data.toList) c6
            simp only [pd_app, pd_list, List.drop_zero, Nat.sub_zero] at this
            exact this
          rw [pd_list, List.take_of_length_le (by rw [List.length_drop, pd_len]; omega)]
          have h4 := List.take_append_drop m t.data.toList
          rw [← h3] at h4
          have h5 := List.append_cancel_left (h3.trans (List.take_append_drop m t.data.toList).symm)
          exact h5.symm
        · rw [if_neg (fun q => c6 ((pd_eq _ _).1 q))]
theorem pd_pad (s : ByteArray) (k : Nat) (hk : 100 ≤ k) : ∃ x : ByteArray × Bool, impl_PadText.f k s = some x ∧ spec_PadText.f k s = some x ∧ (x.2 = true → s.size ≤ 600 ∧ x.1 = s ++ pdT s.size) ∧ (s.size ≤ 600 → x.2 = true) ∧ x.1.size ≤ 672 := by
  by_cases c : (s.size : Int) > 600
  · refine ⟨((⟨#[]⟩ : ByteArray), false), ?_, ?_, (fun h => by cases h), fun h => by omega, by show 0 ≤ 672; omega⟩
    · unfold impl_PadText.f; rw [if_pos c]
    · unfold spec_PadText.f; rw [if_pos c]
  · have hz := pd_whole s.size
    refine ⟨(s ++ pdT s.size, true), ?_, ?_, (fun _ => ⟨by omega, rfl⟩), fun _ => rfl, by show (s ++ pdT s.size).size ≤ 672; rw [ByteArray.size_append, pd_size]; omega⟩
    · unfold impl_PadText.f; rw [if_neg c, pd_impl s.size (by omega) k hk, Option.bind_some, if_pos (by rw [pd_size]; omega)]
    · unfold spec_PadText.f; rw [if_neg c, pd_tail s.size (by omega) k hk, Option.bind_some, if_pos (by rw [pd_size]; omega)]
theorem pd_found (s : ByteArray) : pdP (s ++ pdT s.size) s.size ∧ (s ++ pdT s.size).extract 0 s.size = s := by
  constructor
  · apply pd_ext
    rw [pd_list, pd_app, List.drop_left' (pd_len s), List.take_of_length_le (by rw [pd_len, ByteArray.size_append]; omega)]
  · apply pd_ext
    rw [pd_list, pd_app, List.drop_zero, Nat.sub_zero, List.take_left' (pd_len s)]

theorem pd_drawPad (l : List Int) (hl : Bytes8 l) (k : Nat) (hk : 100 ≤ k) : ∃ r, spec_DrawPadText.f k l = some r := by
  obtain ⟨r, a1, s1, p1, q1, q2, q3⟩ := cur_text l hl 0 0 (by omega) (by omega) k hk
  unfold spec_DrawPadText.f
  rw [p1]
  exact ⟨_, rfl⟩
theorem pd_end (l : List Int) (hl : Bytes8 l) (s : ByteArray) (hs : s.size ≤ 1000) (a b : Int) (h0 : 0 ≤ a) (h1 : a < 2000000000) : ∃ t, du_end l s a b = some t := by
  obtain ⟨q, a1, s1, p1, q1, q2⟩ := cur_one l hl a b 12 h0 (by omega) (by omega)
  unfold du_end
  rw [p1, Option.bind_some]
  cases q with
  | false => exact ⟨s, rfl⟩
  | true => exact ⟨s ++ ⟨#[120]⟩, by simp only [if_true]; rw [if_pos (by omega)]⟩
theorem pd_draw (l : List Int) (hl : Bytes8 l) (k : Nat) (hk : 100 ≤ k) : ∃ t, spec_DrawUnpadText.f k l = some t := by
  obtain ⟨r, a1, s1, p1, q1, q2, q3⟩ := cur_text l hl 0 0 (by omega) (by omega) k hk
  obtain ⟨x, x1, x2, x3, x4, x5⟩ := pd_pad r k hk
  unfold spec_DrawUnpadText.f
  rw [p1, Option.bind_some]
  simp only
  rw [x2, Option.bind_some]
  by_cases c : 0 < x.1.size
  · rw [if_pos c]
    obtain ⟨o, a2, s2, p2, r1, r2⟩ := cur_one l hl a1 s1 3 (by omega) (by omega) (by omega)
    rw [p2, Option.bind_some]
    cases o with
    | false => exact pd_end l hl x.1 (by omega) a2 s2 (by omega) (by omega)
    | true =>
      obtain ⟨i, a3, s3, p3, t1, t2, t3, t4⟩ := cur_pick l hl a2 s2 (x.1.size : Int) (by omega) (by omega) (by omega)
      have t4 := t4 (by omega)
      simp only [if_true]
      rw [p3, Option.bind_some]
      simp only
      rw [if_pos ⟨t3, t4, x5⟩]
      obtain ⟨j, a4, s4, p4, u1, u2, u3, u4⟩ := cur_pick l hl a3 s3 8 (by omega) (by omega) (by omega)
      have u4 := u4 (by omega)
      rw [p4, Option.bind_some]
      simp only
      rw [if_pos ⟨u3, u4⟩]
      exact pd_end l hl _ (by unfold du_flip; rw [size_nums', List.length_set, bytesOf_length]; omega) a4 s4 (by omega) (by omega)
  · rw [if_neg c]
    exact pd_end l hl x.1 (by omega) a1 s1 (by omega) (by omega)
def pd_turn (w b : Int) : Option Bool := (impl_TurnWord.f w b).bind fun x => ((spec_TurnWord.f w b).bind fun y => (if (x.2 != y.2) = true then some false else if (x.1 != y.1) = true then some false else if x.2 = true then ((impl_TurnWord.f x.1 (Int.tmod (wrap64 (32 - b)) 32)).bind fun z => (if z.2 = true then (some (z.1 == w)) else (some false))) else some true))
theorem pd_turns : ∀ w ∈ ([(-1), 0, 1, 77, 2147483653, 4294967295, 4294967296] : List Int), ∀ b ∈ ([(-1), 0, 1, 7, 31, 32] : List Int), pd_turn w b = some true := by decide +kernel
theorem pd_j3 (l : List Int) (hl : Bytes8 l) (k : Nat) : laws_FnPadded.j3 (k + 2) l = some true := by
  obtain ⟨w, a1, s1, p1, q1, q2, hw⟩ := cur_among l hl 0 0 [(-1), 0, 1, 77, 2147483653, 4294967295, 4294967296] (by decide) (by decide) (by omega) (by omega)
  obtain ⟨b, a2, s2, p2, r1, r2, hb⟩ := cur_among l hl a1 s1 [(-1), 0, 1, 7, 31, 32] (by decide) (by decide) (by omega) (by omega)
  have h := pd_turns w hw b hb
  have hd : spec_DrawTurnWord.f l = some (w, b) := by
    unfold spec_DrawTurnWord.f
    rw [p1, Option.bind_some]
    simp only
    rw [p2]
    rfl
  rw [laws_FnPadded.j3, hd, Option.bind_some]
  unfold pd_turn at h
  obtain ⟨x, hx, h⟩ := Option.bind_eq_some_iff.mp h
  obtain ⟨y, hy, h⟩ := Option.bind_eq_some_iff.mp h
  simp only
  rw [hx, Option.bind_some, hy, Option.bind_some]
  by_cases c : (x.2 != y.2) = true
  · rw [if_pos c] at h; cases h
  rw [if_neg c] at h ⊢
  by_cases d : (x.1 != y.1) = true
  · rw [if_pos d] at h; cases h
  rw [if_neg d] at h
  rw [laws_FnPadded.j4, if_neg d]
  exact h
theorem pd_j1 (l : List Int) (hl : Bytes8 l) (k : Nat) (hk : 1000 ≤ k) : laws_FnPadded.j1 (k + 4) l = some true := by
  obtain ⟨t, ht⟩ := pd_draw l hl (k + 3) (by omega)
  obtain ⟨u, b, hu, h1, h2⟩ := pd_unpad t
  have h := hu (k + 3) (by omega)
  rw [laws_FnPadded.j1, ht, Option.bind_some, h.1, Option.bind_some, h.2, Option.bind_some]
  simp only [bne_self_eq_false, Bool.false_eq_true, if_false]
  rw [laws_FnPadded.j2, if_neg (by decide)]
  cases b with
  | false => rw [if_neg (by decide)]; exact pd_j3 l hl k
  | true =>
    rw [if_pos rfl]
    obtain ⟨m, hm, hp, rfl⟩ := h2 rfl
    have h3 := pd_at t m hp
    have hs : (t.extract 0 m).size = m := by rw [ByteArray.size_extract]; omega
    obtain ⟨x, x1, x2, x3, x4, x5⟩ := pd_pad (t.extract 0 m) (k + 2) (by omega)
    have hx := x4 (by omega)
    have hy := (x3 hx).2
    rw [hs, h3.2] at hy
    rw [x1, Option.bind_some, if_pos hx, if_pos (by rw [hy])]
    exact pd_j3 l hl k
theorem FnPadded : laws_FnPadded.Pure := by
  intro l0 l1 _ _ hw0 _ _ hw1
  have hl0 := bytes_of_wf hw0
  have hl1 := bytes_of_wf hw1
  refine ⟨1005, ?_⟩
  unfold laws_FnPadded.f
  by_cases big : (wrap64 ((l0.length : Int) + (l1.length : Int))) > 1048576
  · rw [if_pos big]
  rw [if_neg big]
  obtain ⟨s, hs⟩ := pd_drawPad l0 hl0 1005 (by omega)
  obtain ⟨x, x1, x2, x3, x4, x5⟩ := pd_pad s 1005 (by omega)
  rw [hs, Option.bind_some, x1, Option.bind_some, x2, Option.bind_some]
  simp only [bne_self_eq_false, Bool.false_eq_true, if_false]
  rw [show 1005 = 1004 + 1 from rfl, laws_FnPadded.j0, if_neg (by decide)]
  by_cases ok : x.2 = true
  rotate_left
  · rw [if_neg ok]; exact pd_j1 l1 hl1 1000 (by omega)
  rw [if_pos ok]
  obtain ⟨e1, e2⟩ := x3 ok
  obtain ⟨f1, f2⟩ := pd_found s
  rw [← e2] at f1 f2
  obtain ⟨u, b, hu, h1, h2⟩ := pd_unpad x.1
  have h3 := h1 s.size e1 f1
  have h4 := pd_at x.1 s.size f1
  have h5 := pd_whole s.size
  rw [(hu 1004 (by omega)).1, Option.bind_some, if_pos (by omega), if_neg (by rw [w64 (by omega) (by omega)]; omega), if_pos h3.2, if_pos (by rw [h3.1, f2])]
  exact pd_j1 l1 hl1 1000 (by omega)

end Go.Proofs.Ytgoedenbekedbaa.Pure
