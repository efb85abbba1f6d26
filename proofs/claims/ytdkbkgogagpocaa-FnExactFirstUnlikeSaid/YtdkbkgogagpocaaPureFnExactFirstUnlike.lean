/-
The pure statement of FnExactFirstUnlike is proved: for every two strings the program's FirstUnlike and the reference's FirstUnlike give one answer.
Conditions: each string is one that Go can hold. None besides.
-/
import Derived.Test.YtdkbkgogagpocaaPFnExactFirstUnlikex1
namespace Go.Proofs.Ytdkbkgogagpocaa.Pure
open Go.RowKit Go.Proofs.Ytdkbkgogagpocaa.PFnExactFirstUnlike Go.Proofs.YtdkbkgogagpocaaW.PrintWords Go.Proofs.YtdkbkgogagpocaaW.PrintLast

/-- Bit number i of a string, the first bit of a byte being its highest. -/
def bitAt (a : ByteArray) (i : Int) : Int := (bt a (i / 8) / 2 ^ (7 - i % 8).toNat) % 2

theorem and_one (x : Int) (h0 : 0 ≤ x) (h1 : x < 256) : Go.bits .and .i64 x 1 = x % 2 := by
  have h := bits_mask .i64 8 (by decide) (fun n h₀ h₁ => by rw [IntKind.wrap_i64]; omega) 1 (by decide) x h0 (by omega)
  simpa using h

theorem quot_range (b : Int) (h0 : 0 ≤ b) (h1 : b ≤ 255) (n : Nat) : 0 ≤ b / 2 ^ n ∧ b / 2 ^ n ≤ 255 := by
  have hp : (0 : Int) < 2 ^ n := Int.pow_pos (by decide)
  exact ⟨Int.ediv_nonneg h0 (Int.le_of_lt hp), Int.le_trans (Int.ediv_le_self _ h0) h1⟩

theorem spec_bit (a : ByteArray) (ha : a.size = 4) (i : Int) (h0 : 0 ≤ i) (h1 : i < 32) : spec_l10Bit.f a i = some (bitAt a i) := by
  have e1 : wrap64 (Int.tdiv i 8) = i / 8 := by rw [Int.tdiv_eq_ediv_of_nonneg h0]; unfold wrap64; omega
  have e2 : Int.tmod i 8 = i % 8 := Int.tmod_eq_emod_of_nonneg h0
  have e3 : wrap64 (7 - i % 8) = 7 - i % 8 := by unfold wrap64; omega
  have e4 : IntKind.u64.wrap (7 - i % 8) = 7 - i % 8 := by simp [IntKind.wrap, IntKind.bits, IntKind.signed]; omega
  have hb := bt_range a (i / 8)
  have hq := quot_range _ hb.1 hb.2 (7 - i % 8).toNat
  have hs : shr .u8 (bt a (i / 8)) (7 - i % 8) = bt a (i / 8) / 2 ^ (7 - i % 8).toNat := by
    unfold shr; rw [Nat.min_eq_left (by simp only [IntKind.bits]; omega)]
  unfold spec_l10Bit.f
  rw [e1, e2, e3, e4, hs, if_pos (by omega), if_pos (by omega), if_pos (by omega)]
  have e5 : wrap64 (bt a (i / 8) / 2 ^ (7 - i % 8).toNat) = bt a (i / 8) / 2 ^ (7 - i % 8).toNat := by unfold wrap64; omega
  rw [e5, and_one _ hq.1 (by omega)]
  rfl

theorem impl_bit (a : ByteArray) (ha : a.size = 4) (i : Int) (h0 : 0 ≤ i) (h1 : i < 32) : impl_bitOf.f a i = some (bitAt a i) := by
  have e1 : wrap64 (Int.tdiv i 8) = i / 8 := by rw [Int.tdiv_eq_ediv_of_nonneg h0]; unfold wrap64; omega
  have e2 : Int.tmod i 8 = i % 8 := Int.tmod_eq_emod_of_nonneg h0
  have e3 : wrap64 (7 - i % 8) = 7 - i % 8 := by unfold wrap64; omega
  have hb := bt_range a (i / 8)
  have hq := quot_range _ hb.1 hb.2 (7 - i % 8).toNat
  have e5 : wrap64 (bt a (i / 8)) = bt a (i / 8) := by unfold wrap64; omega
  have hs : shr .i64 (bt a (i / 8)) (7 - i % 8) = bt a (i / 8) / 2 ^ (7 - i % 8).toNat := by
    unfold shr; rw [Nat.min_eq_left (by simp only [IntKind.bits]; omega)]
  unfold impl_bitOf.f
  rw [e1, e2, e3, e5, hs, if_pos (by omega), if_pos (by omega), if_pos (by omega), and_one _ hq.1 (by omega)]
  rfl

/-- From a place on both loops find the first place at which the bits differ, if there is one below 32. -/
theorem loops (a b : ByteArray) (ha : a.size = 4) (hb : b.size = 4) (d : Nat) : ∀ (k : Nat) (i : Int), 0 ≤ i → 32 - i = d → d < k →
    (∃ j, i ≤ j ∧ j < 32 ∧ bitAt a j ≠ bitAt b j) → ∃ r, spec_l10Unlike.l0 k a b i = some r ∧ impl_firstUnlike.l0 k a b i = some r := by
  induction d with
  | zero => intro k i h0 hd hk ⟨j, h1, h2, _⟩; omega
  | succ d ih =>
    intro k i h0 hd hk ⟨j, h1, h2, hj⟩
    obtain ⟨k, rfl⟩ : ∃ m, k = m + 1 := ⟨k - 1, by omega⟩
    simp only [spec_l10Unlike.l0, impl_firstUnlike.l0]
    rw [spec_bit a ha i h0 (by omega), spec_bit b hb i h0 (by omega), impl_bit a ha i h0 (by omega), impl_bit b hb i h0 (by omega)]
    simp only [Option.bind_some]
    by_cases e : bitAt a i = bitAt b i
    · have hw : wrap64 (i + 1) = i + 1 := by unfold wrap64; omega
      rw [if_pos e, if_pos e, hw]
      have hij : i ≠ j := fun h => hj (h ▸ e)
      exact ih k (i + 1) (by omega) (by omega) (by omega) ⟨j, by omega, h2, hj⟩
    · exact ⟨i, by rw [if_neg e], by rw [if_neg e]⟩

/-- Two numbers of eight bits with the same bits are one. -/
theorem byte_of_bits (x y : Int) (hx : 0 ≤ x ∧ x ≤ 255) (hy : 0 ≤ y ∧ y ≤ 255) (h : ∀ n : Nat, n < 8 → x / 2 ^ n % 2 = y / 2 ^ n % 2) : x = y := by
  have h0 := h 0 (by decide); have h1 := h 1 (by decide); have h2 := h 2 (by decide); have h3 := h 3 (by decide)
  have h4 := h 4 (by decide); have h5 := h 5 (by decide); have h6 := h 6 (by decide); have h7 := h 7 (by decide)
  simp only [Int.pow_succ, Int.pow_zero, Int.one_mul, Int.ediv_one] at h0 h1 h2 h3 h4 h5 h6 h7
  omega

theorem bytes_eq (a b : ByteArray) (ha : a.size = 4) (hb : b.size = 4) (h : ∀ j : Int, 0 ≤ j → j < 4 → bt a j = bt b j) : a.toList = b.toList := by
  have e : a = b := by
    apply ByteArray.ext_getElem (by rw [ha, hb])
    intro i h1 h2
    have := h i (by omega) (by omega)
    simp only [bt, Int.toNat_natCast, h1, h2, dif_pos] at this
    exact UInt8.toNat_inj.mp (by exact_mod_cast this)
  rw [e]

theorem some_bit (a b : ByteArray) (ha : a.size = 4) (hb : b.size = 4) (h : ¬ a.toList = b.toList) : ∃ j, (0 : Int) ≤ j ∧ j < 32 ∧ bitAt a j ≠ bitAt b j := by
  apply Classical.byContradiction
  intro hn
  apply h
  apply bytes_eq a b ha hb
  intro j h0 h1
  apply byte_of_bits _ _ (bt_range a j) (bt_range b j)
  intro n hn8
  apply Classical.byContradiction
  intro hne
  apply hn
  refine ⟨8 * j + (7 - n), by omega, by omega, ?_⟩
  unfold bitAt
  rw [show (8 * j + (7 - (n : Int))) / 8 = j by omega, show (7 - (8 * j + (7 - (n : Int))) % 8).toNat = n by omega]
  exact hne

theorem FnExactFirstUnlike : laws_FnExactFirstUnlike.Pure := by
  intro a b _ _
  refine ⟨33, ?_⟩
  unfold laws_FnExactFirstUnlike.f spec_FirstUnlike.f impl_FirstUnlike.f
  by_cases ha : (a.size : Int) = 4
  · by_cases hb : (b.size : Int) = 4
    · by_cases e : a.toList = b.toList
      · simp [ha, hb, e]
      · obtain ⟨r, h1, h2⟩ := loops a b (by omega) (by omega) 32 33 0 (by omega) (by omega) (by omega) (some_bit a b (by omega) (by omega) e)
        simp [ha, hb, e, spec_l10Unlike.f, impl_firstUnlike.f, h1, h2]
    · simp [ha, hb]
  · simp [ha]

end Go.Proofs.Ytdkbkgogagpocaa.Pure
