/-
The pure statement of FnExactKeyFor is proved: for every whole number the program's KeyFor and the reference's KeyFor give one answer.
Conditions: the argument is a number of Go's kind int64. None besides.
-/
import Derived.Test.YtdkbkgogagpocaaPFnExactKeyForx1
namespace Go.Proofs.Ytdkbkgogagpocaa.Pure
open Go.RowKit Go.Proofs.Ytdkbkgogagpocaa.PFnExactKeyFor Go.Proofs.YtdkbkgogagpocaaW.PrintWords Go.Proofs.YtdkbkgogagpocaaW.PrintLast

theorem powerMod_l0 : ∀ (k : Nat) (a b c d : Int), impl_powerMod.l0 k a b c d = spec_l4Power.l0 k a b c d
  | 0, _, _, _, _ => rfl
  | k + 1, a, b, c, d => by simp only [impl_powerMod.l0, spec_l4Power.l0, powerMod_l0 k]

theorem power_ends : ∀ (n k : Nat) (a b c d : Int), c ≠ 0 → 0 ≤ b → b < 2 ^ n → b < 2 ^ 62 → n < k → ∃ r, spec_l4Power.l0 k a b c d = some r := by
  intro n
  induction n with
  | zero =>
    intro k a b c d hc h0 h1 _ hk
    obtain ⟨k, rfl⟩ : ∃ m, k = m + 1 := ⟨k - 1, by omega⟩
    exact ⟨d, by simp only [spec_l4Power.l0]; rw [if_neg (by omega)]⟩
  | succ n ih =>
    intro k a b c d hc h0 h1 hb hk
    obtain ⟨k, rfl⟩ : ∃ m, k = m + 1 := ⟨k - 1, by omega⟩
    simp only [spec_l4Power.l0]
    by_cases hp : b > 0
    · have e : wrap64 (Int.tdiv b 2) = b / 2 := by
        rw [Int.tdiv_eq_ediv_of_nonneg h0]; unfold wrap64; omega
      have h2 : b / 2 < 2 ^ n := by rw [Int.pow_succ] at h1; omega
      rw [if_pos hp, if_neg hc, if_neg hc, e]
      split
      · exact ih k _ _ _ _ hc (by omega) h2 (by omega) (by omega)
      · exact ih k _ _ _ _ hc (by omega) h2 (by omega) (by omega)
    · exact ⟨d, by rw [if_neg hp]⟩

theorem FnExactKeyFor : laws_FnExactKeyFor.Pure := by
  intro a _
  refine ⟨11, ?_⟩
  unfold laws_FnExactKeyFor.f spec_KeyFor.f impl_KeyFor.f spec_l6Secret.f impl_isSecret.f spec_l1In.f impl_within.f impl_keyFor.f spec_l6Key.f impl_powerMod.f spec_l4Power.f
  by_cases h2 : a ≥ 1
  · by_cases h20 : a ≤ 1012
    · obtain ⟨r, hr⟩ := power_ends 10 11 4 a 2027 1 (by omega) (by omega) (by omega) (by omega) (by omega)
      simp [h2, h20, powerMod_l0, hr]
    · simp [h2, h20]
  · simp [h2]

end Go.Proofs.Ytdkbkgogagpocaa.Pure
