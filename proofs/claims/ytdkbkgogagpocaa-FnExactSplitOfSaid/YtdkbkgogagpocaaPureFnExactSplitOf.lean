/-
The pure statement of FnExactSplitOf is proved: for every whole number the program's SplitOf and the reference's SplitOf give one answer.
Conditions: the argument is a number of Go's kind int64. None besides.
-/
import Derived.Test.YtdkbkgogagpocaaPFnExactSplitOfx1
namespace Go.Proofs.Ytdkbkgogagpocaa.Pure
open Go.RowKit Go.Proofs.Ytdkbkgogagpocaa.PFnExactSplitOf Go.Proofs.YtdkbkgogagpocaaW.PrintWords Go.Proofs.YtdkbkgogagpocaaW.PrintLast

theorem splitOf_l0 : ∀ (k : Nat) (a b : Int), impl_splitOf.l0 k a b = spec_l8Split.l0 k a b
  | 0, _, _ => rfl
  | k + 1, a, b => by simp only [impl_splitOf.l0, spec_l8Split.l0, splitOf_l0 k]

theorem splitOf_some : ∀ n : Nat, n < 21 → 2 ≤ n → (spec_l8Split.f 9 (n : Int)).isSome = true := by decide +kernel

theorem FnExactSplitOf : laws_FnExactSplitOf.Pure := by
  intro a _
  refine ⟨9, ?_⟩
  unfold laws_FnExactSplitOf.f spec_SplitOf.f impl_SplitOf.f spec_l1In.f impl_within.f impl_splitOf.f
  by_cases h2 : a ≥ 2
  · by_cases h20 : a ≤ 20
    · have hs : (spec_l8Split.f 9 a).isSome = true := by
        have := splitOf_some a.toNat (by omega) (by omega)
        rwa [show ((a.toNat : Nat) : Int) = a by omega] at this
      obtain ⟨r, hr⟩ := Option.isSome_iff_exists.mp hs
      have hr' : spec_l8Split.l0 9 a 1 = some r := hr
      simp [h2, h20, splitOf_l0, hr, hr']
    · simp [h2, h20]
  · simp [h2]

end Go.Proofs.Ytdkbkgogagpocaa.Pure
