-- Printed for this claim by a changed copy of the kit's printing program (wip/tools/patch_print.py); Lean checks it.
import Derived.Test.YtdlljfejfgfmgaaPFnGroupx0
import Derived.Test.YtdlljfejfgfmgaaPFnGroupx1
import Derived.Test.YtdlljfejfgfmgaaPFnGroupx2
import Derived.Test.YtdlljfejfgfmgaaPFnGroupx5
import Derived.Test.YtdlljfejfgfmgaaPFnGroupx6
import Derived.Test.YtdlljfejfgfmgaaPFnGroupx8
import Derived.Test.YtdlljfejfgfmgaaPFnGroupx9
import Derived.Test.YtdlljfejfgfmgaaPFnGroupx10
namespace Go.Proofs.Ytdlljfejfgfmgaa.PFnGroup
open Go.RowKit Go.Proofs.YtdlljfejfgfmgaaW.PrintWords Go.Proofs.YtdlljfejfgfmgaaW.PrintLast Go.Proofs.YtdlljfejfgfmgaaW.PrintMore
attribute [local go_sem] max2_int min2_int max_two min_two max_three min_three max_four min_four   -- for this text's walks alone
set_option linter.unusedVariables false
set_option linter.unusedSimpArgs false

noncomputable section

/-! ### laws_FnGroup: function 5 -/
mutual
def laws_FnGroup.j0 : Nat → List Int → Bool → Bool → Int → Int → Int → Int → Int → Int → Int → Int → Option (Bool)
 | 0, _, _, _, _, _, _, _, _, _, _, _ => none
 | k + 1, x1, x9, x86, x302000, x302001, x303000, x303001, x304000, x304001, x308000, x308001 => if x86 = true then (some false) else (if x9 = true then ((impl_OnCurve.f k x302000 x302001 x308000 x308001).bind fun bt314 => ((impl_AddPoints.f k x302000 x302001 x304000 x304001 x303000 x303001).bind fun bt316 => ((impl_ZeroPoint.f k x302000 x302001).bind fun bt320 => ((impl_AddPoints.f k x302000 x302001 x303000 x303001 bt320.1 bt320.2.1).bind fun bt324 => ((impl_NegPoint.f k x302000 x302001 x303000 x303001).bind fun bt328 => ((impl_AddPoints.f k x302000 x302001 x303000 x303001 bt328.1 bt328.2.1).bind fun bt332 => (if bt314.2 = true then (if bt314.1 = true then (if bt316.2.2 = true then (if (!(bt316.1 == x308000) || (!(bt316.2.1 == x308001))) = true then (laws_FnGroup.j1 k x1 true x302000 x302001 x303000 x303001 x304000 x304001 x308000 x308001) else (if bt320.2.2 = true then (if bt324.2.2 = true then (if (!(bt324.1 == x303000) || (!(bt324.2.1 == x303001))) = true then (laws_FnGroup.j1 k x1 true x302000 x302001 x303000 x303001 x304000 x304001 x308000 x308001) else (if bt328.2.2 = true then (if bt332.2.2 = true then (laws_FnGroup.j1 k x1 (!(bt332.1 == bt320.1) || (!(bt332.2.1 == bt320.2.1))) x302000 x302001 x303000 x303001 x304000 x304001 x308000 x308001) else (laws_FnGroup.j1 k x1 true x302000 x302001 x303000 x303001 x304000 x304001 x308000 x308001)) else (laws_FnGroup.j1 k x1 true x302000 x302001 x303000 x303001 x304000 x304001 x308000 x308001))) else (laws_FnGroup.j1 k x1 true x302000 x302001 x303000 x303001 x304000 x304001 x308000 x308001)) else (laws_FnGroup.j1 k x1 true x302000 x302001 x303000 x303001 x304000 x304001 x308000 x308001))) else (laws_FnGroup.j1 k x1 true x302000 x302001 x303000 x303001 x304000 x304001 x308000 x308001)) else (laws_FnGroup.j1 k x1 true x302000 x302001 x303000 x303001 x304000 x304001 x308000 x308001)) else (laws_FnGroup.j1 k x1 true x302000 x302001 x303000 x303001 x304000 x304001 x308000 x308001)))))))) else (laws_FnGroup.j2 k x1))
def laws_FnGroup.j2 : Nat → List Int → Option (Bool)
 | 0, _ => none
 | k + 1, x1 => (spec_DrawOnCurve.f k x1).bind fun bt353 => ((impl_OnCurve.f k bt353.1 bt353.2.1 bt353.2.2.1 bt353.2.2.2).bind fun bt359 => ((spec_OnCurve.f k bt353.1 bt353.2.1 bt353.2.2.1 bt353.2.2.2).bind fun bt361 => ((impl_NegPoint.f k bt353.1 bt353.2.1 bt353.2.2.1 bt353.2.2.2).bind fun bt363 => ((spec_NegPoint.f k bt353.1 bt353.2.1 bt353.2.2.1 bt353.2.2.2).bind fun bt367 => ((impl_ZeroPoint.f k bt353.1 bt353.2.1).bind fun bt371 => ((spec_ZeroPoint.f k bt353.1 bt353.2.1).bind fun bt375 => (if (bt359.2 == bt361.2) = true then (if (bt359.1 == bt361.1) = true then (if (bt363.2.2 == bt367.2.2) = true then (if (bt363.1 == bt367.1 && (bt363.2.1 == bt367.2.1)) = true then (if (bt371.2.2 == bt375.2.2) = true then (some (bt371.1 == bt375.1 && (bt371.2.1 == bt375.2.1))) else (some false)) else (some false)) else (some false)) else (some false)) else (some false))))))))
def laws_FnGroup.j1 : Nat → List Int → Bool → Int → Int → Int → Int → Int → Int → Int → Int → Option (Bool)
 | 0, _, _, _, _, _, _, _, _, _, _ => none
 | k + 1, x1, x166, x302000, x302001, x303000, x303001, x304000, x304001, x308000, x308001 => if x166 = true then (some false) else ((laws_numberOf.f k x1).bind fun t336 => ((impl_TimesPoint.f k x302000 x302001 (wrap64 (1 + (Int.tmod t336 50))) x304000 x304001).bind fun bt337 => ((impl_AddPoints.f k x302000 x302001 x308000 x308001 bt337.1 bt337.2.1).bind fun bt341 => ((impl_AddPoints.f k x302000 x302001 x304000 x304001 bt337.1 bt337.2.1).bind fun bt345 => ((impl_AddPoints.f k x302000 x302001 x303000 x303001 bt345.1 bt345.2.1).bind fun bt349 => (if bt337.2.2 = true then (if bt341.2.2 = true then (if bt345.2.2 = true then (if bt349.2.2 = true then (if (!(bt341.1 == bt349.1) || (!(bt341.2.1 == bt349.2.1))) = true then (some false) else (laws_FnGroup.j2 k x1)) else (some false)) else (some false)) else (some false)) else (some false)))))))
end
def laws_FnGroup.f (k : Nat) (l0 : List Int) (l1 : List Int) : Option (Bool) := if (wrap64 ((l0.length : Int) + (l1.length : Int))) > 1048576 then (some true) else ((spec_DrawAddPoints.f k l0).bind fun bt295 => ((impl_AddPoints.f k bt295.1 bt295.2.1 bt295.2.2.1 bt295.2.2.2.1 bt295.2.2.2.2.1 bt295.2.2.2.2.2).bind fun bt304 => ((spec_AddPoints.f k bt295.1 bt295.2.1 bt295.2.2.1 bt295.2.2.2.1 bt295.2.2.2.2.1 bt295.2.2.2.2.2).bind fun bt308 => (if (bt304.2.2 != bt308.2.2) = true then (laws_FnGroup.j0 k l1 bt304.2.2 true bt295.1 bt295.2.1 bt295.2.2.1 bt295.2.2.2.1 bt295.2.2.2.2.1 bt295.2.2.2.2.2 bt304.1 bt304.2.1) else (if (!(bt304.1 == bt308.1) || (!(bt304.2.1 == bt308.2.1))) = true then (laws_FnGroup.j0 k l1 bt304.2.2 true bt295.1 bt295.2.1 bt295.2.2.1 bt295.2.2.2.1 bt295.2.2.2.2.1 bt295.2.2.2.2.2 bt304.1 bt304.2.1) else ((impl_GoodCurve.f k bt295.1 bt295.2.1).bind fun t312 => ((spec_GoodCurve.f k bt295.1 bt295.2.1).bind fun t313 => (laws_FnGroup.j0 k l1 bt304.2.2 (t312 != t313) bt295.1 bt295.2.1 bt295.2.2.1 bt295.2.2.2.1 bt295.2.2.2.2.1 bt295.2.2.2.2.2 bt304.1 bt304.2.1))))))))
theorem laws_FnGroup.mono_l : ∀ k, (∀ y0 y1 y2 y3 y4 y5 y6 y7 y8 y9 y10, LeO (laws_FnGroup.j0 k y0 y1 y2 y3 y4 y5 y6 y7 y8 y9 y10) (laws_FnGroup.j0 (k + 1) y0 y1 y2 y3 y4 y5 y6 y7 y8 y9 y10)) ∧ (∀ y0, LeO (laws_FnGroup.j2 k y0) (laws_FnGroup.j2 (k + 1) y0)) ∧ (∀ y0 y1 y2 y3 y4 y5 y6 y7 y8 y9, LeO (laws_FnGroup.j1 k y0 y1 y2 y3 y4 y5 y6 y7 y8 y9) (laws_FnGroup.j1 (k + 1) y0 y1 y2 y3 y4 y5 y6 y7 y8 y9))
 | 0 => ⟨fun _ _ _ _ _ _ _ _ _ _ _ r h => by simp [laws_FnGroup.j0] at h, fun _ r h => by simp [laws_FnGroup.j2] at h, fun _ _ _ _ _ _ _ _ _ _ r h => by simp [laws_FnGroup.j1] at h⟩
 | k + 1 => by
  obtain ⟨ih0, ih1, ih2⟩ := laws_FnGroup.mono_l k
  refine ⟨?_, ?_, ?_⟩
  ·intro y0 y1 y2 y3 y4 y5 y6 y7 y8 y9 y10
   unfold laws_FnGroup.j0
   repeat' first
   | (with_reducible exact ih0 _ _ _ _ _ _ _ _ _ _ _)
   | (with_reducible exact ih1 _)
   | (with_reducible exact ih2 _ _ _ _ _ _ _ _ _ _)
   | (with_reducible exact impl_AddPoints.mono _ _ _ _ _ _ _)
   | (with_reducible exact impl_GoodCurve.mono _ _ _)
   | (with_reducible exact impl_NegPoint.mono _ _ _ _ _)
   | (with_reducible exact impl_OnCurve.mono _ _ _ _ _)
   | (with_reducible exact impl_TimesPoint.mono _ _ _ _ _ _)
   | (with_reducible exact impl_ZeroPoint.mono _ _ _)
   | (with_reducible exact laws_numberOf.mono _ _)
   | (with_reducible exact spec_AddPoints.mono _ _ _ _ _ _ _)
   | (with_reducible exact spec_DrawAddPoints.mono _ _)
   | (with_reducible exact spec_DrawOnCurve.mono _ _)
   | (with_reducible exact spec_GoodCurve.mono _ _ _)
   | (with_reducible exact spec_NegPoint.mono _ _ _ _ _)
   | (with_reducible exact spec_OnCurve.mono _ _ _ _ _)
   | (with_reducible exact spec_ZeroPoint.mono _ _ _)
   | (with_reducible exact LeO.refl _)
   | (with_reducible exact LeO.none _)
   | (with_reducible refine LeO.ite ?_ ?_)
   | (with_reducible refine LeO.bind ?_ (fun _ => ?_))
   | exact ih0 _ _ _ _ _ _ _ _ _ _ _
   | exact ih1 _
   | exact ih2 _ _ _ _ _ _ _ _ _ _
   | exact impl_AddPoints.mono _ _ _ _ _ _ _
   | exact impl_GoodCurve.mono _ _ _
   | exact impl_NegPoint.mono _ _ _ _ _
   | exact impl_OnCurve.mono _ _ _ _ _
   | exact impl_TimesPoint.mono _ _ _ _ _ _
   | exact impl_ZeroPoint.mono _ _ _
   | exact laws_numberOf.mono _ _
   | exact spec_AddPoints.mono _ _ _ _ _ _ _
   | exact spec_DrawAddPoints.mono _ _
   | exact spec_DrawOnCurve.mono _ _
   | exact spec_GoodCurve.mono _ _ _
   | exact spec_NegPoint.mono _ _ _ _ _
   | exact spec_OnCurve.mono _ _ _ _ _
   | exact spec_ZeroPoint.mono _ _ _
   | exact LeO.none _
   | refine LeO.ite ?_ ?_
   | refine LeO.bind ?_ (fun _ => ?_)
  ·intro y0
   unfold laws_FnGroup.j2
   repeat' first
   | (with_reducible exact ih0 _ _ _ _ _ _ _ _ _ _ _)
   | (with_reducible exact ih1 _)
   | (with_reducible exact ih2 _ _ _ _ _ _ _ _ _ _)
   | (with_reducible exact impl_AddPoints.mono _ _ _ _ _ _ _)
   | (with_reducible exact impl_GoodCurve.mono _ _ _)
   | (with_reducible exact impl_NegPoint.mono _ _ _ _ _)
   | (with_reducible exact impl_OnCurve.mono _ _ _ _ _)
   | (with_reducible exact impl_TimesPoint.mono _ _ _ _ _ _)
   | (with_reducible exact impl_ZeroPoint.mono _ _ _)
   | (with_reducible exact laws_numberOf.mono _ _)
   | (with_reducible exact spec_AddPoints.mono _ _ _ _ _ _ _)
   | (with_reducible exact spec_DrawAddPoints.mono _ _)
   | (with_reducible exact spec_DrawOnCurve.mono _ _)
   | (with_reducible exact spec_GoodCurve.mono _ _ _)
   | (with_reducible exact spec_NegPoint.mono _ _ _ _ _)
   | (with_reducible exact spec_OnCurve.mono _ _ _ _ _)
   | (with_reducible exact spec_ZeroPoint.mono _ _ _)
   | (with_reducible exact LeO.refl _)
   | (with_reducible exact LeO.none _)
   | (with_reducible refine LeO.ite ?_ ?_)
   | (with_reducible refine LeO.bind ?_ (fun _ => ?_))
   | exact ih0 _ _ _ _ _ _ _ _ _ _ _
   | exact ih1 _
   | exact ih2 _ _ _ _ _ _ _ _ _ _
   | exact impl_AddPoints.mono _ _ _ _ _ _ _
   | exact impl_GoodCurve.mono _ _ _
   | exact impl_NegPoint.mono _ _ _ _ _
   | exact impl_OnCurve.mono _ _ _ _ _
   | exact impl_TimesPoint.mono _ _ _ _ _ _
   | exact impl_ZeroPoint.mono _ _ _
   | exact laws_numberOf.mono _ _
   | exact spec_AddPoints.mono _ _ _ _ _ _ _
   | exact spec_DrawAddPoints.mono _ _
   | exact spec_DrawOnCurve.mono _ _
   | exact spec_GoodCurve.mono _ _ _
   | exact spec_NegPoint.mono _ _ _ _ _
   | exact spec_OnCurve.mono _ _ _ _ _
   | exact spec_ZeroPoint.mono _ _ _
   | exact LeO.none _
   | refine LeO.ite ?_ ?_
   | refine LeO.bind ?_ (fun _ => ?_)
  ·intro y0 y1 y2 y3 y4 y5 y6 y7 y8 y9
   unfold laws_FnGroup.j1
   repeat' first
   | (with_reducible exact ih0 _ _ _ _ _ _ _ _ _ _ _)
   | (with_reducible exact ih1 _)
   | (with_reducible exact ih2 _ _ _ _ _ _ _ _ _ _)
   | (with_reducible exact impl_AddPoints.mono _ _ _ _ _ _ _)
   | (with_reducible exact impl_GoodCurve.mono _ _ _)
   | (with_reducible exact impl_NegPoint.mono _ _ _ _ _)
   | (with_reducible exact impl_OnCurve.mono _ _ _ _ _)
   | (with_reducible exact impl_TimesPoint.mono _ _ _ _ _ _)
   | (with_reducible exact impl_ZeroPoint.mono _ _ _)
   | (with_reducible exact laws_numberOf.mono _ _)
   | (with_reducible exact spec_AddPoints.mono _ _ _ _ _ _ _)
   | (with_reducible exact spec_DrawAddPoints.mono _ _)
   | (with_reducible exact spec_DrawOnCurve.mono _ _)
   | (with_reducible exact spec_GoodCurve.mono _ _ _)
   | (with_reducible exact spec_NegPoint.mono _ _ _ _ _)
   | (with_reducible exact spec_OnCurve.mono _ _ _ _ _)
   | (with_reducible exact spec_ZeroPoint.mono _ _ _)
   | (with_reducible exact LeO.refl _)
   | (with_reducible exact LeO.none _)
   | (with_reducible refine LeO.ite ?_ ?_)
   | (with_reducible refine LeO.bind ?_ (fun _ => ?_))
   | exact ih0 _ _ _ _ _ _ _ _ _ _ _
   | exact ih1 _
   | exact ih2 _ _ _ _ _ _ _ _ _ _
   | exact impl_AddPoints.mono _ _ _ _ _ _ _
   | exact impl_GoodCurve.mono _ _ _
   | exact impl_NegPoint.mono _ _ _ _ _
   | exact impl_OnCurve.mono _ _ _ _ _
   | exact impl_TimesPoint.mono _ _ _ _ _ _
   | exact impl_ZeroPoint.mono _ _ _
   | exact laws_numberOf.mono _ _
   | exact spec_AddPoints.mono _ _ _ _ _ _ _
   | exact spec_DrawAddPoints.mono _ _
   | exact spec_DrawOnCurve.mono _ _
   | exact spec_GoodCurve.mono _ _ _
   | exact spec_NegPoint.mono _ _ _ _ _
   | exact spec_OnCurve.mono _ _ _ _ _
   | exact spec_ZeroPoint.mono _ _ _
   | exact LeO.none _
   | refine LeO.ite ?_ ?_
   | refine LeO.bind ?_ (fun _ => ?_)
theorem laws_FnGroup.mono : ∀ a0 a1 k, LeO (laws_FnGroup.f k a0 a1) (laws_FnGroup.f (k + 1) a0 a1) := by
 intro a0 a1 k
 obtain ⟨ih0, ih1, ih2⟩ := laws_FnGroup.mono_l k
 unfold laws_FnGroup.f
 repeat' first
   | (with_reducible exact ih0 _ _ _ _ _ _ _ _ _ _ _)
   | (with_reducible exact ih1 _)
   | (with_reducible exact ih2 _ _ _ _ _ _ _ _ _ _)
   | (with_reducible exact impl_AddPoints.mono _ _ _ _ _ _ _)
   | (with_reducible exact impl_GoodCurve.mono _ _ _)
   | (with_reducible exact impl_NegPoint.mono _ _ _ _ _)
   | (with_reducible exact impl_OnCurve.mono _ _ _ _ _)
   | (with_reducible exact impl_TimesPoint.mono _ _ _ _ _ _)
   | (with_reducible exact impl_ZeroPoint.mono _ _ _)
   | (with_reducible exact laws_numberOf.mono _ _)
   | (with_reducible exact spec_AddPoints.mono _ _ _ _ _ _ _)
   | (with_reducible exact spec_DrawAddPoints.mono _ _)
   | (with_reducible exact spec_DrawOnCurve.mono _ _)
   | (with_reducible exact spec_GoodCurve.mono _ _ _)
   | (with_reducible exact spec_NegPoint.mono _ _ _ _ _)
   | (with_reducible exact spec_OnCurve.mono _ _ _ _ _)
   | (with_reducible exact spec_ZeroPoint.mono _ _ _)
   | (with_reducible exact LeO.refl _)
   | (with_reducible exact LeO.none _)
   | (with_reducible refine LeO.ite ?_ ?_)
   | (with_reducible refine LeO.bind ?_ (fun _ => ?_))
   | exact ih0 _ _ _ _ _ _ _ _ _ _ _
   | exact ih1 _
   | exact ih2 _ _ _ _ _ _ _ _ _ _
   | exact impl_AddPoints.mono _ _ _ _ _ _ _
   | exact impl_GoodCurve.mono _ _ _
   | exact impl_NegPoint.mono _ _ _ _ _
   | exact impl_OnCurve.mono _ _ _ _ _
   | exact impl_TimesPoint.mono _ _ _ _ _ _
   | exact impl_ZeroPoint.mono _ _ _
   | exact laws_numberOf.mono _ _
   | exact spec_AddPoints.mono _ _ _ _ _ _ _
   | exact spec_DrawAddPoints.mono _ _
   | exact spec_DrawOnCurve.mono _ _
   | exact spec_GoodCurve.mono _ _ _
   | exact spec_NegPoint.mono _ _ _ _ _
   | exact spec_OnCurve.mono _ _ _ _ _
   | exact spec_ZeroPoint.mono _ _ _
   | exact LeO.none _
   | refine LeO.ite ?_ ?_
   | refine LeO.bind ?_ (fun _ => ?_)
def laws_FnGroup.T6 : Bool × List (List Nat × List Nat) := (true, [([], []), ([], []), ([0, 1], [0, 1]), ([2], [2]), ([3], [3]), ([3], [3]), ([4, 5, 3], [3, 4, 5]), ([3, 6], [3, 6]), ([7, 3], [7]), ([8], [8]), ([9, 8, 8], [8, 9]), ([8], [8]), ([11, 10, 8], [8, 11]), ([10, 12, 8], [8, 10, 12]), ([8, 13], [8, 13])])
def laws_FnGroup.B6 : List Nat := [0, 0, 3, 7, 15, 15, 63, 127, 255, 511, 1023, 511, 4095, 8191, 16383]
theorem laws_FnGroup.tab6 : rtab .any (opsOf Try.f5 6) = laws_FnGroup.T6 := by kernel_rfl
theorem laws_FnGroup.bits6 : waitsOk laws_FnGroup.T6.2 laws_FnGroup.B6 = true := by kernel_rfl
def laws_FnGroup.T17 : Bool × List (List Nat × List Nat) := (true, [([], []), ([], []), ([1], [1]), ([2], [2]), ([3], [3]), ([], []), ([0, 4, 5, 2], [0, 4, 5]), ([6], [6]), ([7], [7]), ([7], [7]), ([], []), ([10, 8, 6, 0, 1, 2, 3, 4, 5, 6, 7, 8, 10], [8, 10]), ([9, 11, 0, 1, 2, 3, 4, 5, 6, 7, 8, 9, 10, 11], [9])])
def laws_FnGroup.B17 : List Nat := [0, 0, 2, 6, 14, 0, 63, 127, 255, 255, 0, 1535, 4095]
theorem laws_FnGroup.tab17 : rtab .any (opsOf Try.f5 17) = laws_FnGroup.T17 := by kernel_rfl
theorem laws_FnGroup.bits17 : waitsOk laws_FnGroup.T17.2 laws_FnGroup.B17 = true := by kernel_rfl
def laws_FnGroup.Pure : Prop := ∀ (l0 : List Int) (l1 : List Int), l0.length ≤ maxLen → l0.length * 1 ≤ 140737488351232 → (∀ x ∈ l0, (Lit.int .u8 x).wf = true) → l1.length ≤ maxLen → l1.length * 1 ≤ 140737488351232 → (∀ x ∈ l1, (Lit.int .u8 x).wf = true) → ∃ k, laws_FnGroup.f k l0 l1 = some true

end
end Go.Proofs.Ytdlljfejfgfmgaa.PFnGroup
