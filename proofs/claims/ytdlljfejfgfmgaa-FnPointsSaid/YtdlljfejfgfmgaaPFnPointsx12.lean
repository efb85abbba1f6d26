-- Printed for this claim by a changed copy of the kit's printing program (wip/tools/patch_print.py); Lean checks it.
import Derived.Test.YtdlljfejfgfmgaaPFnPointsx0
import Derived.Test.YtdlljfejfgfmgaaPFnPointsx1
import Derived.Test.YtdlljfejfgfmgaaPFnPointsx3
import Derived.Test.YtdlljfejfgfmgaaPFnPointsx4
import Derived.Test.YtdlljfejfgfmgaaPFnPointsx6
import Derived.Test.YtdlljfejfgfmgaaPFnPointsx8
import Derived.Test.YtdlljfejfgfmgaaPFnPointsx9
import Derived.Test.YtdlljfejfgfmgaaPFnPointsx10
import Derived.Test.YtdlljfejfgfmgaaPFnPointsx11
namespace Go.Proofs.Ytdlljfejfgfmgaa.PFnPoints
open Go.RowKit Go.Proofs.YtdlljfejfgfmgaaW.PrintWords Go.Proofs.YtdlljfejfgfmgaaW.PrintLast Go.Proofs.YtdlljfejfgfmgaaW.PrintMore
attribute [local go_sem] max2_int min2_int max_two min_two max_three min_three max_four min_four   -- for this text's walks alone
set_option linter.unusedVariables false
set_option linter.unusedSimpArgs false

noncomputable section

/-! ### laws_FnPoints: function 6 -/
mutual
def laws_FnPoints.j0 : Nat → List Int → Int → Bool → Int → Bool → Int → Bool → Bool → Int → Int → Int → Int → Option (Bool)
 | 0, _, _, _, _, _, _, _, _, _, _, _, _ => none
 | k + 1, x1, x7, x8, x11, x12, x15, x16, x117, x316000, x316001, x317000, x317001 => if x117 = true then (some false) else (if x12 = true then (if (wrap64 ((wrap64 ((wrap64 (x11 - x316000)) - 1)) * (wrap64 ((wrap64 (x11 - x316000)) - 1)))) > (wrap64 (4 * x316000)) then (some false) else (if (Int.tmod x11 4) = 0 then (laws_FnPoints.j1 k x1 x7 x8 x11 x12 x15 x16 x316000 x316001 x317000 x317001) else (some false))) else (laws_FnPoints.j1 k x1 x7 x8 x11 x12 x15 x16 x316000 x316001 x317000 x317001))
def laws_FnPoints.j1 : Nat → List Int → Int → Bool → Int → Bool → Int → Bool → Int → Int → Int → Int → Option (Bool)
 | 0, _, _, _, _, _, _, _, _, _, _, _ => none
 | k + 1, x1, x7, x8, x11, x12, x15, x16, x316000, x316001, x317000, x317001 => if x8 = true then ((impl_ZeroPoint.f k x316000 x316001).bind fun bt329 => ((impl_TimesPoint.f k x316000 x316001 x11 x317000 x317001).bind fun bt333 => ((impl_TimesPoint.f k x316000 x316001 x7 x317000 x317001).bind fun bt337 => ((impl_OfShort.f k x316000 x316001 x15).bind fun bt341 => (if x12 = true then (if x7 = 0 then (none) else (if (Int.tmod x11 x7) = 0 then (if bt329.2.2 = true then (if bt333.2.2 = true then (if (!(bt333.1 == bt329.1) || (!(bt333.2.1 == bt329.2.1))) = true then (some false) else (if bt337.2.2 = true then (if (!(bt337.1 == bt329.1) || (!(bt337.2.1 == bt329.2.1))) = true then (some false) else (if x16 = true then (if bt341.2.2 = true then (if (!(bt341.1 == x317000) || (!(bt341.2.1 == x317001))) = true then (some false) else (laws_FnPoints.j2 k x1)) else (some false)) else (some false))) else (some false))) else (some false)) else (some false)) else (some false))) else (some false)))))) else (laws_FnPoints.j2 k x1)
def laws_FnPoints.j2 : Nat → List Int → Option (Bool)
 | 0, _ => none
 | k + 1, x1 => (spec_DrawTimesPoint.f k x1).bind fun bt345 => ((impl_TimesPoint.f k bt345.1 bt345.2.1 bt345.2.2.1 bt345.2.2.2.1 bt345.2.2.2.2).bind fun bt352 => ((spec_TimesPoint.f k bt345.1 bt345.2.1 bt345.2.2.1 bt345.2.2.2.1 bt345.2.2.2.2).bind fun bt356 => (if (bt352.2.2 != bt356.2.2) = true then (laws_FnPoints.j3 k x1 bt345.2.2.1 bt352.2.2 true bt345.1 bt345.2.1 bt345.2.2.2.1 bt345.2.2.2.2 bt352.1 bt352.2.1) else (laws_FnPoints.j3 k x1 bt345.2.2.1 bt352.2.2 (!(bt352.1 == bt356.1) || (!(bt352.2.1 == bt356.2.1))) bt345.1 bt345.2.1 bt345.2.2.2.1 bt345.2.2.2.2 bt352.1 bt352.2.1))))
def laws_FnPoints.j3 : Nat → List Int → Int → Bool → Bool → Int → Int → Int → Int → Int → Int → Option (Bool)
 | 0, _, _, _, _, _, _, _, _, _, _ => none
 | k + 1, x1, x29, x32, x232, x351000, x351001, x352000, x352001, x356000, x356001 => if x232 = true then (some false) else (if x32 = true then (laws_FnPoints.j4 k x1 x29 (decide (x29 < 100000)) x351000 x351001 x352000 x352001 x356000 x356001) else (laws_FnPoints.j4 k x1 x29 false x351000 x351001 x352000 x352001 x356000 x356001))
def laws_FnPoints.j4 : Nat → List Int → Int → Bool → Int → Int → Int → Int → Int → Int → Option (Bool)
 | 0, _, _, _, _, _, _, _, _, _ => none
 | k + 1, x1, x29, x237, x351000, x351001, x352000, x352001, x356000, x356001 => if x237 = true then ((impl_TimesPoint.f k x351000 x351001 (wrap64 (x29 + 1)) x352000 x352001).bind fun bt360 => ((impl_AddPoints.f k x351000 x351001 x356000 x356001 x352000 x352001).bind fun bt364 => (if bt360.2.2 = true then (if bt364.2.2 = true then (laws_FnPoints.j5 k x1 (!(bt360.1 == bt364.1) || (!(bt360.2.1 == bt364.2.1)))) else (laws_FnPoints.j5 k x1 true)) else (laws_FnPoints.j5 k x1 true)))) else ((spec_DrawOfShort.f k x1).bind fun bt380 => ((impl_OfShort.f k bt380.1 bt380.2.1 bt380.2.2).bind fun bt384 => ((spec_OfShort.f k bt380.1 bt380.2.1 bt380.2.2).bind fun bt388 => (if (bt384.2.2 == bt388.2.2) = true then (some (bt384.1 == bt388.1 && (bt384.2.1 == bt388.2.1))) else (some false)))))
def laws_FnPoints.j5 : Nat → List Int → Bool → Option (Bool)
 | 0, _, _ => none
 | k + 1, x1, x263 => if x263 = true then (some false) else ((spec_DrawOfShort.f k x1).bind fun bt368 => ((impl_OfShort.f k bt368.1 bt368.2.1 bt368.2.2).bind fun bt372 => ((spec_OfShort.f k bt368.1 bt368.2.1 bt368.2.2).bind fun bt376 => (if (bt372.2.2 == bt376.2.2) = true then (some (bt372.1 == bt376.1 && (bt372.2.1 == bt376.2.1))) else (some false)))))
end
def laws_FnPoints.f (k : Nat) (l0 : List Int) (l1 : List Int) : Option (Bool) := if (wrap64 ((l0.length : Int) + (l1.length : Int))) > 1048576 then (some true) else ((spec_DrawOrderOf.f k l0).bind fun bt311 => ((impl_OrderOf.f k bt311.1 bt311.2.1 bt311.2.2.1 bt311.2.2.2).bind fun bt317 => ((spec_OrderOf.f k bt311.1 bt311.2.1 bt311.2.2.1 bt311.2.2.2).bind fun bt319 => ((impl_CountPoints.f k bt311.1 bt311.2.1).bind fun bt321 => ((spec_CountPoints.f k bt311.1 bt311.2.1).bind fun bt323 => ((impl_ShortPoint.f k bt311.1 bt311.2.1 bt311.2.2.1 bt311.2.2.2).bind fun bt325 => ((spec_ShortPoint.f k bt311.1 bt311.2.1 bt311.2.2.1 bt311.2.2.2).bind fun bt327 => (if (bt317.2 != bt319.2) = true then (laws_FnPoints.j0 k l1 bt317.1 bt317.2 bt321.1 bt321.2 bt325.1 bt325.2 true bt311.1 bt311.2.1 bt311.2.2.1 bt311.2.2.2) else (if bt317.1 = bt319.1 then (if (bt321.2 != bt323.2) = true then (laws_FnPoints.j0 k l1 bt317.1 bt317.2 bt321.1 bt321.2 bt325.1 bt325.2 true bt311.1 bt311.2.1 bt311.2.2.1 bt311.2.2.2) else (if bt321.1 = bt323.1 then (if (bt325.2 != bt327.2) = true then (laws_FnPoints.j0 k l1 bt317.1 bt317.2 bt321.1 bt321.2 bt325.1 bt325.2 true bt311.1 bt311.2.1 bt311.2.2.1 bt311.2.2.2) else (laws_FnPoints.j0 k l1 bt317.1 bt317.2 bt321.1 bt321.2 bt325.1 bt325.2 (bt325.1 != bt327.1) bt311.1 bt311.2.1 bt311.2.2.1 bt311.2.2.2)) else (laws_FnPoints.j0 k l1 bt317.1 bt317.2 bt321.1 bt321.2 bt325.1 bt325.2 true bt311.1 bt311.2.1 bt311.2.2.1 bt311.2.2.2))) else (laws_FnPoints.j0 k l1 bt317.1 bt317.2 bt321.1 bt321.2 bt325.1 bt325.2 true bt311.1 bt311.2.1 bt311.2.2.1 bt311.2.2.2))))))))))
theorem laws_FnPoints.mono_l : ∀ k, (∀ y0 y1 y2 y3 y4 y5 y6 y7 y8 y9 y10 y11, LeO (laws_FnPoints.j0 k y0 y1 y2 y3 y4 y5 y6 y7 y8 y9 y10 y11) (laws_FnPoints.j0 (k + 1) y0 y1 y2 y3 y4 y5 y6 y7 y8 y9 y10 y11)) ∧ (∀ y0 y1 y2 y3 y4 y5 y6 y7 y8 y9 y10, LeO (laws_FnPoints.j1 k y0 y1 y2 y3 y4 y5 y6 y7 y8 y9 y10) (laws_FnPoints.j1 (k + 1) y0 y1 y2 y3 y4 y5 y6 y7 y8 y9 y10)) ∧ (∀ y0, LeO (laws_FnPoints.j2 k y0) (laws_FnPoints.j2 (k + 1) y0)) ∧ (∀ y0 y1 y2 y3 y4 y5 y6 y7 y8 y9, LeO (laws_FnPoints.j3 k y0 y1 y2 y3 y4 y5 y6 y7 y8 y9) (laws_FnPoints.j3 (k + 1) y0 y1 y2 y3 y4 y5 y6 y7 y8 y9)) ∧ (∀ y0 y1 y2 y3 y4 y5 y6 y7 y8, LeO (laws_FnPoints.j4 k y0 y1 y2 y3 y4 y5 y6 y7 y8) (laws_FnPoints.j4 (k + 1) y0 y1 y2 y3 y4 y5 y6 y7 y8)) ∧ (∀ y0 y1, LeO (laws_FnPoints.j5 k y0 y1) (laws_FnPoints.j5 (k + 1) y0 y1))
 | 0 => ⟨fun _ _ _ _ _ _ _ _ _ _ _ _ r h => by simp [laws_FnPoints.j0] at h, fun _ _ _ _ _ _ _ _ _ _ _ r h => by simp [laws_FnPoints.j1] at h, fun _ r h => by simp [laws_FnPoints.j2] at h, fun _ _ _ _ _ _ _ _ _ _ r h => by simp [laws_FnPoints.j3] at h, fun _ _ _ _ _ _ _ _ _ r h => by simp [laws_FnPoints.j4] at h, fun _ _ r h => by simp [laws_FnPoints.j5] at h⟩
 | k + 1 => by
  obtain ⟨ih0, ih1, ih2, ih3, ih4, ih5⟩ := laws_FnPoints.mono_l k
  refine ⟨?_, ?_, ?_, ?_, ?_, ?_⟩
  ·intro y0 y1 y2 y3 y4 y5 y6 y7 y8 y9 y10 y11
   unfold laws_FnPoints.j0
   repeat' first
   | (with_reducible exact ih0 _ _ _ _ _ _ _ _ _ _ _ _)
   | (with_reducible exact ih1 _ _ _ _ _ _ _ _ _ _ _)
   | (with_reducible exact ih2 _)
   | (with_reducible exact ih3 _ _ _ _ _ _ _ _ _ _)
   | (with_reducible exact ih4 _ _ _ _ _ _ _ _ _)
   | (with_reducible exact ih5 _ _)
   | (with_reducible exact impl_AddPoints.mono _ _ _ _ _ _ _)
   | (with_reducible exact impl_CountPoints.mono _ _ _)
   | (with_reducible exact impl_OfShort.mono _ _ _ _)
   | (with_reducible exact impl_OrderOf.mono _ _ _ _ _)
   | (with_reducible exact impl_ShortPoint.mono _ _ _ _ _)
   | (with_reducible exact impl_TimesPoint.mono _ _ _ _ _ _)
   | (with_reducible exact impl_ZeroPoint.mono _ _ _)
   | (with_reducible exact spec_CountPoints.mono _ _ _)
   | (with_reducible exact spec_DrawOfShort.mono _ _)
   | (with_reducible exact spec_DrawOrderOf.mono _ _)
   | (with_reducible exact spec_DrawTimesPoint.mono _ _)
   | (with_reducible exact spec_OfShort.mono _ _ _ _)
   | (with_reducible exact spec_OrderOf.mono _ _ _ _ _)
   | (with_reducible exact spec_ShortPoint.mono _ _ _ _ _)
   | (with_reducible exact spec_TimesPoint.mono _ _ _ _ _ _)
   | (with_reducible exact LeO.refl _)
   | (with_reducible exact LeO.none _)
   | (with_reducible refine LeO.ite ?_ ?_)
   | (with_reducible refine LeO.bind ?_ (fun _ => ?_))
   | exact ih0 _ _ _ _ _ _ _ _ _ _ _ _
   | exact ih1 _ _ _ _ _ _ _ _ _ _ _
   | exact ih2 _
   | exact ih3 _ _ _ _ _ _ _ _ _ _
   | exact ih4 _ _ _ _ _ _ _ _ _
   | exact ih5 _ _
   | exact impl_AddPoints.mono _ _ _ _ _ _ _
   | exact impl_CountPoints.mono _ _ _
   | exact impl_OfShort.mono _ _ _ _
   | exact impl_OrderOf.mono _ _ _ _ _
   | exact impl_ShortPoint.mono _ _ _ _ _
   | exact impl_TimesPoint.mono _ _ _ _ _ _
   | exact impl_ZeroPoint.mono _ _ _
   | exact spec_CountPoints.mono _ _ _
   | exact spec_DrawOfShort.mono _ _
   | exact spec_DrawOrderOf.mono _ _
   | exact spec_DrawTimesPoint.mono _ _
   | exact spec_OfShort.mono _ _ _ _
   | exact spec_OrderOf.mono _ _ _ _ _
   | exact spec_ShortPoint.mono _ _ _ _ _
   | exact spec_TimesPoint.mono _ _ _ _ _ _
   | exact LeO.none _
   | refine LeO.ite ?_ ?_
   | refine LeO.bind ?_ (fun _ => ?_)
  ·intro y0 y1 y2 y3 y4 y5 y6 y7 y8 y9 y10
   unfold laws_FnPoints.j1
   repeat' first
   | (with_reducible exact ih0 _ _ _ _ _ _ _ _ _ _ _ _)
   | (with_reducible exact ih1 _ _ _ _ _ _ _ _ _ _ _)
   | (with_reducible exact ih2 _)
   | (with_reducible exact ih3 _ _ _ _ _ _ _ _ _ _)
   | (with_reducible exact ih4 _ _ _ _ _ _ _ _ _)
   | (with_reducible exact ih5 _ _)
   | (with_reducible exact impl_AddPoints.mono _ _ _ _ _ _ _)
   | (with_reducible exact impl_CountPoints.mono _ _ _)
   | (with_reducible exact impl_OfShort.mono _ _ _ _)
   | (with_reducible exact impl_OrderOf.mono _ _ _ _ _)
   | (with_reducible exact impl_ShortPoint.mono _ _ _ _ _)
   | (with_reducible exact impl_TimesPoint.mono _ _ _ _ _ _)
   | (with_reducible exact impl_ZeroPoint.mono _ _ _)
   | (with_reducible exact spec_CountPoints.mono _ _ _)
   | (with_reducible exact spec_DrawOfShort.mono _ _)
   | (with_reducible exact spec_DrawOrderOf.mono _ _)
   | (with_reducible exact spec_DrawTimesPoint.mono _ _)
   | (with_reducible exact spec_OfShort.mono _ _ _ _)
   | (with_reducible exact spec_OrderOf.mono _ _ _ _ _)
   | (with_reducible exact spec_ShortPoint.mono _ _ _ _ _)
   | (with_reducible exact spec_TimesPoint.mono _ _ _ _ _ _)
   | (with_reducible exact LeO.refl _)
   | (with_reducible exact LeO.none _)
   | (with_reducible refine LeO.ite ?_ ?_)
   | (with_reducible refine LeO.bind ?_ (fun _ => ?_))
   | exact ih0 _ _ _ _ _ _ _ _ _ _ _ _
   | exact ih1 _ _ _ _ _ _ _ _ _ _ _
   | exact ih2 _
   | exact ih3 _ _ _ _ _ _ _ _ _ _
   | exact ih4 _ _ _ _ _ _ _ _ _
   | exact ih5 _ _
   | exact impl_AddPoints.mono _ _ _ _ _ _ _
   | exact impl_CountPoints.mono _ _ _
   | exact impl_OfShort.mono _ _ _ _
   | exact impl_OrderOf.mono _ _ _ _ _
   | exact impl_ShortPoint.mono _ _ _ _ _
   | exact impl_TimesPoint.mono _ _ _ _ _ _
   | exact impl_ZeroPoint.mono _ _ _
   | exact spec_CountPoints.mono _ _ _
   | exact spec_DrawOfShort.mono _ _
   | exact spec_DrawOrderOf.mono _ _
   | exact spec_DrawTimesPoint.mono _ _
   | exact spec_OfShort.mono _ _ _ _
   | exact spec_OrderOf.mono _ _ _ _ _
   | exact spec_ShortPoint.mono _ _ _ _ _
   | exact spec_TimesPoint.mono _ _ _ _ _ _
   | exact LeO.none _
   | refine LeO.ite ?_ ?_
   | refine LeO.bind ?_ (fun _ => ?_)
  ·intro y0
   unfold laws_FnPoints.j2
   repeat' first
   | (with_reducible exact ih0 _ _ _ _ _ _ _ _ _ _ _ _)
   | (with_reducible exact ih1 _ _ _ _ _ _ _ _ _ _ _)
   | (with_reducible exact ih2 _)
   | (with_reducible exact ih3 _ _ _ _ _ _ _ _ _ _)
   | (with_reducible exact ih4 _ _ _ _ _ _ _ _ _)
   | (with_reducible exact ih5 _ _)
   | (with_reducible exact impl_AddPoints.mono _ _ _ _ _ _ _)
   | (with_reducible exact impl_CountPoints.mono _ _ _)
   | (with_reducible exact impl_OfShort.mono _ _ _ _)
   | (with_reducible exact impl_OrderOf.mono _ _ _ _ _)
   | (with_reducible exact impl_ShortPoint.mono _ _ _ _ _)
   | (with_reducible exact impl_TimesPoint.mono _ _ _ _ _ _)
   | (with_reducible exact impl_ZeroPoint.mono _ _ _)
   | (with_reducible exact spec_CountPoints.mono _ _ _)
   | (with_reducible exact spec_DrawOfShort.mono _ _)
   | (with_reducible exact spec_DrawOrderOf.mono _ _)
   | (with_reducible exact spec_DrawTimesPoint.mono _ _)
   | (with_reducible exact spec_OfShort.mono _ _ _ _)
   | (with_reducible exact spec_OrderOf.mono _ _ _ _ _)
   | (with_reducible exact spec_ShortPoint.mono _ _ _ _ _)
   | (with_reducible exact spec_TimesPoint.mono _ _ _ _ _ _)
   | (with_reducible exact LeO.refl _)
   | (with_reducible exact LeO.none _)
   | (with_reducible refine LeO.ite ?_ ?_)
   | (with_reducible refine LeO.bind ?_ (fun _ => ?_))
   | exact ih0 _ _ _ _ _ _ _ _ _ _ _ _
   | exact ih1 _ _ _ _ _ _ _ _ _ _ _
   | exact ih2 _
   | exact ih3 _ _ _ _ _ _ _ _ _ _
   | exact ih4 _ _ _ _ _ _ _ _ _
   | exact ih5 _ _
   | exact impl_AddPoints.mono _ _ _ _ _ _ _
   | exact impl_CountPoints.mono _ _ _
   | exact impl_OfShort.mono _ _ _ _
   | exact impl_OrderOf.mono _ _ _ _ _
   | exact impl_ShortPoint.mono _ _ _ _ _
   | exact impl_TimesPoint.mono _ _ _ _ _ _
   | exact impl_ZeroPoint.mono _ _ _
   | exact spec_CountPoints.mono _ _ _
   | exact spec_DrawOfShort.mono _ _
   | exact spec_DrawOrderOf.mono _ _
   | exact spec_DrawTimesPoint.mono _ _
   | exact spec_OfShort.mono _ _ _ _
   | exact spec_OrderOf.mono _ _ _ _ _
   | exact spec_ShortPoint.mono _ _ _ _ _
   | exact spec_TimesPoint.mono _ _ _ _ _ _
   | exact LeO.none _
   | refine LeO.ite ?_ ?_
   | refine LeO.bind ?_ (fun _ => ?_)
  ·intro y0 y1 y2 y3 y4 y5 y6 y7 y8 y9
   unfold laws_FnPoints.j3
   repeat' first
   | (with_reducible exact ih0 _ _ _ _ _ _ _ _ _ _ _ _)
   | (with_reducible exact ih1 _ _ _ _ _ _ _ _ _ _ _)
   | (with_reducible exact ih2 _)
   | (with_reducible exact ih3 _ _ _ _ _ _ _ _ _ _)
   | (with_reducible exact ih4 _ _ _ _ _ _ _ _ _)
   | (with_reducible exact ih5 _ _)
   | (with_reducible exact impl_AddPoints.mono _ _ _ _ _ _ _)
   | (with_reducible exact impl_CountPoints.mono _ _ _)
   | (with_reducible exact impl_OfShort.mono _ _ _ _)
   | (with_reducible exact impl_OrderOf.mono _ _ _ _ _)
   | (with_reducible exact impl_ShortPoint.mono _ _ _ _ _)
   | (with_reducible exact impl_TimesPoint.mono _ _ _ _ _ _)
   | (with_reducible exact impl_ZeroPoint.mono _ _ _)
   | (with_reducible exact spec_CountPoints.mono _ _ _)
   | (with_reducible exact spec_DrawOfShort.mono _ _)
   | (with_reducible exact spec_DrawOrderOf.mono _ _)
   | (with_reducible exact spec_DrawTimesPoint.mono _ _)
   | (with_reducible exact spec_OfShort.mono _ _ _ _)
   | (with_reducible exact spec_OrderOf.mono _ _ _ _ _)
   | (with_reducible exact spec_ShortPoint.mono _ _ _ _ _)
   | (with_reducible exact spec_TimesPoint.mono _ _ _ _ _ _)
   | (with_reducible exact LeO.refl _)
   | (with_reducible exact LeO.none _)
   | (with_reducible refine LeO.ite ?_ ?_)
   | (with_reducible refine LeO.bind ?_ (fun _ => ?_))
   | exact ih0 _ _ _ _ _ _ _ _ _ _ _ _
   | exact ih1 _ _ _ _ _ _ _ _ _ _ _
   | exact ih2 _
   | exact ih3 _ _ _ _ _ _ _ _ _ _
   | exact ih4 _ _ _ _ _ _ _ _ _
   | exact ih5 _ _
   | exact impl_AddPoints.mono _ _ _ _ _ _ _
   | exact impl_CountPoints.mono _ _ _
   | exact impl_OfShort.mono _ _ _ _
   | exact impl_OrderOf.mono _ _ _ _ _
   | exact impl_ShortPoint.mono _ _ _ _ _
   | exact impl_TimesPoint.mono _ _ _ _ _ _
   | exact impl_ZeroPoint.mono _ _ _
   | exact spec_CountPoints.mono _ _ _
   | exact spec_DrawOfShort.mono _ _
   | exact spec_DrawOrderOf.mono _ _
   | exact spec_DrawTimesPoint.mono _ _
   | exact spec_OfShort.mono _ _ _ _
   | exact spec_OrderOf.mono _ _ _ _ _
   | exact spec_ShortPoint.mono _ _ _ _ _
   | exact spec_TimesPoint.mono _ _ _ _ _ _
   | exact LeO.none _
   | refine LeO.ite ?_ ?_
   | refine LeO.bind ?_ (fun _ => ?_)
  ·intro y0 y1 y2 y3 y4 y5 y6 y7 y8
   unfold laws_FnPoints.j4
   repeat' first
   | (with_reducible exact ih0 _ _ _ _ _ _ _ _ _ _ _ _)
   | (with_reducible exact ih1 _ _ _ _ _ _ _ _ _ _ _)
   | (with_reducible exact ih2 _)
   | (with_reducible exact ih3 _ _ _ _ _ _ _ _ _ _)
   | (with_reducible exact ih4 _ _ _ _ _ _ _ _ _)
   | (with_reducible exact ih5 _ _)
   | (with_reducible exact impl_AddPoints.mono _ _ _ _ _ _ _)
   | (with_reducible exact impl_CountPoints.mono _ _ _)
   | (with_reducible exact impl_OfShort.mono _ _ _ _)
   | (with_reducible exact impl_OrderOf.mono _ _ _ _ _)
   | (with_reducible exact impl_ShortPoint.mono _ _ _ _ _)
   | (with_reducible exact impl_TimesPoint.mono _ _ _ _ _ _)
   | (with_reducible exact impl_ZeroPoint.mono _ _ _)
   | (with_reducible exact spec_CountPoints.mono _ _ _)
   | (with_reducible exact spec_DrawOfShort.mono _ _)
   | (with_reducible exact spec_DrawOrderOf.mono _ _)
   | (with_reducible exact spec_DrawTimesPoint.mono _ _)
   | (with_reducible exact spec_OfShort.mono _ _ _ _)
   | (with_reducible exact spec_OrderOf.mono _ _ _ _ _)
   | (with_reducible exact spec_ShortPoint.mono _ _ _ _ _)
   | (with_reducible exact spec_TimesPoint.mono _ _ _ _ _ _)
   | (with_reducible exact LeO.refl _)
   | (with_reducible exact LeO.none _)
   | (with_reducible refine LeO.ite ?_ ?_)
   | (with_reducible refine LeO.bind ?_ (fun _ => ?_))
   | exact ih0 _ _ _ _ _ _ _ _ _ _ _ _
   | exact ih1 _ _ _ _ _ _ _ _ _ _ _
   | exact ih2 _
   | exact ih3 _ _ _ _ _ _ _ _ _ _
   | exact ih4 _ _ _ _ _ _ _ _ _
   | exact ih5 _ _
   | exact impl_AddPoints.mono _ _ _ _ _ _ _
   | exact impl_CountPoints.mono _ _ _
   | exact impl_OfShort.mono _ _ _ _
   | exact impl_OrderOf.mono _ _ _ _ _
   | exact impl_ShortPoint.mono _ _ _ _ _
   | exact impl_TimesPoint.mono _ _ _ _ _ _
   | exact impl_ZeroPoint.mono _ _ _
   | exact spec_CountPoints.mono _ _ _
   | exact spec_DrawOfShort.mono _ _
   | exact spec_DrawOrderOf.mono _ _
   | exact spec_DrawTimesPoint.mono _ _
   | exact spec_OfShort.mono _ _ _ _
   | exact spec_OrderOf.mono _ _ _ _ _
   | exact spec_ShortPoint.mono _ _ _ _ _
   | exact spec_TimesPoint.mono _ _ _ _ _ _
   | exact LeO.none _
   | refine LeO.ite ?_ ?_
   | refine LeO.bind ?_ (fun _ => ?_)
  ·intro y0 y1
   unfold laws_FnPoints.j5
   repeat' first
   | (with_reducible exact ih0 _ _ _ _ _ _ _ _ _ _ _ _)
   | (with_reducible exact ih1 _ _ _ _ _ _ _ _ _ _ _)
   | (with_reducible exact ih2 _)
   | (with_reducible exact ih3 _ _ _ _ _ _ _ _ _ _)
   | (with_reducible exact ih4 _ _ _ _ _ _ _ _ _)
   | (with_reducible exact ih5 _ _)
   | (with_reducible exact impl_AddPoints.mono _ _ _ _ _ _ _)
   | (with_reducible exact impl_CountPoints.mono _ _ _)
   | (with_reducible exact impl_OfShort.mono _ _ _ _)
   | (with_reducible exact impl_OrderOf.mono _ _ _ _ _)
   | (with_reducible exact impl_ShortPoint.mono _ _ _ _ _)
   | (with_reducible exact impl_TimesPoint.mono _ _ _ _ _ _)
   | (with_reducible exact impl_ZeroPoint.mono _ _ _)
   | (with_reducible exact spec_CountPoints.mono _ _ _)
   | (with_reducible exact spec_DrawOfShort.mono _ _)
   | (with_reducible exact spec_DrawOrderOf.mono _ _)
   | (with_reducible exact spec_DrawTimesPoint.mono _ _)
   | (with_reducible exact spec_OfShort.mono _ _ _ _)
   | (with_reducible exact spec_OrderOf.mono _ _ _ _ _)
   | (with_reducible exact spec_ShortPoint.mono _ _ _ _ _)
   | (with_reducible exact spec_TimesPoint.mono _ _ _ _ _ _)
   | (with_reducible exact LeO.refl _)
   | (with_reducible exact LeO.none _)
   | (with_reducible refine LeO.ite ?_ ?_)
   | (with_reducible refine LeO.bind ?_ (fun _ => ?_))
   | exact ih0 _ _ _ _ _ _ _ _ _ _ _ _
   | exact ih1 _ _ _ _ _ _ _ _ _ _ _
   | exact ih2 _
   | exact ih3 _ _ _ _ _ _ _ _ _ _
   | exact ih4 _ _ _ _ _ _ _ _ _
   | exact ih5 _ _
   | exact impl_AddPoints.mono _ _ _ _ _ _ _
   | exact impl_CountPoints.mono _ _ _
   | exact impl_OfShort.mono _ _ _ _
   | exact impl_OrderOf.mono _ _ _ _ _
   | exact impl_ShortPoint.mono _ _ _ _ _
   | exact impl_TimesPoint.mono _ _ _ _ _ _
   | exact impl_ZeroPoint.mono _ _ _
   | exact spec_CountPoints.mono _ _ _
   | exact spec_DrawOfShort.mono _ _
   | exact spec_DrawOrderOf.mono _ _
   | exact spec_DrawTimesPoint.mono _ _
   | exact spec_OfShort.mono _ _ _ _
   | exact spec_OrderOf.mono _ _ _ _ _
   | exact spec_ShortPoint.mono _ _ _ _ _
   | exact spec_TimesPoint.mono _ _ _ _ _ _
   | exact LeO.none _
   | refine LeO.ite ?_ ?_
   | refine LeO.bind ?_ (fun _ => ?_)
theorem laws_FnPoints.mono : ∀ a0 a1 k, LeO (laws_FnPoints.f k a0 a1) (laws_FnPoints.f (k + 1) a0 a1) := by
 intro a0 a1 k
 obtain ⟨ih0, ih1, ih2, ih3, ih4, ih5⟩ := laws_FnPoints.mono_l k
 unfold laws_FnPoints.f
 repeat' first
   | (with_reducible exact ih0 _ _ _ _ _ _ _ _ _ _ _ _)
   | (with_reducible exact ih1 _ _ _ _ _ _ _ _ _ _ _)
   | (with_reducible exact ih2 _)
   | (with_reducible exact ih3 _ _ _ _ _ _ _ _ _ _)
   | (with_reducible exact ih4 _ _ _ _ _ _ _ _ _)
   | (with_reducible exact ih5 _ _)
   | (with_reducible exact impl_AddPoints.mono _ _ _ _ _ _ _)
   | (with_reducible exact impl_CountPoints.mono _ _ _)
   | (with_reducible exact impl_OfShort.mono _ _ _ _)
   | (with_reducible exact impl_OrderOf.mono _ _ _ _ _)
   | (with_reducible exact impl_ShortPoint.mono _ _ _ _ _)
   | (with_reducible exact impl_TimesPoint.mono _ _ _ _ _ _)
   | (with_reducible exact impl_ZeroPoint.mono _ _ _)
   | (with_reducible exact spec_CountPoints.mono _ _ _)
   | (with_reducible exact spec_DrawOfShort.mono _ _)
   | (with_reducible exact spec_DrawOrderOf.mono _ _)
   | (with_reducible exact spec_DrawTimesPoint.mono _ _)
   | (with_reducible exact spec_OfShort.mono _ _ _ _)
   | (with_reducible exact spec_OrderOf.mono _ _ _ _ _)
   | (with_reducible exact spec_ShortPoint.mono _ _ _ _ _)
   | (with_reducible exact spec_TimesPoint.mono _ _ _ _ _ _)
   | (with_reducible exact LeO.refl _)
   | (with_reducible exact LeO.none _)
   | (with_reducible refine LeO.ite ?_ ?_)
   | (with_reducible refine LeO.bind ?_ (fun _ => ?_))
   | exact ih0 _ _ _ _ _ _ _ _ _ _ _ _
   | exact ih1 _ _ _ _ _ _ _ _ _ _ _
   | exact ih2 _
   | exact ih3 _ _ _ _ _ _ _ _ _ _
   | exact ih4 _ _ _ _ _ _ _ _ _
   | exact ih5 _ _
   | exact impl_AddPoints.mono _ _ _ _ _ _ _
   | exact impl_CountPoints.mono _ _ _
   | exact impl_OfShort.mono _ _ _ _
   | exact impl_OrderOf.mono _ _ _ _ _
   | exact impl_ShortPoint.mono _ _ _ _ _
   | exact impl_TimesPoint.mono _ _ _ _ _ _
   | exact impl_ZeroPoint.mono _ _ _
   | exact spec_CountPoints.mono _ _ _
   | exact spec_DrawOfShort.mono _ _
   | exact spec_DrawOrderOf.mono _ _
   | exact spec_DrawTimesPoint.mono _ _
   | exact spec_OfShort.mono _ _ _ _
   | exact spec_OrderOf.mono _ _ _ _ _
   | exact spec_ShortPoint.mono _ _ _ _ _
   | exact spec_TimesPoint.mono _ _ _ _ _ _
   | exact LeO.none _
   | refine LeO.ite ?_ ?_
   | refine LeO.bind ?_ (fun _ => ?_)
def laws_FnPoints.Pure : Prop := ∀ (l0 : List Int) (l1 : List Int), l0.length ≤ maxLen → l0.length * 1 ≤ 140737488351232 → (∀ x ∈ l0, (Lit.int .u8 x).wf = true) → l1.length ≤ maxLen → l1.length * 1 ≤ 140737488351232 → (∀ x ∈ l1, (Lit.int .u8 x).wf = true) → ∃ k, laws_FnPoints.f k l0 l1 = some true

end
end Go.Proofs.Ytdlljfejfgfmgaa.PFnPoints
