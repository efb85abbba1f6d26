-- Printed for this claim by a changed copy of the kit's printing program (wip/tools/patch_print.py); Lean checks it.
import Derived.Test.YtkkphbjemnifiaaPFnFoundx0
import Derived.Test.YtkkphbjemnifiaaPFnFoundx1
import Derived.Test.YtkkphbjemnifiaaPFnFoundx5
import Derived.Test.YtkkphbjemnifiaaPFnFoundx9
import Derived.Test.YtkkphbjemnifiaaPFnFoundx10
import Derived.Test.YtkkphbjemnifiaaPFnFoundx11
import Derived.Test.YtkkphbjemnifiaaPFnFoundx12
import Derived.Test.YtkkphbjemnifiaaPFnFoundx14
namespace Go.Proofs.Ytkkphbjemnifiaa.PFnFound
open Go.RowKit Go.Proofs.YtkkphbjemnifiaaW.PrintWords Go.Proofs.YtkkphbjemnifiaaW.PrintLast Go.Proofs.YtkkphbjemnifiaaW.PrintMore
attribute [local go_sem] max2_int min2_int max_two min_two max_three min_three max_four min_four   -- for this text's walks alone
set_option linter.unusedVariables false
set_option linter.unusedSimpArgs false
noncomputable section
attribute [local go_sem high] eqA51
/-! ### laws_FnFound: function 10 -/
mutual
def laws_FnFound.j0 : Nat → List Int → List (S74) → ByteArray → List Int → Bool → List (S51) → Bool → List (S51) → Bool → Option (Bool)
 | 0, _, _, _, _, _, _, _, _, _ => none
 | k + 1, x1, x5, x6, x7, x8, x11, x12, x13, x89 => if x89 = true then (some false) else (laws_FnFound.l0 k x1 x5 x6 x7 x8 x11 x12 x13 (x11.length : Int) 0)
def laws_FnFound.l0 : Nat → List Int → List (S74) → ByteArray → List Int → Bool → List (S51) → Bool → List (S51) → Int → Int → Option (Bool)
 | 0, _, _, _, _, _, _, _, _, _, _ => none
 | k + 1, x1, x5, x6, x7, x8, x11, x12, x13, x91, x92 => if x92 < x91 then (if 0 ≤ x92 then (if x92 < (x11.length : Int) then (if x92 < (x13.length : Int) then (if (!((((rd_T51 x11 x92).f0).toList) == (((rd_T51 x13 x92).f0).toList)) || (!(((rd_T51 x11 x92).f1) == ((rd_T51 x13 x92).f1)))) = true then (some false) else (laws_FnFound.l0 k x1 x5 x6 x7 x8 x11 x12 x13 x91 (wrap64 (x92 + 1)))) else (none)) else (none)) else (none)) else (if x12 = true then ((impl_IndexOf.f k x11).bind fun bt467 => (if bt467.2 = true then ((laws_sameForks.f k bt467.1 x5).bind fun t471 => (if t471 = true then (laws_FnFound.j2 k x1 x6 x7 x8 x11 x12) else (some false))) else (some false))) else (laws_FnFound.j2 k x1 x6 x7 x8 x11 x12))
def laws_FnFound.j2 : Nat → List Int → ByteArray → List Int → Bool → List (S51) → Bool → Option (Bool)
 | 0, _, _, _, _, _, _ => none
 | k + 1, x1, x6, x7, x8, x11, x12 => if x8 = true then (laws_FnFound.j3 k x1 x6 x7 x11 x12) else (laws_FnFound.j3 k x1 x6 x7 x11 false)
def laws_FnFound.j3 : Nat → List Int → ByteArray → List Int → List (S51) → Bool → Option (Bool)
 | 0, _, _, _, _, _ => none
 | k + 1, x1, x6, x7, x11, x122 => if x122 = true then (laws_FnFound.l1 k x1 x6 x7 0 ([] : List Int) x11 (x11.length : Int) 0) else (laws_FnFound.j5 k x1)
def laws_FnFound.j5 : Nat → List Int → Option (Bool)
 | 0, _ => none
 | k + 1, x1 => (spec_DrawFindKey.f k x1).bind fun bt479 => ((impl_FindKey.f k bt479.1 bt479.2).bind fun bt483 => ((spec_FindKey.f k bt479.1 bt479.2).bind fun bt488 => ((spec_DrawFirstUnlike.f x1).bind fun bt493 => ((impl_FirstUnlike.f k bt493.1 bt493.2).bind fun bt495 => ((spec_FirstUnlike.f k bt493.1 bt493.2).bind fun bt497 => (if (bt483.2.2 == bt488.2.2) = true then (if bt483.2.1 = bt488.2.1 then ((laws_sameInts.f k bt483.1 bt488.1).bind fun t499 => (if t499 = true then (if (bt495.2 == bt497.2) = true then (some (bt495.1 == bt497.1)) else (some false)) else (some false))) else (some false)) else (some false)))))))
def laws_FnFound.l1 : Nat → List Int → ByteArray → List Int → Int → List Int → List (S51) → Int → Int → Option (Bool)
 | 0, _, _, _, _, _, _, _, _ => none
 | k + 1, x1, x6, x7, x18, x19, x123, x124, x125 => if x125 < x124 then (if 0 ≤ x125 then (if x125 < (x123.length : Int) then (if 0 ≤ (x6.size : Int) then (if (x6.size : Int) ≤ (((rd_T51 x123 x125).f0).size : Int) then (if (((rd_T51 x123 x125).f0).extract 0 ((x6.size : Int) : Int).toNat).toList = x6.toList then ((laws_has.f k x7 ((rd_T51 x123 x125).f1)).bind fun t474 => (if t474 = true then ((laws_has.f k x19 ((rd_T51 x123 x125).f1)).bind fun t475 => (if t475 = true then (laws_FnFound.l1 k x1 x6 x7 (wrap64 (x18 + 1)) x19 x123 x124 (wrap64 (x125 + 1))) else (if x19.length < 17592186044416 then (laws_FnFound.l1 k x1 x6 x7 (wrap64 (x18 + 1)) (x19 ++ [(rd_T51 x123 x125).f1]) x123 x124 (wrap64 (x125 + 1))) else (none)))) else (some false))) else (laws_FnFound.l1 k x1 x6 x7 x18 x19 x123 x124 (wrap64 (x125 + 1)))) else (none)) else (none)) else (none)) else (none)) else (if (x19.length : Int) = (x7.length : Int) then (if x18 < (x7.length : Int) then (some false) else (laws_FnFound.j5 k x1)) else (some false))
end
def laws_FnFound.f (k : Nat) (l0 : List Int) (l1 : List Int) : Option (Bool) := if (wrap64 ((l0.length : Int) + (l1.length : Int))) > 1048576 then (some true) else ((spec_DrawFindBeginning.f k l0).bind fun bt444 => ((impl_FindBeginning.f k bt444.1 bt444.2).bind fun bt448 => ((spec_FindBeginning.f k bt444.1 bt444.2).bind fun bt452 => ((impl_PairsIn.f k bt444.1).bind fun bt456 => ((spec_PairsIn.f k bt444.1).bind fun bt460 => (if (bt448.2 != bt452.2) = true then (laws_FnFound.j0 k l1 bt444.1 bt444.2 bt448.1 bt448.2 bt456.1 bt456.2 bt460.1 true) else ((laws_sameInts.f k bt448.1 bt452.1).bind fun t464 => (if t464 = true then (if (bt456.2 != bt460.2) = true then (laws_FnFound.j0 k l1 bt444.1 bt444.2 bt448.1 bt448.2 bt456.1 bt456.2 bt460.1 true) else (laws_FnFound.j0 k l1 bt444.1 bt444.2 bt448.1 bt448.2 bt456.1 bt456.2 bt460.1 (bt456.1.length != bt460.1.length))) else (laws_FnFound.j0 k l1 bt444.1 bt444.2 bt448.1 bt448.2 bt456.1 bt456.2 bt460.1 true)))))))))
theorem laws_FnFound.mono_l : ∀ k, (∀ y0 y1 y2 y3 y4 y5 y6 y7 y8, LeO (laws_FnFound.j0 k y0 y1 y2 y3 y4 y5 y6 y7 y8) (laws_FnFound.j0 (k + 1) y0 y1 y2 y3 y4 y5 y6 y7 y8)) ∧ (∀ y0 y1 y2 y3 y4 y5 y6 y7 y8 y9, LeO (laws_FnFound.l0 k y0 y1 y2 y3 y4 y5 y6 y7 y8 y9) (laws_FnFound.l0 (k + 1) y0 y1 y2 y3 y4 y5 y6 y7 y8 y9)) ∧ (∀ y0 y1 y2 y3 y4 y5, LeO (laws_FnFound.j2 k y0 y1 y2 y3 y4 y5) (laws_FnFound.j2 (k + 1) y0 y1 y2 y3 y4 y5)) ∧ (∀ y0 y1 y2 y3 y4, LeO (laws_FnFound.j3 k y0 y1 y2 y3 y4) (laws_FnFound.j3 (k + 1) y0 y1 y2 y3 y4)) ∧ (∀ y0, LeO (laws_FnFound.j5 k y0) (laws_FnFound.j5 (k + 1) y0)) ∧ (∀ y0 y1 y2 y3 y4 y5 y6 y7, LeO (laws_FnFound.l1 k y0 y1 y2 y3 y4 y5 y6 y7) (laws_FnFound.l1 (k + 1) y0 y1 y2 y3 y4 y5 y6 y7))
 | 0 => ⟨fun _ _ _ _ _ _ _ _ _ r h => by simp [laws_FnFound.j0] at h, fun _ _ _ _ _ _ _ _ _ _ r h => by simp [laws_FnFound.l0] at h, fun _ _ _ _ _ _ r h => by simp [laws_FnFound.j2] at h, fun _ _ _ _ _ r h => by simp [laws_FnFound.j3] at h, fun _ r h => by simp [laws_FnFound.j5] at h, fun _ _ _ _ _ _ _ _ r h => by simp [laws_FnFound.l1] at h⟩
 | k + 1 => by
  obtain ⟨ih0, ih1, ih2, ih3, ih4, ih5⟩ := laws_FnFound.mono_l k
  refine ⟨?_, ?_, ?_, ?_, ?_, ?_⟩
  ·intro y0 y1 y2 y3 y4 y5 y6 y7 y8
   unfold laws_FnFound.j0
   repeat' first
   | (with_reducible exact ih0 _ _ _ _ _ _ _ _ _)
   | (with_reducible exact ih1 _ _ _ _ _ _ _ _ _ _)
   | (with_reducible exact ih2 _ _ _ _ _ _)
   | (with_reducible exact ih3 _ _ _ _ _)
   | (with_reducible exact ih4 _)
   | (with_reducible exact ih5 _ _ _ _ _ _ _ _)
   | (with_reducible exact impl_FindBeginning.mono _ _ _)
   | (with_reducible exact impl_FindKey.mono _ _ _)
   | (with_reducible exact impl_FirstUnlike.mono _ _ _)
   | (with_reducible exact impl_IndexOf.mono _ _)
   | (with_reducible exact impl_PairsIn.mono _ _)
   | (with_reducible exact laws_has.mono _ _ _)
   | (with_reducible exact laws_sameForks.mono _ _ _)
   | (with_reducible exact laws_sameInts.mono _ _ _)
   | (with_reducible exact spec_DrawFindBeginning.mono _ _)
   | (with_reducible exact spec_DrawFindKey.mono _ _)
   | (with_reducible exact spec_FindBeginning.mono _ _ _)
   | (with_reducible exact spec_FindKey.mono _ _ _)
   | (with_reducible exact spec_FirstUnlike.mono _ _ _)
   | (with_reducible exact spec_PairsIn.mono _ _)
   | (with_reducible exact LeO.refl _)
   | (with_reducible exact LeO.none _)
   | (with_reducible refine LeO.ite ?_ ?_)
   | (with_reducible refine LeO.bind ?_ (fun _ => ?_))
   | exact LeO.none _
   | refine LeO.ite ?_ ?_
   | refine LeO.bind ?_ (fun _ => ?_)
  ·intro y0 y1 y2 y3 y4 y5 y6 y7 y8 y9
   unfold laws_FnFound.l0
   repeat' first
   | (with_reducible exact ih0 _ _ _ _ _ _ _ _ _)
   | (with_reducible exact ih1 _ _ _ _ _ _ _ _ _ _)
   | (with_reducible exact ih2 _ _ _ _ _ _)
   | (with_reducible exact ih3 _ _ _ _ _)
   | (with_reducible exact ih4 _)
   | (with_reducible exact ih5 _ _ _ _ _ _ _ _)
   | (with_reducible exact impl_FindBeginning.mono _ _ _)
   | (with_reducible exact impl_FindKey.mono _ _ _)
   | (with_reducible exact impl_FirstUnlike.mono _ _ _)
   | (with_reducible exact impl_IndexOf.mono _ _)
   | (with_reducible exact impl_PairsIn.mono _ _)
   | (with_reducible exact laws_has.mono _ _ _)
   | (with_reducible exact laws_sameForks.mono _ _ _)
   | (with_reducible exact laws_sameInts.mono _ _ _)
   | (with_reducible exact spec_DrawFindBeginning.mono _ _)
   | (with_reducible exact spec_DrawFindKey.mono _ _)
   | (with_reducible exact spec_FindBeginning.mono _ _ _)
   | (with_reducible exact spec_FindKey.mono _ _ _)
   | (with_reducible exact spec_FirstUnlike.mono _ _ _)
   | (with_reducible exact spec_PairsIn.mono _ _)
   | (with_reducible exact LeO.refl _)
   | (with_reducible exact LeO.none _)
   | (with_reducible refine LeO.ite ?_ ?_)
   | (with_reducible refine LeO.bind ?_ (fun _ => ?_))
   | exact LeO.none _
   | refine LeO.ite ?_ ?_
   | refine LeO.bind ?_ (fun _ => ?_)
  ·intro y0 y1 y2 y3 y4 y5
   unfold laws_FnFound.j2
   repeat' first
   | (with_reducible exact ih0 _ _ _ _ _ _ _ _ _)
   | (with_reducible exact ih1 _ _ _ _ _ _ _ _ _ _)
   | (with_reducible exact ih2 _ _ _ _ _ _)
   | (with_reducible exact ih3 _ _ _ _ _)
   | (with_reducible exact ih4 _)
   | (with_reducible exact ih5 _ _ _ _ _ _ _ _)
   | (with_reducible exact impl_FindBeginning.mono _ _ _)
   | (with_reducible exact impl_FindKey.mono _ _ _)
   | (with_reducible exact impl_FirstUnlike.mono _ _ _)
   | (with_reducible exact impl_IndexOf.mono _ _)
   | (with_reducible exact impl_PairsIn.mono _ _)
   | (with_reducible exact laws_has.mono _ _ _)
   | (with_reducible exact laws_sameForks.mono _ _ _)
   | (with_reducible exact laws_sameInts.mono _ _ _)
   | (with_reducible exact spec_DrawFindBeginning.mono _ _)
   | (with_reducible exact spec_DrawFindKey.mono _ _)
   | (with_reducible exact spec_FindBeginning.mono _ _ _)
   | (with_reducible exact spec_FindKey.mono _ _ _)
   | (with_reducible exact spec_FirstUnlike.mono _ _ _)
   | (with_reducible exact spec_PairsIn.mono _ _)
   | (with_reducible exact LeO.refl _)
   | (with_reducible exact LeO.none _)
   | (with_reducible refine LeO.ite ?_ ?_)
   | (with_reducible refine LeO.bind ?_ (fun _ => ?_))
   | exact LeO.none _
   | refine LeO.ite ?_ ?_
   | refine LeO.bind ?_ (fun _ => ?_)
  ·intro y0 y1 y2 y3 y4
   unfold laws_FnFound.j3
   repeat' first
   | (with_reducible exact ih0 _ _ _ _ _ _ _ _ _)
   | (with_reducible exact ih1 _ _ _ _ _ _ _ _ _ _)
   | (with_reducible exact ih2 _ _ _ _ _ _)
   | (with_reducible exact ih3 _ _ _ _ _)
   | (with_reducible exact ih4 _)
   | (with_reducible exact ih5 _ _ _ _ _ _ _ _)
   | (with_reducible exact impl_FindBeginning.mono _ _ _)
   | (with_reducible exact impl_FindKey.mono _ _ _)
   | (with_reducible exact impl_FirstUnlike.mono _ _ _)
   | (with_reducible exact impl_IndexOf.mono _ _)
   | (with_reducible exact impl_PairsIn.mono _ _)
   | (with_reducible exact laws_has.mono _ _ _)
   | (with_reducible exact laws_sameForks.mono _ _ _)
   | (with_reducible exact laws_sameInts.mono _ _ _)
   | (with_reducible exact spec_DrawFindBeginning.mono _ _)
   | (with_reducible exact spec_DrawFindKey.mono _ _)
   | (with_reducible exact spec_FindBeginning.mono _ _ _)
   | (with_reducible exact spec_FindKey.mono _ _ _)
   | (with_reducible exact spec_FirstUnlike.mono _ _ _)
   | (with_reducible exact spec_PairsIn.mono _ _)
   | (with_reducible exact LeO.refl _)
   | (with_reducible exact LeO.none _)
   | (with_reducible refine LeO.ite ?_ ?_)
   | (with_reducible refine LeO.bind ?_ (fun _ => ?_))
   | exact LeO.none _
   | refine LeO.ite ?_ ?_
   | refine LeO.bind ?_ (fun _ => ?_)
  ·intro y0
   unfold laws_FnFound.j5
   repeat' first
   | (with_reducible exact ih0 _ _ _ _ _ _ _ _ _)
   | (with_reducible exact ih1 _ _ _ _ _ _ _ _ _ _)
   | (with_reducible exact ih2 _ _ _ _ _ _)
   | (with_reducible exact ih3 _ _ _ _ _)
   | (with_reducible exact ih4 _)
   | (with_reducible exact ih5 _ _ _ _ _ _ _ _)
   | (with_reducible exact impl_FindBeginning.mono _ _ _)
   | (with_reducible exact impl_FindKey.mono _ _ _)
   | (with_reducible exact impl_FirstUnlike.mono _ _ _)
   | (with_reducible exact impl_IndexOf.mono _ _)
   | (with_reducible exact impl_PairsIn.mono _ _)
   | (with_reducible exact laws_has.mono _ _ _)
   | (with_reducible exact laws_sameForks.mono _ _ _)
   | (with_reducible exact laws_sameInts.mono _ _ _)
   | (with_reducible exact spec_DrawFindBeginning.mono _ _)
   | (with_reducible exact spec_DrawFindKey.mono _ _)
   | (with_reducible exact spec_FindBeginning.mono _ _ _)
   | (with_reducible exact spec_FindKey.mono _ _ _)
   | (with_reducible exact spec_FirstUnlike.mono _ _ _)
   | (with_reducible exact spec_PairsIn.mono _ _)
   | (with_reducible exact LeO.refl _)
   | (with_reducible exact LeO.none _)
   | (with_reducible refine LeO.ite ?_ ?_)
   | (with_reducible refine LeO.bind ?_ (fun _ => ?_))
   | exact LeO.none _
   | refine LeO.ite ?_ ?_
   | refine LeO.bind ?_ (fun _ => ?_)
  ·intro y0 y1 y2 y3 y4 y5 y6 y7
   unfold laws_FnFound.l1
   repeat' first
   | (with_reducible exact ih0 _ _ _ _ _ _ _ _ _)
   | (with_reducible exact ih1 _ _ _ _ _ _ _ _ _ _)
   | (with_reducible exact ih2 _ _ _ _ _ _)
   | (with_reducible exact ih3 _ _ _ _ _)
   | (with_reducible exact ih4 _)
   | (with_reducible exact ih5 _ _ _ _ _ _ _ _)
   | (with_reducible exact impl_FindBeginning.mono _ _ _)
   | (with_reducible exact impl_FindKey.mono _ _ _)
   | (with_reducible exact impl_FirstUnlike.mono _ _ _)
   | (with_reducible exact impl_IndexOf.mono _ _)
   | (with_reducible exact impl_PairsIn.mono _ _)
   | (with_reducible exact laws_has.mono _ _ _)
   | (with_reducible exact laws_sameForks.mono _ _ _)
   | (with_reducible exact laws_sameInts.mono _ _ _)
   | (with_reducible exact spec_DrawFindBeginning.mono _ _)
   | (with_reducible exact spec_DrawFindKey.mono _ _)
   | (with_reducible exact spec_FindBeginning.mono _ _ _)
   | (with_reducible exact spec_FindKey.mono _ _ _)
   | (with_reducible exact spec_FirstUnlike.mono _ _ _)
   | (with_reducible exact spec_PairsIn.mono _ _)
   | (with_reducible exact LeO.refl _)
   | (with_reducible exact LeO.none _)
   | (with_reducible refine LeO.ite ?_ ?_)
   | (with_reducible refine LeO.bind ?_ (fun _ => ?_))
   | exact LeO.none _
   | refine LeO.ite ?_ ?_
   | refine LeO.bind ?_ (fun _ => ?_)
theorem laws_FnFound.mono : ∀ a0 a1 k, LeO (laws_FnFound.f k a0 a1) (laws_FnFound.f (k + 1) a0 a1) := by
 intro a0 a1 k
 obtain ⟨ih0, ih1, ih2, ih3, ih4, ih5⟩ := laws_FnFound.mono_l k
 unfold laws_FnFound.f
 repeat' first
   | (with_reducible exact ih0 _ _ _ _ _ _ _ _ _)
   | (with_reducible exact ih1 _ _ _ _ _ _ _ _ _ _)
   | (with_reducible exact ih2 _ _ _ _ _ _)
   | (with_reducible exact ih3 _ _ _ _ _)
   | (with_reducible exact ih4 _)
   | (with_reducible exact ih5 _ _ _ _ _ _ _ _)
   | (with_reducible exact impl_FindBeginning.mono _ _ _)
   | (with_reducible exact impl_FindKey.mono _ _ _)
   | (with_reducible exact impl_FirstUnlike.mono _ _ _)
   | (with_reducible exact impl_IndexOf.mono _ _)
   | (with_reducible exact impl_PairsIn.mono _ _)
   | (with_reducible exact laws_has.mono _ _ _)
   | (with_reducible exact laws_sameForks.mono _ _ _)
   | (with_reducible exact laws_sameInts.mono _ _ _)
   | (with_reducible exact spec_DrawFindBeginning.mono _ _)
   | (with_reducible exact spec_DrawFindKey.mono _ _)
   | (with_reducible exact spec_FindBeginning.mono _ _ _)
   | (with_reducible exact spec_FindKey.mono _ _ _)
   | (with_reducible exact spec_FirstUnlike.mono _ _ _)
   | (with_reducible exact spec_PairsIn.mono _ _)
   | (with_reducible exact LeO.refl _)
   | (with_reducible exact LeO.none _)
   | (with_reducible refine LeO.ite ?_ ?_)
   | (with_reducible refine LeO.bind ?_ (fun _ => ?_))
   | exact LeO.none _
   | refine LeO.ite ?_ ?_
   | refine LeO.bind ?_ (fun _ => ?_)
set_option maxHeartbeats 8000000 in
set_option maxRecDepth 100000 in
theorem laws_FnFound.calls (k : Nat) (A0 : Option Addr) (c0 : Nat) (l0 : List Int) (A1 : Option Addr) (c1 : Nat) (l1 : List Int) (r : Bool) (w : World) (hr_ : r = true) (hr0 : Kd.C (Kd.int .u8) w A0 l0.length l0) (hc0 : l0.length ≤ c0) (hr1 : Kd.C (Kd.int .u8) w A1 l1.length l1) (hc1 : l1.length ≤ c1) (h : laws_FnFound.f k l0 l1 = some r) :
  Calls Try.prog 10 #[.slice A0 l0.length c0, .slice A1 l1.length c1] w fun e w' => e = .returned (.bool r) ∧ Below w.heap.size w w' := by
 have hu51 := Try.underlying51
 have HR_ := Aside0.mk hr_
 clear hr_
 have HR0 := Aside0.mk hr0
 have HC0 := Aside0.mk hc0
 clear hr0 hc0
 have HR1 := Aside0.mk hr1
 have HC1 := Aside0.mk hc1
 clear hr1 hc1
 have HB := Aside0.mk (Below.refl w.heap.size w)
 have H : (if (wrap64 ((l0.length : Int) + (l1.length : Int))) > 1048576 then (some true) else ((spec_DrawFindBeginning.f k l0).bind fun bt444 => ((impl_FindBeginning.f k bt444.1 bt444.2).bind fun bt448 => ((spec_FindBeginning.f k bt444.1 bt444.2).bind fun bt452 => ((impl_PairsIn.f k bt444.1).bind fun bt456 => ((spec_PairsIn.f k bt444.1).bind fun bt460 => (if (bt448.2 != bt452.2) = true then (laws_FnFound.j0 k l1 bt444.1 bt444.2 bt448.1 bt448.2 bt456.1 bt456.2 bt460.1 true) else ((laws_sameInts.f k bt448.1 bt452.1).bind fun t464 => (if t464 = true then (if (bt456.2 != bt460.2) = true then (laws_FnFound.j0 k l1 bt444.1 bt444.2 bt448.1 bt448.2 bt456.1 bt456.2 bt460.1 true) else (laws_FnFound.j0 k l1 bt444.1 bt444.2 bt448.1 bt448.2 bt456.1 bt456.2 bt460.1 (bt456.1.length != bt460.1.length))) else (laws_FnFound.j0 k l1 bt444.1 bt444.2 bt448.1 bt448.2 bt456.1 bt456.2 bt460.1 true)))))))))) = some r := h
 clear h
 by_cases c3 : (wrap64 ((l0.length : Int) + (l1.length : Int))) > 1048576
 ·rw [if_pos c3] at H
  have c3b0 : decide (1048576 < (wrap64 ((l0.length : Int) + (l1.length : Int)))) = true := decide_eq_true c3
  clear c3
  as_aux_lemma =>
   obtain rfl := Option.some.inj H
   go_enter Try.func10, Try.ntmps10
   go_wp2
   repeat (go_quiet (fail); try go_wp2)
   go_ret
   exact ⟨rfl, by repeat (first | (with_reducible first | exact HB.out | apply q4_ | apply q5_ | apply q6_) | exact HB.out)⟩
 ·rw [if_neg c3] at H
  have c3b0 : decide (1048576 < (wrap64 ((l0.length : Int) + (l1.length : Int)))) = false := decide_eq_false c3
  clear c3
  replace H := Option.bind_eq_some_iff.mp H
  obtain ⟨⟨t444, t445⟩, A40, H⟩ := H
  replace H : ((impl_FindBeginning.f k t444 t445).bind fun bt448 => ((spec_FindBeginning.f k t444 t445).bind fun bt452 => ((impl_PairsIn.f k t444).bind fun bt456 => ((spec_PairsIn.f k t444).bind fun bt460 => (if (bt448.2 != bt452.2) = true then (laws_FnFound.j0 k l1 t444 t445 bt448.1 bt448.2 bt456.1 bt456.2 bt460.1 true) else ((laws_sameInts.f k bt448.1 bt452.1).bind fun t464 => (if t464 = true then (if (bt456.2 != bt460.2) = true then (laws_FnFound.j0 k l1 t444 t445 bt448.1 bt448.2 bt456.1 bt456.2 bt460.1 true) else (laws_FnFound.j0 k l1 t444 t445 bt448.1 bt448.2 bt456.1 bt456.2 bt460.1 (bt456.1.length != bt460.1.length))) else (laws_FnFound.j0 k l1 t444 t445 bt448.1 bt448.2 bt456.1 bt456.2 bt460.1 true)))))))) = some r := H
  have A4 := Aside0.mk A40
  clear A40
  replace H := Option.bind_eq_some_iff.mp H
  obtain ⟨⟨t448, t449⟩, A50, H⟩ := H
  replace H : ((spec_FindBeginning.f k t444 t445).bind fun bt452 => ((impl_PairsIn.f k t444).bind fun bt456 => ((spec_PairsIn.f k t444).bind fun bt460 => (if (t449 != bt452.2) = true then (laws_FnFound.j0 k l1 t444 t445 t448 t449 bt456.1 bt456.2 bt460.1 true) else ((laws_sameInts.f k t448 bt452.1).bind fun t464 => (if t464 = true then (if (bt456.2 != bt460.2) = true then (laws_FnFound.j0 k l1 t444 t445 t448 t449 bt456.1 bt456.2 bt460.1 true) else (laws_FnFound.j0 k l1 t444 t445 t448 t449 bt456.1 bt456.2 bt460.1 (bt456.1.length != bt460.1.length))) else (laws_FnFound.j0 k l1 t444 t445 t448 t449 bt456.1 bt456.2 bt460.1 true))))))) = some r := H
  have A5 := Aside0.mk A50
  clear A50
  replace H := Option.bind_eq_some_iff.mp H
  obtain ⟨⟨t452, t453⟩, A60, H⟩ := H
  replace H : ((impl_PairsIn.f k t444).bind fun bt456 => ((spec_PairsIn.f k t444).bind fun bt460 => (if (t449 != t453) = true then (laws_FnFound.j0 k l1 t444 t445 t448 t449 bt456.1 bt456.2 bt460.1 true) else ((laws_sameInts.f k t448 t452).bind fun t464 => (if t464 = true then (if (bt456.2 != bt460.2) = true then (laws_FnFound.j0 k l1 t444 t445 t448 t449 bt456.1 bt456.2 bt460.1 true) else (laws_FnFound.j0 k l1 t444 t445 t448 t449 bt456.1 bt456.2 bt460.1 (bt456.1.length != bt460.1.length))) else (laws_FnFound.j0 k l1 t444 t445 t448 t449 bt456.1 bt456.2 bt460.1 true)))))) = some r := H
  have A6 := Aside0.mk A60
  clear A60
  replace H := Option.bind_eq_some_iff.mp H
  obtain ⟨⟨t456, t457⟩, A70, H⟩ := H
  replace H : ((spec_PairsIn.f k t444).bind fun bt460 => (if (t449 != t453) = true then (laws_FnFound.j0 k l1 t444 t445 t448 t449 t456 t457 bt460.1 true) else ((laws_sameInts.f k t448 t452).bind fun t464 => (if t464 = true then (if (t457 != bt460.2) = true then (laws_FnFound.j0 k l1 t444 t445 t448 t449 t456 t457 bt460.1 true) else (laws_FnFound.j0 k l1 t444 t445 t448 t449 t456 t457 bt460.1 (t456.length != bt460.1.length))) else (laws_FnFound.j0 k l1 t444 t445 t448 t449 t456 t457 bt460.1 true))))) = some r := H
  have A7 := Aside0.mk A70
  clear A70
  replace H := Option.bind_eq_some_iff.mp H
  obtain ⟨⟨t460, t461⟩, A80, H⟩ := H
  replace H : (if (t449 != t453) = true then (laws_FnFound.j0 k l1 t444 t445 t448 t449 t456 t457 t460 true) else ((laws_sameInts.f k t448 t452).bind fun t464 => (if t464 = true then (if (t457 != t461) = true then (laws_FnFound.j0 k l1 t444 t445 t448 t449 t456 t457 t460 true) else (laws_FnFound.j0 k l1 t444 t445 t448 t449 t456 t457 t460 (t456.length != t460.length))) else (laws_FnFound.j0 k l1 t444 t445 t448 t449 t456 t457 t460 true)))) = some r := H
  have A8 := Aside0.mk A80
  clear A80
  have HC9 := Aside0.mk H
  clear H
  go_enter Try.func10, Try.ntmps10
  go_upto_region 8 with (first | (go_at_call 43; (with_reducible refine (spec_DrawFindBeginning.calls k _ _ l0 t444 t445 _ ?side1 ?side2 A4.out).mono ?_); (case side1 => repeat (first | exact HR0.out | (with_reducible refine Kd.C_alloc ?_ _) | (with_reducible refine Kd.C_drewN ?_ _) | (with_reducible refine Kd.C_drew ?_))); (case side2 => exact HC0.out); rintro e w10 ⟨v446, rfl, ho0, hb⟩; have n0_ := Aside0.mk (Kd.S_lower ho0 (below_size (by repeat first | (with_reducible first | exact HB.out | apply q4_ | apply q5_ | apply q6_) | exact HB.out))); have n1_ := Aside0.mk (below_step (by repeat first | (with_reducible first | exact HB.out | apply q4_ | apply q5_ | apply q6_) | exact HB.out) hb); clear HB; have HO447 := n0_; have HB := n1_; clear n0_ n1_; (try clear hb); (try clear hk); (try clear hi); (try clear ho0); obtain ⟨Ao11, co11, eo11⟩ := Kd.S_slice HO447.out; subst eo11) | (go_at_call 37; (with_reducible refine (impl_FindBeginning.calls k _ _ t444 t445 t448 t449 _ ?side1 ?side2 A5.out).mono ?_); (case side1 => exact (Kd.S_reads' HO447.out).2.2); (case side2 => exact (Kd.S_reads' HO447.out).2.1); rintro e w12 ⟨v450, rfl, ho0, hb⟩; have n0_ := Aside0.mk (Kd.S_elder' HO447.out (Kd.R_base ho0) hb); have n1_ := Aside0.mk (Kd.R_lower ho0 (below_size (by repeat first | (with_reducible first | exact HB.out | apply q4_ | apply q5_ | apply q6_) | exact HB.out))); have n2_ := Aside0.mk (below_step (by repeat first | (with_reducible first | exact HB.out | apply q4_ | apply q5_ | apply q6_) | exact HB.out) hb); clear HO447; clear HB; have HO447 := n0_; have HO451 := n1_; have HB := n2_; clear n0_ n1_ n2_; (try clear hb); (try clear hk); (try clear hi); (try clear ho0)) | (go_at_call 36; (with_reducible refine (spec_FindBeginning.calls k _ _ t444 t445 t452 t453 _ ?side1 ?side2 A6.out).mono ?_); (case side1 => exact (Kd.S_reads' HO447.out).2.2); (case side2 => exact (Kd.S_reads' HO447.out).2.1); rintro e w13 ⟨v454, rfl, ho0, hb⟩; have n0_ := Aside0.mk (Kd.S_elder' HO447.out (Kd.R_base ho0) hb); have n1_ := Aside0.mk (Kd.R_elder' HO451.out (Kd.R_base ho0) hb); have n2_ := Aside0.mk (Kd.R_lower (Kd.R_new' ho0 (Kd.R_lt HO451.out)) (below_size (by repeat first | (with_reducible first | exact HB.out | apply q4_ | apply q5_ | apply q6_) | exact HB.out))); have n3_ := Aside0.mk (below_step (by repeat first | (with_reducible first | exact HB.out | apply q4_ | apply q5_ | apply q6_) | exact HB.out) hb); clear HO447; clear HO451; clear HB; have HO447 := n0_; have HO451 := n1_; have HO455 := n2_; have HB := n3_; clear n0_ n1_ n2_ n3_; (try clear hb); (try clear hk); (try clear hi); (try clear ho0)) | (go_at_call 30; (with_reducible refine (impl_PairsIn.calls k _ _ t444 t456 t457 _ ?side1 ?side2 A7.out).mono ?_); (case side1 => exact (Kd.S_reads' HO447.out).2.2); (case side2 => exact (Kd.S_reads' HO447.out).2.1); rintro e w14 ⟨v458, rfl, ho0, hb⟩; have n0_ := Aside0.mk (Kd.S_below HO447.out hb); have n1_ := Aside0.mk (Kd.R_below HO451.out hb); have n2_ := Aside0.mk (Kd.R_below HO455.out hb); have n3_ := Aside0.mk (Kd.R_lower ho0 (below_size (by repeat first | (with_reducible first | exact HB.out | apply q4_ | apply q5_ | apply q6_) | exact HB.out))); have n4_ := Aside0.mk (below_step (by repeat first | (with_reducible first | exact HB.out | apply q4_ | apply q5_ | apply q6_) | exact HB.out) hb); clear HO447; clear HO451; clear HO455; clear HB; have HO447 := n0_; have HO451 := n1_; have HO455 := n2_; have HO459 := n3_; have HB := n4_; clear n0_ n1_ n2_ n3_ n4_; (try clear hb); (try clear hk); (try clear hi); (try clear ho0)) | (go_at_call 29; (with_reducible refine (spec_PairsIn.calls k _ _ t444 t460 t461 _ ?side1 ?side2 A8.out).mono ?_); (case side1 => exact (Kd.S_reads' HO447.out).2.2); (case side2 => exact (Kd.S_reads' HO447.out).2.1); rintro e w15 ⟨v462, rfl, ho0, hb⟩; have n0_ := Aside0.mk (Kd.S_below HO447.out hb); have n1_ := Aside0.mk (Kd.R_below HO451.out hb); have n2_ := Aside0.mk (Kd.R_below HO455.out hb); have n3_ := Aside0.mk (Kd.R_elder' HO459.out (Kd.R_base ho0) hb); have n4_ := Aside0.mk (Kd.R_lower (Kd.R_new' ho0 (Kd.R_lt HO459.out)) (below_size (by repeat first | (with_reducible first | exact HB.out | apply q4_ | apply q5_ | apply q6_) | exact HB.out))); have n5_ := Aside0.mk (below_step (by repeat first | (with_reducible first | exact HB.out | apply q4_ | apply q5_ | apply q6_) | exact HB.out) hb); clear HO447; clear HO451; clear HO455; clear HO459; clear HB; have HO447 := n0_; have HO451 := n1_; have HO455 := n2_; have HO459 := n3_; have HO463 := n4_; have HB := n5_; clear n0_ n1_ n2_ n3_ n4_ n5_; (try clear hb); (try clear hk); (try clear hi); (try clear ho0)))
  repeat (go_quiet (first | (go_at_call 43; (with_reducible refine (spec_DrawFindBeginning.calls k _ _ l0 t444 t445 _ ?side1 ?side2 A4.out).mono ?_); (case side1 => repeat (first | exact HR0.out | (with_reducible refine Kd.C_alloc ?_ _) | (with_reducible refine Kd.C_drewN ?_ _) | (with_reducible refine Kd.C_drew ?_))); (case side2 => exact HC0.out); rintro e w10 ⟨v446, rfl, ho0, hb⟩; have n0_ := Aside0.mk (Kd.S_lower ho0 (below_size (by repeat first | (with_reducible first | exact HB.out | apply q4_ | apply q5_ | apply q6_) | exact HB.out))); have n1_ := Aside0.mk (below_step (by repeat first | (with_reducible first | exact HB.out | apply q4_ | apply q5_ | apply q6_) | exact HB.out) hb); clear HB; have HO447 := n0_; have HB := n1_; clear n0_ n1_; (try clear hb); (try clear hk); (try clear hi); (try clear ho0); obtain ⟨Ao11, co11, eo11⟩ := Kd.S_slice HO447.out; subst eo11) | (go_at_call 37; (with_reducible refine (impl_FindBeginning.calls k _ _ t444 t445 t448 t449 _ ?side1 ?side2 A5.out).mono ?_); (case side1 => exact (Kd.S_reads' HO447.out).2.2); (case side2 => exact (Kd.S_reads' HO447.out).2.1); rintro e w12 ⟨v450, rfl, ho0, hb⟩; have n0_ := Aside0.mk (Kd.S_elder' HO447.out (Kd.R_base ho0) hb); have n1_ := Aside0.mk (Kd.R_lower ho0 (below_size (by repeat first | (with_reducible first | exact HB.out | apply q4_ | apply q5_ | apply q6_) | exact HB.out))); have n2_ := Aside0.mk (below_step (by repeat first | (with_reducible first | exact HB.out | apply q4_ | apply q5_ | apply q6_) | exact HB.out) hb); clear HO447; clear HB; have HO447 := n0_; have HO451 := n1_; have HB := n2_; clear n0_ n1_ n2_; (try clear hb); (try clear hk); (try clear hi); (try clear ho0)) | (go_at_call 36; (with_reducible refine (spec_FindBeginning.calls k _ _ t444 t445 t452 t453 _ ?side1 ?side2 A6.out).mono ?_); (case side1 => exact (Kd.S_reads' HO447.out).2.2); (case side2 => exact (Kd.S_reads' HO447.out).2.1); rintro e w13 ⟨v454, rfl, ho0, hb⟩; have n0_ := Aside0.mk (Kd.S_elder' HO447.out (Kd.R_base ho0) hb); have n1_ := Aside0.mk (Kd.R_elder' HO451.out (Kd.R_base ho0) hb); have n2_ := Aside0.mk (Kd.R_lower (Kd.R_new' ho0 (Kd.R_lt HO451.out)) (below_size (by repeat first | (with_reducible first | exact HB.out | apply q4_ | apply q5_ | apply q6_) | exact HB.out))); have n3_ := Aside0.mk (below_step (by repeat first | (with_reducible first | exact HB.out | apply q4_ | apply q5_ | apply q6_) | exact HB.out) hb); clear HO447; clear HO451; clear HB; have HO447 := n0_; have HO451 := n1_; have HO455 := n2_; have HB := n3_; clear n0_ n1_ n2_ n3_; (try clear hb); (try clear hk); (try clear hi); (try clear ho0)) | (go_at_call 30; (with_reducible refine (impl_PairsIn.calls k _ _ t444 t456 t457 _ ?side1 ?side2 A7.out).mono ?_); (case side1 => exact (Kd.S_reads' HO447.out).2.2); (case side2 => exact (Kd.S_reads' HO447.out).2.1); rintro e w14 ⟨v458, rfl, ho0, hb⟩; have n0_ := Aside0.mk (Kd.S_below HO447.out hb); have n1_ := Aside0.mk (Kd.R_below HO451.out hb); have n2_ := Aside0.mk (Kd.R_below HO455.out hb); have n3_ := Aside0.mk (Kd.R_lower ho0 (below_size (by repeat first | (with_reducible first | exact HB.out | apply q4_ | apply q5_ | apply q6_) | exact HB.out))); have n4_ := Aside0.mk (below_step (by repeat first | (with_reducible first | exact HB.out | apply q4_ | apply q5_ | apply q6_) | exact HB.out) hb); clear HO447; clear HO451; clear HO455; clear HB; have HO447 := n0_; have HO451 := n1_; have HO455 := n2_; have HO459 := n3_; have HB := n4_; clear n0_ n1_ n2_ n3_ n4_; (try clear hb); (try clear hk); (try clear hi); (try clear ho0)) | (go_at_call 29; (with_reducible refine (spec_PairsIn.calls k _ _ t444 t460 t461 _ ?side1 ?side2 A8.out).mono ?_); (case side1 => exact (Kd.S_reads' HO447.out).2.2); (case side2 => exact (Kd.S_reads' HO447.out).2.1); rintro e w15 ⟨v462, rfl, ho0, hb⟩; have n0_ := Aside0.mk (Kd.S_below HO447.out hb); have n1_ := Aside0.mk (Kd.R_below HO451.out hb); have n2_ := Aside0.mk (Kd.R_below HO455.out hb); have n3_ := Aside0.mk (Kd.R_elder' HO459.out (Kd.R_base ho0) hb); have n4_ := Aside0.mk (Kd.R_lower (Kd.R_new' ho0 (Kd.R_lt HO459.out)) (below_size (by repeat first | (with_reducible first | exact HB.out | apply q4_ | apply q5_ | apply q6_) | exact HB.out))); have n5_ := Aside0.mk (below_step (by repeat first | (with_reducible first | exact HB.out | apply q4_ | apply q5_ | apply q6_) | exact HB.out) hb); clear HO447; clear HO451; clear HO455; clear HO459; clear HB; have HO447 := n0_; have HO451 := n1_; have HO455 := n2_; have HO459 := n3_; have HO463 := n4_; have HB := n5_; clear n0_ n1_ n2_ n3_ n4_ n5_; (try clear hb); (try clear hk); (try clear hi); (try clear ho0))); go_upto_region 8 with (first | (go_at_call 43; (with_reducible refine (spec_DrawFindBeginning.calls k _ _ l0 t444 t445 _ ?side1 ?side2 A4.out).mono ?_); (case side1 => repeat (first | exact HR0.out | (with_reducible refine Kd.C_alloc ?_ _) | (with_reducible refine Kd.C_drewN ?_ _) | (with_reducible refine Kd.C_drew ?_))); (case side2 => exact HC0.out); rintro e w10 ⟨v446, rfl, ho0, hb⟩; have n0_ := Aside0.mk (Kd.S_lower ho0 (below_size (by repeat first | (with_reducible first | exact HB.out | apply q4_ | apply q5_ | apply q6_) | exact HB.out))); have n1_ := Aside0.mk (below_step (by repeat first | (with_reducible first | exact HB.out | apply q4_ | apply q5_ | apply q6_) | exact HB.out) hb); clear HB; have HO447 := n0_; have HB := n1_; clear n0_ n1_; (try clear hb); (try clear hk); (try clear hi); (try clear ho0); obtain ⟨Ao11, co11, eo11⟩ := Kd.S_slice HO447.out; subst eo11) | (go_at_call 37; (with_reducible refine (impl_FindBeginning.calls k _ _ t444 t445 t448 t449 _ ?side1 ?side2 A5.out).mono ?_); (case side1 => exact (Kd.S_reads' HO447.out).2.2); (case side2 => exact (Kd.S_reads' HO447.out).2.1); rintro e w12 ⟨v450, rfl, ho0, hb⟩; have n0_ := Aside0.mk (Kd.S_elder' HO447.out (Kd.R_base ho0) hb); have n1_ := Aside0.mk (Kd.R_lower ho0 (below_size (by repeat first | (with_reducible first | exact HB.out | apply q4_ | apply q5_ | apply q6_) | exact HB.out))); have n2_ := Aside0.mk (below_step (by repeat first | (with_reducible first | exact HB.out | apply q4_ | apply q5_ | apply q6_) | exact HB.out) hb); clear HO447; clear HB; have HO447 := n0_; have HO451 := n1_; have HB := n2_; clear n0_ n1_ n2_; (try clear hb); (try clear hk); (try clear hi); (try clear ho0)) | (go_at_call 36; (with_reducible refine (spec_FindBeginning.calls k _ _ t444 t445 t452 t453 _ ?side1 ?side2 A6.out).mono ?_); (case side1 => exact (Kd.S_reads' HO447.out).2.2); (case side2 => exact (Kd.S_reads' HO447.out).2.1); rintro e w13 ⟨v454, rfl, ho0, hb⟩; have n0_ := Aside0.mk (Kd.S_elder' HO447.out (Kd.R_base ho0) hb); have n1_ := Aside0.mk (Kd.R_elder' HO451.out (Kd.R_base ho0) hb); have n2_ := Aside0.mk (Kd.R_lower (Kd.R_new' ho0 (Kd.R_lt HO451.out)) (below_size (by repeat first | (with_reducible first | exact HB.out | apply q4_ | apply q5_ | apply q6_) | exact HB.out))); have n3_ := Aside0.mk (below_step (by repeat first | (with_reducible first | exact HB.out | apply q4_ | apply q5_ | apply q6_) | exact HB.out) hb); clear HO447; clear HO451; clear HB; have HO447 := n0_; have HO451 := n1_; have HO455 := n2_; have HB := n3_; clear n0_ n1_ n2_ n3_; (try clear hb); (try clear hk); (try clear hi); (try clear ho0)) | (go_at_call 30; (with_reducible refine (impl_PairsIn.calls k _ _ t444 t456 t457 _ ?side1 ?side2 A7.out).mono ?_); (case side1 => exact (Kd.S_reads' HO447.out).2.2); (case side2 => exact (Kd.S_reads' HO447.out).2.1); rintro e w14 ⟨v458, rfl, ho0, hb⟩; have n0_ := Aside0.mk (Kd.S_below HO447.out hb); have n1_ := Aside0.mk (Kd.R_below HO451.out hb); have n2_ := Aside0.mk (Kd.R_below HO455.out hb); have n3_ := Aside0.mk (Kd.R_lower ho0 (below_size (by repeat first | (with_reducible first | exact HB.out | apply q4_ | apply q5_ | apply q6_) | exact HB.out))); have n4_ := Aside0.mk (below_step (by repeat first | (with_reducible first | exact HB.out | apply q4_ | apply q5_ | apply q6_) | exact HB.out) hb); clear HO447; clear HO451; clear HO455; clear HB; have HO447 := n0_; have HO451 := n1_; have HO455 := n2_; have HO459 := n3_; have HB := n4_; clear n0_ n1_ n2_ n3_ n4_; (try clear hb); (try clear hk); (try clear hi); (try clear ho0)) | (go_at_call 29; (with_reducible refine (spec_PairsIn.calls k _ _ t444 t460 t461 _ ?side1 ?side2 A8.out).mono ?_); (case side1 => exact (Kd.S_reads' HO447.out).2.2); (case side2 => exact (Kd.S_reads' HO447.out).2.1); rintro e w15 ⟨v462, rfl, ho0, hb⟩; have n0_ := Aside0.mk (Kd.S_below HO447.out hb); have n1_ := Aside0.mk (Kd.R_below HO451.out hb); have n2_ := Aside0.mk (Kd.R_below HO455.out hb); have n3_ := Aside0.mk (Kd.R_elder' HO459.out (Kd.R_base ho0) hb); have n4_ := Aside0.mk (Kd.R_lower (Kd.R_new' ho0 (Kd.R_lt HO459.out)) (below_size (by repeat first | (with_reducible first | exact HB.out | apply q4_ | apply q5_ | apply q6_) | exact HB.out))); have n5_ := Aside0.mk (below_step (by repeat first | (with_reducible first | exact HB.out | apply q4_ | apply q5_ | apply q6_) | exact HB.out) hb); clear HO447; clear HO451; clear HO455; clear HO459; clear HB; have HO447 := n0_; have HO451 := n1_; have HO455 := n2_; have HO459 := n3_; have HO463 := n4_; have HB := n5_; clear n0_ n1_ n2_ n3_ n4_ n5_; (try clear hb); (try clear hk); (try clear hi); (try clear ho0))))
  (try simp only [Act.put, List.setIfInBounds_toArray, List.set_cons_zero, List.set_cons_succ])
  go_cut [89] (fun v89 wc => ∃ (kq : Nat) (x89_8 : Bool), v89 = .bool x89_8 ∧ Aside0 (laws_FnFound.j0 kq l1 t444 t445 t448 t449 t456 t457 t460 x89_8 = some r) ∧ Aside0 (kq ≤ k) ∧ Aside0 (Kd.S k74 74 wc w.heap.size (fun k_ => some k_ ≠ (v450 : Value).ownBlock) (.slice Ao11 t444.length co11) t444) ∧ Aside0 (Kd.R (Kd.int .i64) 3 wc w.heap.size (fun _ => True) v450 t448) ∧ Aside0 (Kd.R k51 51 wc w.heap.size (fun k_ => some k_ ≠ (v462 : Value).ownBlock) v458 t456) ∧ Aside0 (Kd.R k51 51 wc w.heap.size (fun k_ => some k_ ≠ (v458 : Value).ownBlock) v462 t460) ∧ Aside0 (Below w.heap.size w wc))
  case first =>
   have H := HC9.out
   clear HC9
   by_cases c16 : (t449 != t453) = true
   ·rw [if_pos c16] at H
    have c16b0 : (t449 != t453) = true := c16
    (try (have c16b1 : decide (t449 = t453) = false := by simpa using c16))
    (try (have c16b2 : (t449 == t453) = false := by simpa using c16))
    (try (have c16b3 : ¬ (t449 = t453) := by simpa using c16))
    clear c16
    (first | rw [c16b0] | (simp only [i64_w, i32_w]; rw [c16b0]) | skip)
    exfalso
    cases k with
    | zero => exact absurd H (by simp [laws_FnFound.j0])
    | succ kz_ => rw [laws_FnFound.j0, if_pos rfl] at H; exact absurd ((Option.some.inj H).trans HR_.out) (by decide)
   ·rw [if_neg c16] at H
    have c16b0 : (t449 != t453) = false := by simpa using c16
    (try (have c16b1 : decide (t449 = t453) = true := by simpa using c16))
    (try (have c16b2 : (t449 == t453) = true := by simpa using c16))
    clear c16
    (first | rw [c16b0] | (simp only [i64_w, i32_w]; rw [c16b0]) | skip)
    replace H := Option.bind_eq_some_iff.mp H
    obtain ⟨t464, A170, H⟩ := H
    replace H : (if t464 = true then (if (t457 != t461) = true then (laws_FnFound.j0 k l1 t444 t445 t448 t449 t456 t457 t460 true) else (laws_FnFound.j0 k l1 t444 t445 t448 t449 t456 t457 t460 (t456.length != t460.length))) else (laws_FnFound.j0 k l1 t444 t445 t448 t449 t456 t457 t460 true)) = some r := H
    have A17 := Aside0.mk A170
    clear A170
    by_cases c18 : t464 = true
    ·subst c18
     have H1 : (if (t457 != t461) = true then (laws_FnFound.j0 k l1 t444 t445 t448 t449 t456 t457 t460 true) else (laws_FnFound.j0 k l1 t444 t445 t448 t449 t456 t457 t460 (t456.length != t460.length))) = some r := by rw [if_pos rfl] at H; exact H
     clear H
     have H := H1
     clear H1
     by_cases c19 : (t457 != t461) = true
     ·rw [if_pos c19] at H
      have c19b0 : (t457 != t461) = true := c19
      (try (have c19b1 : decide (t457 = t461) = false := by simpa using c19))
      (try (have c19b2 : (t457 == t461) = false := by simpa using c19))
      (try (have c19b3 : ¬ (t457 = t461) := by simpa using c19))
      clear c19
      exfalso
      cases k with
      | zero => exact absurd H (by simp [laws_FnFound.j0])
      | succ kz_ => rw [laws_FnFound.j0, if_pos rfl] at H; exact absurd ((Option.some.inj H).trans HR_.out) (by decide)
     ·rw [if_neg c19] at H
      have c19b0 : (t457 != t461) = false := by simpa using c19
      (try (have c19b1 : decide (t457 = t461) = true := by simpa using c19))
      (try (have c19b2 : (t457 == t461) = true := by simpa using c19))
      clear c19
      as_aux_lemma =>
       have H' := Aside0.mk H
       clear H
       obtain ⟨Ao20, co20, eo20⟩ := Kd.R_slice HO451.out
       subst eo20
       obtain ⟨Ao21, co21, eo21⟩ := Kd.R_slice HO455.out
       subst eo21
       go_wp2_with (first | (go_at_call 44; (with_reducible refine (laws_sameInts.calls k _ _ t448 _ _ t452 true _ ?side1 ?side2 ?side3 ?side4 A17.out).mono ?_); (case side1 => exact (Kd.R_reads' HO451.out).2.2); (case side2 => exact (Kd.R_reads' HO451.out).2.1); (case side3 => exact (Kd.R_reads' HO455.out).2.2); (case side4 => exact (Kd.R_reads' HO455.out).2.1); rintro e w' ⟨rfl, ⟨nd, rfl⟩⟩; (try first | exact ⟨rfl, _, World.drewN_drewN _ _ _⟩ | exact ⟨rfl, _, Eq.trans (World.drewN_drewN _ _ _) (congrArg (World.drewN _) (Nat.add_assoc _ _ _))⟩); obtain ⟨Ao22, co22, eo22⟩ := Kd.R_slice HO459.out; subst eo22; obtain ⟨Ao23, co23, eo23⟩ := Kd.R_slice HO463.out; subst eo23))
       repeat (go_quiet (first | (go_at_call 44; (with_reducible refine (laws_sameInts.calls k _ _ t448 _ _ t452 true _ ?side1 ?side2 ?side3 ?side4 A17.out).mono ?_); (case side1 => exact (Kd.R_reads' HO451.out).2.2); (case side2 => exact (Kd.R_reads' HO451.out).2.1); (case side3 => exact (Kd.R_reads' HO455.out).2.2); (case side4 => exact (Kd.R_reads' HO455.out).2.1); rintro e w' ⟨rfl, ⟨nd, rfl⟩⟩; (try first | exact ⟨rfl, _, World.drewN_drewN _ _ _⟩ | exact ⟨rfl, _, Eq.trans (World.drewN_drewN _ _ _) (congrArg (World.drewN _) (Nat.add_assoc _ _ _))⟩); obtain ⟨Ao22, co22, eo22⟩ := Kd.R_slice HO459.out; subst eo22; obtain ⟨Ao23, co23, eo23⟩ := Kd.R_slice HO463.out; subst eo23)); try go_wp2_with (first | (go_at_call 44; (with_reducible refine (laws_sameInts.calls k _ _ t448 _ _ t452 true _ ?side1 ?side2 ?side3 ?side4 A17.out).mono ?_); (case side1 => exact (Kd.R_reads' HO451.out).2.2); (case side2 => exact (Kd.R_reads' HO451.out).2.1); (case side3 => exact (Kd.R_reads' HO455.out).2.2); (case side4 => exact (Kd.R_reads' HO455.out).2.1); rintro e w' ⟨rfl, ⟨nd, rfl⟩⟩; (try first | exact ⟨rfl, _, World.drewN_drewN _ _ _⟩ | exact ⟨rfl, _, Eq.trans (World.drewN_drewN _ _ _) (congrArg (World.drewN _) (Nat.add_assoc _ _ _))⟩); obtain ⟨Ao22, co22, eo22⟩ := Kd.R_slice HO459.out; subst eo22; obtain ⟨Ao23, co23, eo23⟩ := Kd.R_slice HO463.out; subst eo23)))
       go_meet
       case rel => exact ⟨_, ((t456.length != t460.length)), (by first | rfl | (simp; done) | (simp [*]; done) | (simp; apply Bool.eq_iff_iff.mpr; simp only [bne_iff_ne, ne_eq, beq_iff_eq]; omega)), H', ⟨by first | omega | exact Nat.le_refl _⟩, ⟨by (with_reducible repeat (first | apply Kd.S_alloc | apply Kd.S_drewN | apply Kd.S_drew)); exact Kd.S_mono HO447.out (fun _ hk => hk.1.2)⟩, ⟨by (with_reducible repeat (first | apply Kd.R_alloc | apply Kd.R_drewN | apply Kd.R_drew)); exact Kd.R_mono HO451.out (fun _ hk => trivial)⟩, ⟨by (with_reducible repeat (first | apply Kd.R_alloc | apply Kd.R_drewN | apply Kd.R_drew)); exact Kd.R_mono HO459.out (fun _ hk => hk.2)⟩, ⟨by (with_reducible repeat (first | apply Kd.R_alloc | apply Kd.R_drewN | apply Kd.R_drew)); exact Kd.R_mono HO463.out (fun _ hk => hk.2)⟩, ⟨by repeat (first | (with_reducible first | exact HB.out | apply q4_ | apply q5_ | apply q6_) | exact HB.out)⟩⟩
    ·replace c18 := Bool.eq_false_iff.mpr c18
     subst c18
     have H1 : (laws_FnFound.j0 k l1 t444 t445 t448 t449 t456 t457 t460 true) = some r := by rw [if_neg (show ¬ (false = true) by decide)] at H; exact H
     clear H
     have H := H1
     clear H1
     exfalso
     cases k with
     | zero => exact absurd H (by simp [laws_FnFound.j0])
     | succ kz_ => rw [laws_FnFound.j0, if_pos rfl] at H; exact absurd ((Option.some.inj H).trans HR_.out) (by decide)
  case rest =>
   clear HC9
   try clear c1
   try clear p2
   try clear c3
   try clear c3b0
   try clear p6
   try clear c10
   try clear c16
   try clear c16b0
   try clear c16b1
   try clear c16b2
   try clear c18
   try clear c19
   try clear c19b0
   try clear c19b1
   try clear c19b2
   obtain ⟨kq, x89_8, rfl, HA, HJ8, HO_5, HO_7, HO_11, HO_13, HB⟩ := hcut
   cases kq with
   | zero => exact absurd HA.out (by simp [laws_FnFound.j0])
   | succ kj8 =>
    have H := HA.out
    clear HA
    simp only [laws_FnFound.j0] at H
    by_cases c24 : x89_8 = true
    ·subst c24
     have H1 : (some false) = some r := by rw [if_pos rfl] at H; exact H
     clear H
     have H := H1
     clear H1
     exact absurd ((Option.some.inj H).trans HR_.out) (by decide)
    ·replace c24 := Bool.eq_false_iff.mpr c24
     subst c24
     have H1 : (laws_FnFound.l0 kj8 l1 t444 t445 t448 t449 t456 t457 t460 (t456.length : Int) 0) = some r := by rw [if_neg (show ¬ (false = true) by decide)] at H; exact H
     clear H
     have H := H1
     clear H1
     have H' := Aside0.mk H
     clear H
     obtain ⟨Ao25, co25, eo25⟩ := Kd.R_slice HO_11.out
     subst eo25
     go_wp2
     repeat (go_quiet (fail); try go_wp2)
     go_loopg [92] kj8 (fun kq v92 w' => ∃ (x92_2 : Int), v92 = .int .i64 x92_2 ∧ Aside0 (laws_FnFound.l0 kq l1 t444 t445 t448 t449 t456 t457 t460 (t456.length : Int) x92_2 = some r) ∧ Aside0 (kq ≤ kj8) ∧ Aside0 (Kd.S k74 74 w' w.heap.size (fun k_ => some k_ ≠ (v450 : Value).ownBlock) (.slice Ao11 t444.length co11) t444) ∧ Aside0 (Kd.R (Kd.int .i64) 3 w' w.heap.size (fun _ => True) v450 t448) ∧ Aside0 (Kd.R k51 51 w' w.heap.size (fun k_ => some k_ ≠ (v462 : Value).ownBlock) (.slice Ao25 t456.length co25) t456) ∧ Aside0 (Kd.R k51 51 w' w.heap.size (fun k_ => some k_ ≠ ((.slice Ao25 t456.length co25) : Value).ownBlock) v462 t460) ∧ Aside0 (Below w.heap.size w w'))
     case atStart => exact ⟨(0), (by first | rfl | (simp; done) | (simp [*]; done) | (simp; apply Bool.eq_iff_iff.mpr; simp only [bne_iff_ne, ne_eq, beq_iff_eq]; omega)), H', ⟨Nat.le_refl _⟩, ⟨by (with_reducible repeat (first | apply Kd.S_alloc | apply Kd.S_drewN | apply Kd.S_drew)); exact HO_5.out⟩, ⟨by (with_reducible repeat (first | apply Kd.R_alloc | apply Kd.R_drewN | apply Kd.R_drew)); exact HO_7.out⟩, ⟨by (with_reducible repeat (first | apply Kd.R_alloc | apply Kd.R_drewN | apply Kd.R_drew)); exact HO_11.out⟩, ⟨by (with_reducible repeat (first | apply Kd.R_alloc | apply Kd.R_drewN | apply Kd.R_drew)); exact HO_13.out⟩, ⟨by repeat (first | (with_reducible first | exact HB.out | apply q4_ | apply q5_ | apply q6_) | exact HB.out)⟩⟩
     case round =>
      clear H'
      try clear c1
      try clear c2
      try clear p2
      try clear c3
      try clear c3b0
      try clear p6
      try clear c10
      try clear c16
      try clear c16b0
      try clear c16b1
      try clear c16b2
      try clear c18
      try clear c19
      try clear c19b0
      try clear c19b1
      try clear c19b2
      try clear c24
      try clear p2
      try clear p6
      obtain ⟨x92_2, rfl, HA, HK2, HO_5, HO_7, HO_11, HO_13, HB⟩ := hrel
      cases gk with
      | zero => exact absurd HA.out (by simp [laws_FnFound.l0])
      | succ k2 =>
       have H := HA.out
       clear HA
       simp only [laws_FnFound.l0] at H
       by_cases c26 : x92_2 < (t456.length : Int)
       ·rw [if_pos c26] at H
        have c26b0 : decide (x92_2 < (t456.length : Int)) = true := decide_eq_true c26
        clear c26
        by_cases c27 : 0 ≤ x92_2
        ·rw [if_pos c27] at H
         have c27b0 : decide (0 ≤ x92_2) = true := decide_eq_true c27
         clear c27
         by_cases c28 : x92_2 < (t456.length : Int)
         ·rw [if_pos c28] at H
          have c28b0 : decide (x92_2 < (t456.length : Int)) = true := decide_eq_true c28
          clear c28
          by_cases c29 : x92_2 < (t460.length : Int)
          ·rw [if_pos c29] at H
           have c29b0 : decide (x92_2 < (t460.length : Int)) = true := decide_eq_true c29
           clear c29
           by_cases c30 : (!((((rd_T51 t456 x92_2).f0).toList) == (((rd_T51 t460 x92_2).f0).toList)) || (!(((rd_T51 t456 x92_2).f1) == ((rd_T51 t460 x92_2).f1)))) = true
           ·rw [if_pos c30] at H
            have c30b0 : (!((((rd_T51 t456 x92_2).f0).toList) == (((rd_T51 t460 x92_2).f0).toList)) || (!(((rd_T51 t456 x92_2).f1) == ((rd_T51 t460 x92_2).f1)))) = true := c30
            clear c30
            exact absurd ((Option.some.inj H).trans HR_.out) (by decide)
           ·rw [if_neg c30] at H
            have c30b0 : (!((((rd_T51 t456 x92_2).f0).toList) == (((rd_T51 t460 x92_2).f0).toList)) || (!(((rd_T51 t456 x92_2).f1) == ((rd_T51 t460 x92_2).f1)))) = false := by simpa using c30
            clear c30
            as_aux_lemma =>
             have H' := Aside0.mk H
             clear H
             have p465 : 0 ≤ (x92_2 : Int) := of_decide_eq_true (by assumption)
             have q465 : x92_2 < (t456.length : Int) := of_decide_eq_true (by assumption)
             obtain ⟨ad465, e465, hx465_0, hx465_1⟩ := at_T51 (Kd.R_reads' HO_11.out).2.2 x92_2 p465 q465
             cases e465
             replace p465 := eq_true p465
             replace q465 := eq_true q465
             obtain ⟨Ao31, co31, eo31⟩ := Kd.R_slice HO_13.out
             subst eo31
             have p466 : 0 ≤ (x92_2 : Int) := of_decide_eq_true (by assumption)
             have q466 : x92_2 < (t460.length : Int) := of_decide_eq_true (by assumption)
             obtain ⟨ad466, e466, hx466_0, hx466_1⟩ := at_T51 (Kd.R_reads' HO_13.out).2.2 x92_2 p466 q466
             cases e466
             replace p466 := eq_true p466
             replace q466 := eq_true q466
             go_wp2
             repeat (go_quiet (fail); try go_wp2)
             go_roundg k2
             case measure => have := HJ8.out; have := HK2.out; omega
             case rel => exact ⟨(wrap64 (x92_2 + 1)), (by first | rfl | (simp; done) | (simp [*]; done) | (simp; apply Bool.eq_iff_iff.mpr; simp only [bne_iff_ne, ne_eq, beq_iff_eq]; omega)), H', ⟨by have := HJ8.out; have := HK2.out; omega⟩, ⟨by (with_reducible repeat (first | apply Kd.S_alloc | apply Kd.S_drewN | apply Kd.S_drew)); exact HO_5.out⟩, ⟨by (with_reducible repeat (first | apply Kd.R_alloc | apply Kd.R_drewN | apply Kd.R_drew)); exact HO_7.out⟩, ⟨by (with_reducible repeat (first | apply Kd.R_alloc | apply Kd.R_drewN | apply Kd.R_drew)); exact HO_11.out⟩, ⟨by (with_reducible repeat (first | apply Kd.R_alloc | apply Kd.R_drewN | apply Kd.R_drew)); exact HO_13.out⟩, ⟨by repeat (first | (with_reducible first | exact HB.out | apply q4_ | apply q5_ | apply q6_) | exact HB.out)⟩⟩
          ·rw [if_neg c29] at H
           exact absurd H (by simp)
         ·rw [if_neg c28] at H
          exact absurd H (by simp)
        ·rw [if_neg c27] at H
         exact absurd H (by simp)
       ·rw [if_neg c26] at H
        have c26b0 : decide (x92_2 < (t456.length : Int)) = false := decide_eq_false c26
        clear c26
        have HC32 := Aside0.mk H
        clear H
        go_upto_if 105 with (fail)
        repeat (go_quiet (fail); go_upto_if 105 with (fail))
        go_cut [] (fun wc => ∃ (kq : Nat), Aside0 (laws_FnFound.j2 kq l1 t445 t448 t449 t456 t457 = some r) ∧ Aside0 (kq ≤ k2) ∧ Aside0 (Kd.R (Kd.int .i64) 3 wc w.heap.size (fun _ => True) v450 t448) ∧ Aside0 (Kd.R k51 51 wc w.heap.size (fun _ => True) (.slice Ao25 t456.length co25) t456) ∧ Aside0 (Below w.heap.size w wc))
        case first =>
         have H := HC32.out
         clear HC32
         by_cases c33 : t457 = true
         ·subst c33
          have H1 : ((impl_IndexOf.f k2 t456).bind fun bt467 => (if bt467.2 = true then ((laws_sameForks.f k2 bt467.1 t444).bind fun t471 => (if t471 = true then (laws_FnFound.j2 k2 l1 t445 t448 t449 t456 true) else (some false))) else (some false))) = some r := by rw [if_pos rfl] at H; exact H
          clear H
          have H := H1
          clear H1
          replace H := Option.bind_eq_some_iff.mp H
          obtain ⟨⟨t467, t468⟩, A340, H⟩ := H
          replace H : (if t468 = true then ((laws_sameForks.f k2 t467 t444).bind fun t471 => (if t471 = true then (laws_FnFound.j2 k2 l1 t445 t448 t449 t456 true) else (some false))) else (some false)) = some r := H
          have A34 := Aside0.mk A340
          clear A340
          by_cases c35 : t468 = true
          ·subst c35
           have H1 : ((laws_sameForks.f k2 t467 t444).bind fun t471 => (if t471 = true then (laws_FnFound.j2 k2 l1 t445 t448 t449 t456 true) else (some false))) = some r := by rw [if_pos rfl] at H; exact H
           clear H
           have H := H1
           clear H1
           replace H := Option.bind_eq_some_iff.mp H
           obtain ⟨t471, A360, H⟩ := H
           replace H : (if t471 = true then (laws_FnFound.j2 k2 l1 t445 t448 t449 t456 true) else (some false)) = some r := H
           have A36 := Aside0.mk A360
           clear A360
           by_cases c37 : t471 = true
           ·subst c37
            have H1 : (laws_FnFound.j2 k2 l1 t445 t448 t449 t456 true) = some r := by rw [if_pos rfl] at H; exact H
            clear H
            have H := H1
            clear H1
            as_aux_lemma =>
             have H' := Aside0.mk H
             clear H
             go_wp2_with (first | (go_at_call 19; (with_reducible refine (impl_IndexOf.calls k2 _ _ t456 t467 true _ ?side1 ?side2 A34.out).mono ?_); (case side1 => exact (Kd.R_reads' HO_11.out).2.2); (case side2 => exact (Kd.R_reads' HO_11.out).2.1); rintro e w38 ⟨v469, rfl, ho0, hb⟩; have n0_ := Aside0.mk (Kd.S_elder' HO_5.out (Kd.S_base ho0) hb); have n1_ := Aside0.mk (Kd.R_below HO_7.out hb); have n2_ := Aside0.mk (Kd.R_below HO_11.out hb); have n3_ := Aside0.mk (Kd.R_below HO_13.out hb); have n4_ := Aside0.mk (Kd.S_lower (Kd.S_new' (Kd.S_new' ho0 (Kd.S_lt HO_5.out)) (Kd.R_lt HO_7.out)) (below_size (by repeat first | (with_reducible first | exact HB.out | apply q4_ | apply q5_ | apply q6_) | exact HB.out))); have n5_ := Aside0.mk (below_step (by repeat first | (with_reducible first | exact HB.out | apply q4_ | apply q5_ | apply q6_) | exact HB.out) hb); clear HO_5; clear HO_7; clear HO_11; clear HO_13; clear HB; have HO_5 := n0_; have HO_7 := n1_; have HO_11 := n2_; have HO_13 := n3_; have HO470 := n4_; have HB := n5_; clear n0_ n1_ n2_ n3_ n4_ n5_; (try clear hb); (try clear hk); (try clear hi); (try clear ho0); obtain ⟨Ao39, co39, eo39⟩ := Kd.S_slice HO470.out; subst eo39) | (go_at_call 39; (with_reducible refine (laws_sameForks.calls k2 _ _ t467 _ _ t444 true _ ?side1 ?side2 ?side3 ?side4 A36.out).mono ?_); (case side1 => exact (Kd.S_reads' HO470.out).2.2); (case side2 => exact (Kd.S_reads' HO470.out).2.1); (case side3 => exact (Kd.S_reads' HO_5.out).2.2); (case side4 => exact (Kd.S_reads' HO_5.out).2.1); rintro e w40 ⟨rfl, hb⟩; have n0_ := Aside0.mk (Kd.S_below HO_5.out hb); have n1_ := Aside0.mk (Kd.R_below HO_7.out hb); have n2_ := Aside0.mk (Kd.R_below HO_11.out hb); have n3_ := Aside0.mk (Kd.R_below HO_13.out hb); have n4_ := Aside0.mk (Kd.S_below HO470.out hb); have n5_ := Aside0.mk (below_step (by repeat first | (with_reducible first | exact HB.out | apply q4_ | apply q5_ | apply q6_) | exact HB.out) hb); clear HO_5; clear HO_7; clear HO_11; clear HO_13; clear HO470; clear HB; have HO_5 := n0_; have HO_7 := n1_; have HO_11 := n2_; have HO_13 := n3_; have HO470 := n4_; have HB := n5_; clear n0_ n1_ n2_ n3_ n4_ n5_; (try clear hb); (try clear hk); (try clear hi)))
             repeat (go_quiet (first | (go_at_call 19; (with_reducible refine (impl_IndexOf.calls k2 _ _ t456 t467 true _ ?side1 ?side2 A34.out).mono ?_); (case side1 => exact (Kd.R_reads' HO_11.out).2.2); (case side2 => exact (Kd.R_reads' HO_11.out).2.1); rintro e w38 ⟨v469, rfl, ho0, hb⟩; have n0_ := Aside0.mk (Kd.S_elder' HO_5.out (Kd.S_base ho0) hb); have n1_ := Aside0.mk (Kd.R_below HO_7.out hb); have n2_ := Aside0.mk (Kd.R_below HO_11.out hb); have n3_ := Aside0.mk (Kd.R_below HO_13.out hb); have n4_ := Aside0.mk (Kd.S_lower (Kd.S_new' (Kd.S_new' ho0 (Kd.S_lt HO_5.out)) (Kd.R_lt HO_7.out)) (below_size (by repeat first | (with_reducible first | exact HB.out | apply q4_ | apply q5_ | apply q6_) | exact HB.out))); have n5_ := Aside0.mk (below_step (by repeat first | (with_reducible first | exact HB.out | apply q4_ | apply q5_ | apply q6_) | exact HB.out) hb); clear HO_5; clear HO_7; clear HO_11; clear HO_13; clear HB; have HO_5 := n0_; have HO_7 := n1_; have HO_11 := n2_; have HO_13 := n3_; have HO470 := n4_; have HB := n5_; clear n0_ n1_ n2_ n3_ n4_ n5_; (try clear hb); (try clear hk); (try clear hi); (try clear ho0); obtain ⟨Ao39, co39, eo39⟩ := Kd.S_slice HO470.out; subst eo39) | (go_at_call 39; (with_reducible refine (laws_sameForks.calls k2 _ _ t467 _ _ t444 true _ ?side1 ?side2 ?side3 ?side4 A36.out).mono ?_); (case side1 => exact (Kd.S_reads' HO470.out).2.2); (case side2 => exact (Kd.S_reads' HO470.out).2.1); (case side3 => exact (Kd.S_reads' HO_5.out).2.2); (case side4 => exact (Kd.S_reads' HO_5.out).2.1); rintro e w40 ⟨rfl, hb⟩; have n0_ := Aside0.mk (Kd.S_below HO_5.out hb); have n1_ := Aside0.mk (Kd.R_below HO_7.out hb); have n2_ := Aside0.mk (Kd.R_below HO_11.out hb); have n3_ := Aside0.mk (Kd.R_below HO_13.out hb); have n4_ := Aside0.mk (Kd.S_below HO470.out hb); have n5_ := Aside0.mk (below_step (by repeat first | (with_reducible first | exact HB.out | apply q4_ | apply q5_ | apply q6_) | exact HB.out) hb); clear HO_5; clear HO_7; clear HO_11; clear HO_13; clear HO470; clear HB; have HO_5 := n0_; have HO_7 := n1_; have HO_11 := n2_; have HO_13 := n3_; have HO470 := n4_; have HB := n5_; clear n0_ n1_ n2_ n3_ n4_ n5_; (try clear hb); (try clear hk); (try clear hi))); try go_wp2_with (first | (go_at_call 19; (with_reducible refine (impl_IndexOf.calls k2 _ _ t456 t467 true _ ?side1 ?side2 A34.out).mono ?_); (case side1 => exact (Kd.R_reads' HO_11.out).2.2); (case side2 => exact (Kd.R_reads' HO_11.out).2.1); rintro e w38 ⟨v469, rfl, ho0, hb⟩; have n0_ := Aside0.mk (Kd.S_elder' HO_5.out (Kd.S_base ho0) hb); have n1_ := Aside0.mk (Kd.R_below HO_7.out hb); have n2_ := Aside0.mk (Kd.R_below HO_11.out hb); have n3_ := Aside0.mk (Kd.R_below HO_13.out hb); have n4_ := Aside0.mk (Kd.S_lower (Kd.S_new' (Kd.S_new' ho0 (Kd.S_lt HO_5.out)) (Kd.R_lt HO_7.out)) (below_size (by repeat first | (with_reducible first | exact HB.out | apply q4_ | apply q5_ | apply q6_) | exact HB.out))); have n5_ := Aside0.mk (below_step (by repeat first | (with_reducible first | exact HB.out | apply q4_ | apply q5_ | apply q6_) | exact HB.out) hb); clear HO_5; clear HO_7; clear HO_11; clear HO_13; clear HB; have HO_5 := n0_; have HO_7 := n1_; have HO_11 := n2_; have HO_13 := n3_; have HO470 := n4_; have HB := n5_; clear n0_ n1_ n2_ n3_ n4_ n5_; (try clear hb); (try clear hk); (try clear hi); (try clear ho0); obtain ⟨Ao39, co39, eo39⟩ := Kd.S_slice HO470.out; subst eo39) | (go_at_call 39; (with_reducible refine (laws_sameForks.calls k2 _ _ t467 _ _ t444 true _ ?side1 ?side2 ?side3 ?side4 A36.out).mono ?_); (case side1 => exact (Kd.S_reads' HO470.out).2.2); (case side2 => exact (Kd.S_reads' HO470.out).2.1); (case side3 => exact (Kd.S_reads' HO_5.out).2.2); (case side4 => exact (Kd.S_reads' HO_5.out).2.1); rintro e w40 ⟨rfl, hb⟩; have n0_ := Aside0.mk (Kd.S_below HO_5.out hb); have n1_ := Aside0.mk (Kd.R_below HO_7.out hb); have n2_ := Aside0.mk (Kd.R_below HO_11.out hb); have n3_ := Aside0.mk (Kd.R_below HO_13.out hb); have n4_ := Aside0.mk (Kd.S_below HO470.out hb); have n5_ := Aside0.mk (below_step (by repeat first | (with_reducible first | exact HB.out | apply q4_ | apply q5_ | apply q6_) | exact HB.out) hb); clear HO_5; clear HO_7; clear HO_11; clear HO_13; clear HO470; clear HB; have HO_5 := n0_; have HO_7 := n1_; have HO_11 := n2_; have HO_13 := n3_; have HO470 := n4_; have HB := n5_; clear n0_ n1_ n2_ n3_ n4_ n5_; (try clear hb); (try clear hk); (try clear hi))))
             go_meet
             case rel => exact ⟨_, H', ⟨by have := HJ8.out; have := HK2.out; first | omega | exact Nat.le_refl _⟩, ⟨by (with_reducible repeat (first | apply Kd.R_alloc | apply Kd.R_drewN | apply Kd.R_drew)); exact HO_7.out⟩, ⟨by (with_reducible repeat (first | apply Kd.R_alloc | apply Kd.R_drewN | apply Kd.R_drew)); exact Kd.R_mono HO_11.out (fun _ hk => trivial)⟩, ⟨by repeat (first | (with_reducible first | exact HB.out | apply q4_ | apply q5_ | apply q6_) | exact HB.out)⟩⟩
           ·replace c37 := Bool.eq_false_iff.mpr c37
            subst c37
            have H1 : (some false) = some r := by rw [if_neg (show ¬ (false = true) by decide)] at H; exact H
            clear H
            have H := H1
            clear H1
            exact absurd ((Option.some.inj H).trans HR_.out) (by decide)
          ·replace c35 := Bool.eq_false_iff.mpr c35
           subst c35
           have H1 : (some false) = some r := by rw [if_neg (show ¬ (false = true) by decide)] at H; exact H
           clear H
           have H := H1
           clear H1
           exact absurd ((Option.some.inj H).trans HR_.out) (by decide)
         ·replace c33 := Bool.eq_false_iff.mpr c33
          subst c33
          have H1 : (laws_FnFound.j2 k2 l1 t445 t448 t449 t456 false) = some r := by rw [if_neg (show ¬ (false = true) by decide)] at H; exact H
          clear H
          have H := H1
          clear H1
          as_aux_lemma =>
           have H' := Aside0.mk H
           clear H
           go_wp2
           repeat (go_quiet (fail); try go_wp2)
           go_meet
           case rel => exact ⟨_, H', ⟨by have := HJ8.out; have := HK2.out; first | omega | exact Nat.le_refl _⟩, ⟨by (with_reducible repeat (first | apply Kd.R_alloc | apply Kd.R_drewN | apply Kd.R_drew)); exact HO_7.out⟩, ⟨by (with_reducible repeat (first | apply Kd.R_alloc | apply Kd.R_drewN | apply Kd.R_drew)); exact Kd.R_mono HO_11.out (fun _ hk => trivial)⟩, ⟨by repeat (first | (with_reducible first | exact HB.out | apply q4_ | apply q5_ | apply q6_) | exact HB.out)⟩⟩
        case rest =>
         clear HC32
         try clear c1
         try clear c2
         try clear p2
         try clear c3
         try clear c3b0
         try clear p4
         try clear q4
         try clear hx4
         try clear p6
         try clear c10
         try clear c16
         try clear c16b0
         try clear c16b1
         try clear c16b2
         try clear c18
         try clear c19
         try clear c19b0
         try clear c19b1
         try clear c19b2
         try clear c24
         try clear c26
         try clear c26b0
         try clear c27
         try clear c27b0
         try clear c28
         try clear c28b0
         try clear c29
         try clear c29b0
         try clear c30
         try clear c30b0
         try clear c33
         try clear c35
         try clear c37
         try clear hx465_0
         try clear hx465_1
         try clear hx466_0
         try clear hx466_1
         try clear p2
         try clear p465
         try clear p466
         try clear p6
         try clear q465
         try clear q466
         obtain ⟨kq, HA, HJ31, HO_7, HO_11, HB⟩ := hcut
         cases kq with
         | zero => exact absurd HA.out (by simp [laws_FnFound.j2])
         | succ kj31 =>
          have H := HA.out
          clear HA
          simp only [laws_FnFound.j2] at H
          have HC41 := Aside0.mk H
          clear H
          go_upto_region 20 with (fail)
          repeat (go_quiet (fail); go_upto_region 20 with (fail))
          go_cut [122] (fun v122 wc => ∃ (kq : Nat) (x122_40 : Bool), v122 = .bool x122_40 ∧ Aside0 (laws_FnFound.j3 kq l1 t445 t448 t456 x122_40 = some r) ∧ Aside0 (kq ≤ kj31) ∧ Aside0 (Kd.R (Kd.int .i64) 3 wc w.heap.size (fun _ => True) v450 t448) ∧ Aside0 (Kd.R k51 51 wc w.heap.size (fun _ => True) (.slice Ao25 t456.length co25) t456) ∧ Aside0 (Below w.heap.size w wc))
          case first =>
           have H := HC41.out
           clear HC41
           by_cases c42 : t449 = true
           ·subst c42
            have H1 : (laws_FnFound.j3 kj31 l1 t445 t448 t456 t457) = some r := by rw [if_pos rfl] at H; exact H
            clear H
            have H := H1
            clear H1
            as_aux_lemma =>
             have H' := Aside0.mk H
             clear H
             go_wp2
             repeat (go_quiet (fail); try go_wp2)
             go_meet
             case rel => exact ⟨_, (t457), (by first | rfl | (simp; done) | (simp [*]; done) | (simp; apply Bool.eq_iff_iff.mpr; simp only [bne_iff_ne, ne_eq, beq_iff_eq]; omega)), H', ⟨by have := HJ8.out; have := HK2.out; have := HJ31.out; first | omega | exact Nat.le_refl _⟩, ⟨by (with_reducible repeat (first | apply Kd.R_alloc | apply Kd.R_drewN | apply Kd.R_drew)); exact HO_7.out⟩, ⟨by (with_reducible repeat (first | apply Kd.R_alloc | apply Kd.R_drewN | apply Kd.R_drew)); exact HO_11.out⟩, ⟨by repeat (first | (with_reducible first | exact HB.out | apply q4_ | apply q5_ | apply q6_) | exact HB.out)⟩⟩
           ·replace c42 := Bool.eq_false_iff.mpr c42
            subst c42
            have H1 : (laws_FnFound.j3 kj31 l1 t445 t448 t456 false) = some r := by rw [if_neg (show ¬ (false = true) by decide)] at H; exact H
            clear H
            have H := H1
            clear H1
            as_aux_lemma =>
             have H' := Aside0.mk H
             clear H
             go_wp2
             repeat (go_quiet (fail); try go_wp2)
             go_meet
             case rel => exact ⟨_, (false), (by first | rfl | (simp; done) | (simp [*]; done) | (simp; apply Bool.eq_iff_iff.mpr; simp only [bne_iff_ne, ne_eq, beq_iff_eq]; omega)), H', ⟨by have := HJ8.out; have := HK2.out; have := HJ31.out; first | omega | exact Nat.le_refl _⟩, ⟨by (with_reducible repeat (first | apply Kd.R_alloc | apply Kd.R_drewN | apply Kd.R_drew)); exact HO_7.out⟩, ⟨by (with_reducible repeat (first | apply Kd.R_alloc | apply Kd.R_drewN | apply Kd.R_drew)); exact HO_11.out⟩, ⟨by repeat (first | (with_reducible first | exact HB.out | apply q4_ | apply q5_ | apply q6_) | exact HB.out)⟩⟩
          case rest =>
           clear HC41
           try clear c1
           try clear c2
           try clear p2
           try clear c3
           try clear c3b0
           try clear c4
           try clear p4
           try clear q4
           try clear hx4
           try clear p6
           try clear c10
           try clear c16
           try clear c16b0
           try clear c16b1
           try clear c16b2
           try clear c18
           try clear c19
           try clear c19b0
           try clear c19b1
           try clear c19b2
           try clear c24
           try clear c26
           try clear c26b0
           try clear c27
           try clear c27b0
           try clear c28
           try clear c28b0
           try clear c29
           try clear c29b0
           try clear c30
           try clear c30b0
           try clear c33
           try clear c35
           try clear c37
           try clear c42
           try clear hx465_0
           try clear hx465_1
           try clear hx466_0
           try clear hx466_1
           try clear p2
           try clear p4
           try clear p465
           try clear p466
           try clear p6
           try clear q4
           try clear q465
           try clear q466
           obtain ⟨kq, x122_40, rfl, HA, HJ40, HO_7, HO_11, HB⟩ := hcut
           cases kq with
           | zero => exact absurd HA.out (by simp [laws_FnFound.j3])
           | succ kj40 =>
            have H := HA.out
            clear HA
            simp only [laws_FnFound.j3] at H
            have HC43 := Aside0.mk H
            clear H
            go_upto_if 122 with (fail)
            repeat (go_quiet (fail); go_upto_if 122 with (fail))
            go_cut [] (fun wc => ∃ (kq : Nat), Aside0 (laws_FnFound.j5 kq l1 = some r) ∧ Aside0 (kq ≤ kj40) ∧ Aside0 (Below w.heap.size w wc))
            case first =>
             have H := HC43.out
             clear HC43
             by_cases c44 : x122_40 = true
             ·subst c44
              have H1 : (laws_FnFound.l1 kj40 l1 t445 t448 0 ([] : List Int) t456 (t456.length : Int) 0) = some r := by rw [if_pos rfl] at H; exact H
              clear H
              have H := H1
              clear H1
              have H' := Aside0.mk H
              clear H
              go_wp2
              repeat (go_quiet (fail); try go_wp2)
              go_loopg [18, 19, 125] kj40 (fun kq v18 v19 v125 w' => ∃ (x18_5 : Int) (x19_5 : List Int) (x125_5 : Int), v18 = .int .i64 x18_5 ∧ v125 = .int .i64 x125_5 ∧ Aside0 (laws_FnFound.l1 kq l1 t445 t448 x18_5 x19_5 t456 (t456.length : Int) x125_5 = some r) ∧ Aside0 (kq ≤ kj40) ∧ Aside0 (Kd.R (Kd.int .i64) 3 w' w.heap.size (fun k_ => some k_ ≠ (v19 : Value).ownBlock) v450 t448) ∧ Aside0 (Kd.R (Kd.int .i64) 3 w' w.heap.size (fun k_ => some k_ ≠ (v450 : Value).ownBlock) v19 x19_5) ∧ Aside0 (Kd.R k51 51 w' w.heap.size (fun _ => True) (.slice Ao25 t456.length co25) t456) ∧ Aside0 (Below w.heap.size w w'))
              case atStart => exact ⟨(0), (([] : List Int)), (0), (by first | rfl | (simp; done) | (simp [*]; done) | (simp; apply Bool.eq_iff_iff.mpr; simp only [bne_iff_ne, ne_eq, beq_iff_eq]; omega)), (by first | rfl | (simp; done) | (simp [*]; done) | (simp; apply Bool.eq_iff_iff.mpr; simp only [bne_iff_ne, ne_eq, beq_iff_eq]; omega)), H', ⟨Nat.le_refl _⟩, ⟨by (with_reducible repeat (first | apply Kd.R_alloc | apply Kd.R_drewN | apply Kd.R_drew)); exact Kd.R_mono HO_7.out (fun _ hk => (by simp [Value.ownBlock]))⟩, ⟨by first | exact Kd.R_nil _ _ _ _ _ | exact Kd.N_nil _ _ _ _ _ | exact Kd.V_nil _ _ _ _ _ | exact Kd.Q_nil _ _ _ _ _ | exact Kd.S_nil _ _ _ _ _⟩, ⟨by (with_reducible repeat (first | apply Kd.R_alloc | apply Kd.R_drewN | apply Kd.R_drew)); exact HO_11.out⟩, ⟨by repeat (first | (with_reducible first | exact HB.out | apply q4_ | apply q5_ | apply q6_) | exact HB.out)⟩⟩
              case round =>
               clear H'
               try clear c1
               try clear c2
               try clear p2
               try clear c3
               try clear c3b0
               try clear c4
               try clear p4
               try clear q4
               try clear hx4
               try clear p6
               try clear c10
               try clear c16
               try clear c16b0
               try clear c16b1
               try clear c16b2
               try clear c18
               try clear c19
               try clear c19b0
               try clear c19b1
               try clear c19b2
               try clear c24
               try clear c26
               try clear c26b0
               try clear c27
               try clear c27b0
               try clear c28
               try clear c28b0
               try clear c29
               try clear c29b0
               try clear c30
               try clear c30b0
               try clear c33
               try clear c35
               try clear c37
               try clear c42
               try clear c44
               try clear hx465_0
               try clear hx465_1
               try clear hx466_0
               try clear hx466_1
               try clear p2
               try clear p4
               try clear p465
               try clear p466
               try clear p6
               try clear q4
               try clear q465
               try clear q466
               obtain ⟨x18_5, x19_5, x125_5, rfl, rfl, HA, HK5, HO_7, HO_19, HO_123, HB⟩ := hrel
               cases gk with
               | zero => exact absurd HA.out (by simp [laws_FnFound.l1])
               | succ k5 =>
                have H := HA.out
                clear HA
                simp only [laws_FnFound.l1] at H
                by_cases c45 : x125_5 < (t456.length : Int)
                ·rw [if_pos c45] at H
                 have c45b0 : decide (x125_5 < (t456.length : Int)) = true := decide_eq_true c45
                 clear c45
                 (first | rw [c45b0] | (simp only [i64_w, i32_w]; rw [c45b0]) | skip)
                 by_cases c46 : 0 ≤ x125_5
                 ·rw [if_pos c46] at H
                  have c46b0 : decide (0 ≤ x125_5) = true := decide_eq_true c46
                  clear c46
                  by_cases c47 : x125_5 < (t456.length : Int)
                  ·rw [if_pos c47] at H
                   have c47b0 : decide (x125_5 < (t456.length : Int)) = true := decide_eq_true c47
                   clear c47
                   by_cases c48 : 0 ≤ (t445.size : Int)
                   ·rw [if_pos c48] at H
                    have c48b0 := eq_true c48
                    have c48b1 : decide (0 ≤ (t445.size : Int)) = true := decide_eq_true c48
                    clear c48
                    by_cases c49 : (t445.size : Int) ≤ (((rd_T51 t456 x125_5).f0).size : Int)
                    ·rw [if_pos c49] at H
                     have c49b0 := eq_true c49
                     have c49b1 : decide ((t445.size : Int) ≤ (((rd_T51 t456 x125_5).f0).size : Int)) = true := decide_eq_true c49
                     clear c49
                     by_cases c50 : (((rd_T51 t456 x125_5).f0).extract 0 ((t445.size : Int) : Int).toNat).toList = t445.toList
                     ·rw [if_pos c50] at H
                      have c50b0 : ((((rd_T51 t456 x125_5).f0).extract 0 ((t445.size : Int) : Int).toNat).toList == t445.toList) = true := beq_iff_eq.mpr c50
                      have c50b0z := c50b0
                      rw [Int.toNat_natCast] at c50b0z
                      have c50b1 : ((((rd_T51 t456 x125_5).f0).extract 0 ((t445.size : Int) : Int).toNat).toList != t445.toList) = false := bne_eq_false_iff_eq.mpr c50
                      clear c50
                      replace H := Option.bind_eq_some_iff.mp H
                      obtain ⟨t474, A510, H⟩ := H
                      replace H : (if t474 = true then ((laws_has.f k5 x19_5 ((rd_T51 t456 x125_5).f1)).bind fun t475 => (if t475 = true then (laws_FnFound.l1 k5 l1 t445 t448 (wrap64 (x18_5 + 1)) x19_5 t456 (t456.length : Int) (wrap64 (x125_5 + 1))) else (if x19_5.length < 17592186044416 then (laws_FnFound.l1 k5 l1 t445 t448 (wrap64 (x18_5 + 1)) (x19_5 ++ [(rd_T51 t456 x125_5).f1]) t456 (t456.length : Int) (wrap64 (x125_5 + 1))) else (none)))) else (some false)) = some r := H
                      have A51 := Aside0.mk A510
                      clear A510
                      by_cases c52 : t474 = true
                      ·subst c52
                       have H1 : ((laws_has.f k5 x19_5 ((rd_T51 t456 x125_5).f1)).bind fun t475 => (if t475 = true then (laws_FnFound.l1 k5 l1 t445 t448 (wrap64 (x18_5 + 1)) x19_5 t456 (t456.length : Int) (wrap64 (x125_5 + 1))) else (if x19_5.length < 17592186044416 then (laws_FnFound.l1 k5 l1 t445 t448 (wrap64 (x18_5 + 1)) (x19_5 ++ [(rd_T51 t456 x125_5).f1]) t456 (t456.length : Int) (wrap64 (x125_5 + 1))) else (none)))) = some r := by rw [if_pos rfl] at H; exact H
                       clear H
                       have H := H1
                       clear H1
                       replace H := Option.bind_eq_some_iff.mp H
                       obtain ⟨t475, A530, H⟩ := H
                       replace H : (if t475 = true then (laws_FnFound.l1 k5 l1 t445 t448 (wrap64 (x18_5 + 1)) x19_5 t456 (t456.length : Int) (wrap64 (x125_5 + 1))) else (if x19_5.length < 17592186044416 then (laws_FnFound.l1 k5 l1 t445 t448 (wrap64 (x18_5 + 1)) (x19_5 ++ [(rd_T51 t456 x125_5).f1]) t456 (t456.length : Int) (wrap64 (x125_5 + 1))) else (none))) = some r := H
                       have A53 := Aside0.mk A530
                       clear A530
                       by_cases c54 : t475 = true
                       ·subst c54
                        have H1 : (laws_FnFound.l1 k5 l1 t445 t448 (wrap64 (x18_5 + 1)) x19_5 t456 (t456.length : Int) (wrap64 (x125_5 + 1))) = some r := by rw [if_pos rfl] at H; exact H
                        clear H
                        have H := H1
                        clear H1
                        as_aux_lemma =>
                         have H' := Aside0.mk H
                         clear H
                         have p472 : 0 ≤ (x125_5 : Int) := of_decide_eq_true (by assumption)
                         have q472 : x125_5 < (t456.length : Int) := of_decide_eq_true (by assumption)
                         obtain ⟨ad472, e472, hx472_0, hx472_1⟩ := at_T51 (Kd.R_reads' HO_123.out).2.2 x125_5 p472 q472
                         cases e472
                         replace p472 := eq_true p472
                         replace q472 := eq_true q472
                         go_wp2_with (first | ((with_reducible refine gate_dst (N := 21) rfl ?_); (try (refine gate_guard (by rfl) ?_; dsimp only)); refine box_event ?hg (N := 21) ?hd (cs := #[.string (⟨#[]⟩ : ByteArray), .int .i64 0]) (t := 51) ?hr ?_; (case hd => rfl); (case hg => rfl); (case hr => first | (go_simp; done) | (go_simp; rfl)); intro gb473 hg w55 hbox hb; have n0_ := Aside0.mk (Kd.R_below HO_7.out hb); have n1_ := Aside0.mk (Kd.R_below HO_19.out hb); have n2_ := Aside0.mk (Kd.R_below (Kd.R_elderB HO_123.out gb473 (Nat.le_of_eq hg.symm)) hb); have n3_ := Aside0.mk (below_step (by repeat first | (with_reducible first | exact HB.out | apply q4_ | apply q5_ | apply q6_) | exact HB.out) hb); have n4_ := Aside0.mk (hbox); have n5_ := Aside0.mk ((by rw [hg]; exact (below_size (by repeat first | (with_reducible first | exact HB.out | apply q4_ | apply q5_ | apply q6_) | exact HB.out)) : w.heap.size ≤ gb473)); have n6_ := Aside0.mk ((by rw [hg]; exact (below_size (by repeat first | (with_reducible first | exact HB.out | apply q4_ | apply q5_ | apply q6_) | exact HB.out)) : w.heap.size ≤ gb473)); clear HO_7; clear HO_19; clear HO_123; clear HB; have HO_7 := n0_; have HO_19 := n1_; have HO_123 := n2_; have HB := n3_; have BK473 := n4_; have GW473 := n5_; have GE473 := n6_; clear n0_ n1_ n2_ n3_ n4_ n5_ n6_; clear hb hbox hg; have hcz56_0 : w55.cell? ⟨gb473, 0, none⟩ = some (.string (⟨#[]⟩ : ByteArray)) := (blk_cell BK473.out 0).trans rfl; have hcz56_1 : w55.cell? ⟨gb473, 1, none⟩ = some (.int .i64 0) := (blk_cell BK473.out 1).trans rfl; have hfz56_0 := blk_frozen BK473.out 0; have hfz56_1 := blk_frozen BK473.out 1; obtain ⟨Ao57, co57, eo57⟩ := Kd.R_slice HO_7.out; subst eo57) | (go_at_call 41; (with_reducible refine (laws_has.calls k5 _ _ t448 ((rd_T51 t456 x125_5).f1) true _ ?side1 ?side2 A51.out).mono ?_); (case side1 => refine (Kd.R_reads' (e := 3) (base := w.heap.size) (ok := fun k_ => some k_ ≠ (u19 : Value).ownBlock) (n := t448.length) (c := co57) ?_).2.2; exact (by (with_reducible repeat (first | apply Kd.R_alloc | apply Kd.R_drewN | apply Kd.R_drew)); exact (Kd.R_mono (Kd.R_far (p := ⟨gb473, 1, none⟩) (Kd.R_far (p := ⟨gb473, 0, none⟩) (Kd.R_types HO_7.out BK473.out (by decide)) (fun _ hk => hk.2) (.string ((rd_T51 t456 x125_5).f0))) (fun _ hk => hk.2) (.int .i64 ((rd_T51 t456 x125_5).f1))) (fun _ h_ => h_.1)))); (case side2 => exact (Kd.R_reads' HO_7.out).2.1); rintro e w' ⟨rfl, ⟨nd, rfl⟩⟩; (try first | exact ⟨rfl, _, World.drewN_drewN _ _ _⟩ | exact ⟨rfl, _, Eq.trans (World.drewN_drewN _ _ _) (congrArg (World.drewN _) (Nat.add_assoc _ _ _))⟩); obtain ⟨Ao58, co58, eo58⟩ := Kd.R_slice HO_19.out; subst eo58) | (go_at_call 41; (with_reducible refine (laws_has.calls k5 _ _ x19_5 ((rd_T51 t456 x125_5).f1) true _ ?side1 ?side2 A53.out).mono ?_); (case side1 => refine (Kd.R_reads' (e := 3) (base := w.heap.size) (ok := fun k_ => some k_ ≠ (.slice Ao57 t448.length co57 : Value).ownBlock) (n := x19_5.length) (c := co58) ?_).2.2; exact (by (with_reducible repeat (first | apply Kd.R_alloc | apply Kd.R_drewN | apply Kd.R_drew)); exact (Kd.R_mono (Kd.R_far (p := ⟨gb473, 1, none⟩) (Kd.R_far (p := ⟨gb473, 0, none⟩) (Kd.R_types HO_19.out BK473.out (by decide)) (fun _ hk => hk.2) (.string ((rd_T51 t456 x125_5).f0))) (fun _ hk => hk.2) (.int .i64 ((rd_T51 t456 x125_5).f1))) (fun _ h_ => h_.1)))); (case side2 => exact (Kd.R_reads' HO_19.out).2.1); rintro e w' ⟨rfl, ⟨nd, rfl⟩⟩; (try first | exact ⟨rfl, _, World.drewN_drewN _ _ _⟩ | exact ⟨rfl, _, Eq.trans (World.drewN_drewN _ _ _) (congrArg (World.drewN _) (Nat.add_assoc _ _ _))⟩)))
                         repeat (go_quiet (first | ((with_reducible refine gate_dst (N := 21) rfl ?_); (try (refine gate_guard (by rfl) ?_; dsimp only)); refine box_event ?hg (N := 21) ?hd (cs := #[.string (⟨#[]⟩ : ByteArray), .int .i64 0]) (t := 51) ?hr ?_; (case hd => rfl); (case hg => rfl); (case hr => first | (go_simp; done) | (go_simp; rfl)); intro gb473 hg w55 hbox hb; have n0_ := Aside0.mk (Kd.R_below HO_7.out hb); have n1_ := Aside0.mk (Kd.R_below HO_19.out hb); have n2_ := Aside0.mk (Kd.R_below (Kd.R_elderB HO_123.out gb473 (Nat.le_of_eq hg.symm)) hb); have n3_ := Aside0.mk (below_step (by repeat first | (with_reducible first | exact HB.out | apply q4_ | apply q5_ | apply q6_) | exact HB.out) hb); have n4_ := Aside0.mk (hbox); have n5_ := Aside0.mk ((by rw [hg]; exact (below_size (by repeat first | (with_reducible first | exact HB.out | apply q4_ | apply q5_ | apply q6_) | exact HB.out)) : w.heap.size ≤ gb473)); have n6_ := Aside0.mk ((by rw [hg]; exact (below_size (by repeat first | (with_reducible first | exact HB.out | apply q4_ | apply q5_ | apply q6_) | exact HB.out)) : w.heap.size ≤ gb473)); clear HO_7; clear HO_19; clear HO_123; clear HB; have HO_7 := n0_; have HO_19 := n1_; have HO_123 := n2_; have HB := n3_; have BK473 := n4_; have GW473 := n5_; have GE473 := n6_; clear n0_ n1_ n2_ n3_ n4_ n5_ n6_; clear hb hbox hg; have hcz56_0 : w55.cell? ⟨gb473, 0, none⟩ = some (.string (⟨#[]⟩ : ByteArray)) := (blk_cell BK473.out 0).trans rfl; have hcz56_1 : w55.cell? ⟨gb473, 1, none⟩ = some (.int .i64 0) := (blk_cell BK473.out 1).trans rfl; have hfz56_0 := blk_frozen BK473.out 0; have hfz56_1 := blk_frozen BK473.out 1; obtain ⟨Ao57, co57, eo57⟩ := Kd.R_slice HO_7.out; subst eo57) | (go_at_call 41; (with_reducible refine (laws_has.calls k5 _ _ t448 ((rd_T51 t456 x125_5).f1) true _ ?side1 ?side2 A51.out).mono ?_); (case side1 => refine (Kd.R_reads' (e := 3) (base := w.heap.size) (ok := fun k_ => some k_ ≠ (u19 : Value).ownBlock) (n := t448.length) (c := co57) ?_).2.2; exact (by (with_reducible repeat (first | apply Kd.R_alloc | apply Kd.R_drewN | apply Kd.R_drew)); exact (Kd.R_mono (Kd.R_far (p := ⟨gb473, 1, none⟩) (Kd.R_far (p := ⟨gb473, 0, none⟩) (Kd.R_types HO_7.out BK473.out (by decide)) (fun _ hk => hk.2) (.string ((rd_T51 t456 x125_5).f0))) (fun _ hk => hk.2) (.int .i64 ((rd_T51 t456 x125_5).f1))) (fun _ h_ => h_.1)))); (case side2 => exact (Kd.R_reads' HO_7.out).2.1); rintro e w' ⟨rfl, ⟨nd, rfl⟩⟩; (try first | exact ⟨rfl, _, World.drewN_drewN _ _ _⟩ | exact ⟨rfl, _, Eq.trans (World.drewN_drewN _ _ _) (congrArg (World.drewN _) (Nat.add_assoc _ _ _))⟩); obtain ⟨Ao58, co58, eo58⟩ := Kd.R_slice HO_19.out; subst eo58) | (go_at_call 41; (with_reducible refine (laws_has.calls k5 _ _ x19_5 ((rd_T51 t456 x125_5).f1) true _ ?side1 ?side2 A53.out).mono ?_); (case side1 => refine (Kd.R_reads' (e := 3) (base := w.heap.size) (ok := fun k_ => some k_ ≠ (.slice Ao57 t448.length co57 : Value).ownBlock) (n := x19_5.length) (c := co58) ?_).2.2; exact (by (with_reducible repeat (first | apply Kd.R_alloc | apply Kd.R_drewN | apply Kd.R_drew)); exact (Kd.R_mono (Kd.R_far (p := ⟨gb473, 1, none⟩) (Kd.R_far (p := ⟨gb473, 0, none⟩) (Kd.R_types HO_19.out BK473.out (by decide)) (fun _ hk => hk.2) (.string ((rd_T51 t456 x125_5).f0))) (fun _ hk => hk.2) (.int .i64 ((rd_T51 t456 x125_5).f1))) (fun _ h_ => h_.1)))); (case side2 => exact (Kd.R_reads' HO_19.out).2.1); rintro e w' ⟨rfl, ⟨nd, rfl⟩⟩; (try first | exact ⟨rfl, _, World.drewN_drewN _ _ _⟩ | exact ⟨rfl, _, Eq.trans (World.drewN_drewN _ _ _) (congrArg (World.drewN _) (Nat.add_assoc _ _ _))⟩))); try go_wp2_with (first | ((with_reducible refine gate_dst (N := 21) rfl ?_); (try (refine gate_guard (by rfl) ?_; dsimp only)); refine box_event ?hg (N := 21) ?hd (cs := #[.string (⟨#[]⟩ : ByteArray), .int .i64 0]) (t := 51) ?hr ?_; (case hd => rfl); (case hg => rfl); (case hr => first | (go_simp; done) | (go_simp; rfl)); intro gb473 hg w55 hbox hb; have n0_ := Aside0.mk (Kd.R_below HO_7.out hb); have n1_ := Aside0.mk (Kd.R_below HO_19.out hb); have n2_ := Aside0.mk (Kd.R_below (Kd.R_elderB HO_123.out gb473 (Nat.le_of_eq hg.symm)) hb); have n3_ := Aside0.mk (below_step (by repeat first | (with_reducible first | exact HB.out | apply q4_ | apply q5_ | apply q6_) | exact HB.out) hb); have n4_ := Aside0.mk (hbox); have n5_ := Aside0.mk ((by rw [hg]; exact (below_size (by repeat first | (with_reducible first | exact HB.out | apply q4_ | apply q5_ | apply q6_) | exact HB.out)) : w.heap.size ≤ gb473)); have n6_ := Aside0.mk ((by rw [hg]; exact (below_size (by repeat first | (with_reducible first | exact HB.out | apply q4_ | apply q5_ | apply q6_) | exact HB.out)) : w.heap.size ≤ gb473)); clear HO_7; clear HO_19; clear HO_123; clear HB; have HO_7 := n0_; have HO_19 := n1_; have HO_123 := n2_; have HB := n3_; have BK473 := n4_; have GW473 := n5_; have GE473 := n6_; clear n0_ n1_ n2_ n3_ n4_ n5_ n6_; clear hb hbox hg; have hcz56_0 : w55.cell? ⟨gb473, 0, none⟩ = some (.string (⟨#[]⟩ : ByteArray)) := (blk_cell BK473.out 0).trans rfl; have hcz56_1 : w55.cell? ⟨gb473, 1, none⟩ = some (.int .i64 0) := (blk_cell BK473.out 1).trans rfl; have hfz56_0 := blk_frozen BK473.out 0; have hfz56_1 := blk_frozen BK473.out 1; obtain ⟨Ao57, co57, eo57⟩ := Kd.R_slice HO_7.out; subst eo57) | (go_at_call 41; (with_reducible refine (laws_has.calls k5 _ _ t448 ((rd_T51 t456 x125_5).f1) true _ ?side1 ?side2 A51.out).mono ?_); (case side1 => refine (Kd.R_reads' (e := 3) (base := w.heap.size) (ok := fun k_ => some k_ ≠ (u19 : Value).ownBlock) (n := t448.length) (c := co57) ?_).2.2; exact (by (with_reducible repeat (first | apply Kd.R_alloc | apply Kd.R_drewN | apply Kd.R_drew)); exact (Kd.R_mono (Kd.R_far (p := ⟨gb473, 1, none⟩) (Kd.R_far (p := ⟨gb473, 0, none⟩) (Kd.R_types HO_7.out BK473.out (by decide)) (fun _ hk => hk.2) (.string ((rd_T51 t456 x125_5).f0))) (fun _ hk => hk.2) (.int .i64 ((rd_T51 t456 x125_5).f1))) (fun _ h_ => h_.1)))); (case side2 => exact (Kd.R_reads' HO_7.out).2.1); rintro e w' ⟨rfl, ⟨nd, rfl⟩⟩; (try first | exact ⟨rfl, _, World.drewN_drewN _ _ _⟩ | exact ⟨rfl, _, Eq.trans (World.drewN_drewN _ _ _) (congrArg (World.drewN _) (Nat.add_assoc _ _ _))⟩); obtain ⟨Ao58, co58, eo58⟩ := Kd.R_slice HO_19.out; subst eo58) | (go_at_call 41; (with_reducible refine (laws_has.calls k5 _ _ x19_5 ((rd_T51 t456 x125_5).f1) true _ ?side1 ?side2 A53.out).mono ?_); (case side1 => refine (Kd.R_reads' (e := 3) (base := w.heap.size) (ok := fun k_ => some k_ ≠ (.slice Ao57 t448.length co57 : Value).ownBlock) (n := x19_5.length) (c := co58) ?_).2.2; exact (by (with_reducible repeat (first | apply Kd.R_alloc | apply Kd.R_drewN | apply Kd.R_drew)); exact (Kd.R_mono (Kd.R_far (p := ⟨gb473, 1, none⟩) (Kd.R_far (p := ⟨gb473, 0, none⟩) (Kd.R_types HO_19.out BK473.out (by decide)) (fun _ hk => hk.2) (.string ((rd_T51 t456 x125_5).f0))) (fun _ hk => hk.2) (.int .i64 ((rd_T51 t456 x125_5).f1))) (fun _ h_ => h_.1)))); (case side2 => exact (Kd.R_reads' HO_19.out).2.1); rintro e w' ⟨rfl, ⟨nd, rfl⟩⟩; (try first | exact ⟨rfl, _, World.drewN_drewN _ _ _⟩ | exact ⟨rfl, _, Eq.trans (World.drewN_drewN _ _ _) (congrArg (World.drewN _) (Nat.add_assoc _ _ _))⟩))))
                         go_roundg k5
                         case measure => have := HJ8.out; have := HK2.out; have := HJ31.out; have := HJ40.out; have := HK5.out; omega
                         case rel => exact ⟨(wrap64 (x18_5 + 1)), (x19_5), (wrap64 (x125_5 + 1)), (by first | rfl | (simp; done) | (simp [*]; done) | (simp; apply Bool.eq_iff_iff.mpr; simp only [bne_iff_ne, ne_eq, beq_iff_eq]; omega)), (by first | rfl | (simp; done) | (simp [*]; done) | (simp; apply Bool.eq_iff_iff.mpr; simp only [bne_iff_ne, ne_eq, beq_iff_eq]; omega)), H', ⟨by have := HJ8.out; have := HK2.out; have := HJ31.out; have := HJ40.out; have := HK5.out; omega⟩, ⟨by (with_reducible repeat (first | apply Kd.R_alloc | apply Kd.R_drewN | apply Kd.R_drew)); exact Kd.R_mono (Kd.R_far (p := ⟨gb473, 1, none⟩) (Kd.R_far (p := ⟨gb473, 0, none⟩) (Kd.R_types HO_7.out BK473.out (by decide)) (fun _ hk => hk.2) (.string ((rd_T51 t456 x125_5).f0))) (fun _ hk => hk.2) (.int .i64 ((rd_T51 t456 x125_5).f1))) (fun _ hk => hk.1)⟩, ⟨by (with_reducible repeat (first | apply Kd.R_alloc | apply Kd.R_drewN | apply Kd.R_drew)); exact Kd.R_mono (Kd.R_far (p := ⟨gb473, 1, none⟩) (Kd.R_far (p := ⟨gb473, 0, none⟩) (Kd.R_types HO_19.out BK473.out (by decide)) (fun _ hk => hk.2) (.string ((rd_T51 t456 x125_5).f0))) (fun _ hk => hk.2) (.int .i64 ((rd_T51 t456 x125_5).f1))) (fun _ hk => hk.1)⟩, ⟨by (with_reducible repeat (first | apply Kd.R_alloc | apply Kd.R_drewN | apply Kd.R_drew)); exact Kd.R_mono (Kd.R_far (p := ⟨gb473, 1, none⟩) (Kd.R_far (p := ⟨gb473, 0, none⟩) (Kd.R_mono HO_123.out (fun k_ hk => (⟨hk, hk.2⟩ : _ ∧ k_ ≠ gb473))) (fun _ hk => hk.2) (.string ((rd_T51 t456 x125_5).f0))) (fun _ hk => hk.2) (.int .i64 ((rd_T51 t456 x125_5).f1))) (fun _ hk => trivial)⟩, ⟨by repeat (first | (with_reducible first | exact HB.out | apply q4_ | apply q5_ | apply q6_ | refine below_set ?_ GE473.out) | exact HB.out)⟩⟩
                       ·replace c54 := Bool.eq_false_iff.mpr c54
                        subst c54
                        have H1 : (if x19_5.length < 17592186044416 then (laws_FnFound.l1 k5 l1 t445 t448 (wrap64 (x18_5 + 1)) (x19_5 ++ [(rd_T51 t456 x125_5).f1]) t456 (t456.length : Int) (wrap64 (x125_5 + 1))) else (none)) = some r := by rw [if_neg (show ¬ (false = true) by decide)] at H; exact H
                        clear H
                        have H := H1
                        clear H1
                        by_cases c59 : x19_5.length < 17592186044416
                        ·rw [if_pos c59] at H
                         have LMc59 := Aside0.mk c59
                         clear c59
                         obtain ⟨y476, hy476⟩ : ∃ y_ : List Int, y_ = (x19_5 ++ [(rd_T51 t456 x125_5).f1]) := ⟨_, rfl⟩
                         replace H : (laws_FnFound.l1 k5 l1 t445 t448 (wrap64 (x18_5 + 1)) y476 t456 (t456.length : Int) (wrap64 (x125_5 + 1))) = some r := by first | (rw [hy476]; with_reducible exact H) | (have H2_ := (Option.bind_some _ _).symm.trans H; rw [hy476]; with_reducible exact H2_) | (have H2_ := (Option.bind_some _ _).symm.trans H; with_reducible exact H2_) | with_reducible exact H | (rw [hy476]; exact H) | exact H
                         have Ny476 := Aside0.mk hy476
                         clear hy476
                         as_aux_lemma =>
                          have H' := Aside0.mk H
                          clear H
                          have p472 : 0 ≤ (x125_5 : Int) := of_decide_eq_true (by assumption)
                          have q472 : x125_5 < (t456.length : Int) := of_decide_eq_true (by assumption)
                          obtain ⟨ad472, e472, hx472_0, hx472_1⟩ := at_T51 (Kd.R_reads' HO_123.out).2.2 x125_5 p472 q472
                          cases e472
                          replace p472 := eq_true p472
                          replace q472 := eq_true q472
                          go_wp2_with (first | ((with_reducible refine gate_dst (N := 21) rfl ?_); (try (refine gate_guard (by rfl) ?_; dsimp only)); refine box_event ?hg (N := 21) ?hd (cs := #[.string (⟨#[]⟩ : ByteArray), .int .i64 0]) (t := 51) ?hr ?_; (case hd => rfl); (case hg => rfl); (case hr => first | (go_simp; done) | (go_simp; rfl)); intro gb473 hg w60 hbox hb; have n0_ := Aside0.mk (Kd.R_below HO_7.out hb); have n1_ := Aside0.mk (Kd.R_below HO_19.out hb); have n2_ := Aside0.mk (Kd.R_below (Kd.R_elderB HO_123.out gb473 (Nat.le_of_eq hg.symm)) hb); have n3_ := Aside0.mk (below_step (by repeat first | (with_reducible first | exact HB.out | apply q4_ | apply q5_ | apply q6_) | exact HB.out) hb); have n4_ := Aside0.mk (hbox); have n5_ := Aside0.mk ((by rw [hg]; exact (below_size (by repeat first | (with_reducible first | exact HB.out | apply q4_ | apply q5_ | apply q6_) | exact HB.out)) : w.heap.size ≤ gb473)); have n6_ := Aside0.mk ((by rw [hg]; exact (below_size (by repeat first | (with_reducible first | exact HB.out | apply q4_ | apply q5_ | apply q6_) | exact HB.out)) : w.heap.size ≤ gb473)); clear HO_7; clear HO_19; clear HO_123; clear HB; have HO_7 := n0_; have HO_19 := n1_; have HO_123 := n2_; have HB := n3_; have BK473 := n4_; have GW473 := n5_; have GE473 := n6_; clear n0_ n1_ n2_ n3_ n4_ n5_ n6_; clear hb hbox hg; have hcz61_0 : w60.cell? ⟨gb473, 0, none⟩ = some (.string (⟨#[]⟩ : ByteArray)) := (blk_cell BK473.out 0).trans rfl; have hcz61_1 : w60.cell? ⟨gb473, 1, none⟩ = some (.int .i64 0) := (blk_cell BK473.out 1).trans rfl; have hfz61_0 := blk_frozen BK473.out 0; have hfz61_1 := blk_frozen BK473.out 1; obtain ⟨Ao62, co62, eo62⟩ := Kd.R_slice HO_7.out; subst eo62) | (go_at_call 41; (with_reducible refine (laws_has.calls k5 _ _ t448 ((rd_T51 t456 x125_5).f1) true _ ?side1 ?side2 A51.out).mono ?_); (case side1 => refine (Kd.R_reads' (e := 3) (base := w.heap.size) (ok := fun k_ => some k_ ≠ (u19 : Value).ownBlock) (n := t448.length) (c := co62) ?_).2.2; exact (by (with_reducible repeat (first | apply Kd.R_alloc | apply Kd.R_drewN | apply Kd.R_drew)); exact (Kd.R_mono (Kd.R_far (p := ⟨gb473, 1, none⟩) (Kd.R_far (p := ⟨gb473, 0, none⟩) (Kd.R_types HO_7.out BK473.out (by decide)) (fun _ hk => hk.2) (.string ((rd_T51 t456 x125_5).f0))) (fun _ hk => hk.2) (.int .i64 ((rd_T51 t456 x125_5).f1))) (fun _ h_ => h_.1)))); (case side2 => exact (Kd.R_reads' HO_7.out).2.1); rintro e w' ⟨rfl, ⟨nd, rfl⟩⟩; (try first | exact ⟨rfl, _, World.drewN_drewN _ _ _⟩ | exact ⟨rfl, _, Eq.trans (World.drewN_drewN _ _ _) (congrArg (World.drewN _) (Nat.add_assoc _ _ _))⟩); obtain ⟨Ao63, co63, eo63⟩ := Kd.R_slice HO_19.out; subst eo63) | (go_at_call 41; (with_reducible refine (laws_has.calls k5 _ _ x19_5 ((rd_T51 t456 x125_5).f1) false _ ?side1 ?side2 A53.out).mono ?_); (case side1 => refine (Kd.R_reads' (e := 3) (base := w.heap.size) (ok := fun k_ => some k_ ≠ (.slice Ao62 t448.length co62 : Value).ownBlock) (n := x19_5.length) (c := co63) ?_).2.2; exact (by (with_reducible repeat (first | apply Kd.R_alloc | apply Kd.R_drewN | apply Kd.R_drew)); exact (Kd.R_mono (Kd.R_far (p := ⟨gb473, 1, none⟩) (Kd.R_far (p := ⟨gb473, 0, none⟩) (Kd.R_types HO_19.out BK473.out (by decide)) (fun _ hk => hk.2) (.string ((rd_T51 t456 x125_5).f0))) (fun _ hk => hk.2) (.int .i64 ((rd_T51 t456 x125_5).f1))) (fun _ h_ => h_.1)))); (case side2 => exact (Kd.R_reads' HO_19.out).2.1); rintro e w' ⟨rfl, ⟨nd, rfl⟩⟩; (try first | exact ⟨rfl, _, World.drewN_drewN _ _ _⟩ | exact ⟨rfl, _, Eq.trans (World.drewN_drewN _ _ _) (congrArg (World.drewN _) (Nat.add_assoc _ _ _))⟩)) | ((with_reducible refine gate_builtin (b := .append) (xs := #[.tmp 148, .tmp 151]) rfl ?_); (try (refine gate_guard (by rfl) ?_; dsimp only)); at_builtin; refine Kd.R_append (Kd.int .i64) (w0 := w) w.heap.size rfl (.tmp 148) (.tmp 151) 39 3 (.int .i64 0) 8 rfl Try.underlying39 info3 rfl (by decide) (by omega) (.slice Ao63 x19_5.length co63) x19_5 ((rd_T51 t456 x125_5).f1) [.int .i64 ((rd_T51 t456 x125_5).f1)] (fun k_ => some k_ ≠ (.slice Ao62 t448.length co62 : Value).ownBlock) (fun _ => False) rfl (by first | (go_simp; done) | (go_simp; rfl)) ?aP (fun _ hk => hk.elim) ?aF ?aO ?aB ?aS ?aL ?_; (case aP => exact rfl); (case aB => exact (by repeat (first | (with_reducible first | exact HB.out | apply q4_ | apply q5_ | apply q6_ | refine below_set ?_ GE473.out) | exact HB.out))); (case aF => exact (fun k_ hk => Kd.fresh' (Kd.R_lt (by (with_reducible repeat (first | apply Kd.R_alloc | apply Kd.R_drewN | apply Kd.R_drew)); exact (Kd.R_mono (Kd.R_far (p := ⟨gb473, 1, none⟩) (Kd.R_far (p := ⟨gb473, 0, none⟩) (Kd.R_types HO_7.out BK473.out (by decide)) (fun _ hk => hk.2) (.string ((rd_T51 t456 x125_5).f0))) (fun _ hk => hk.2) (.int .i64 ((rd_T51 t456 x125_5).f1))) (fun _ h_ => h_.1)))) k_ hk)); (case aO => exact (by (with_reducible repeat (first | apply Kd.R_alloc | apply Kd.R_drewN | apply Kd.R_drew)); exact Kd.R_mono (Kd.R_far (p := ⟨gb473, 1, none⟩) (Kd.R_far (p := ⟨gb473, 0, none⟩) (Kd.R_types HO_19.out BK473.out (by decide)) (fun _ hk => hk.2) (.string ((rd_T51 t456 x125_5).f0))) (fun _ hk => hk.2) (.int .i64 ((rd_T51 t456 x125_5).f1))) (fun _ hk => hk.1))); (case aS => exact (below_size (by repeat (first | (with_reducible first | exact HB.out | apply q4_ | apply q5_ | apply q6_ | refine below_set ?_ GE473.out) | exact HB.out)))); (case aL => have := LMc59.out; omega); intro v477 w64 ho hb hg hat; rw [← Ny476.out] at ho; have n0_ := Aside0.mk (Kd.R_after (ok := (fun _ => True)) (by (with_reducible repeat (first | apply Kd.R_alloc | apply Kd.R_drewN | apply Kd.R_drew)); exact Kd.R_mono (Kd.R_far (p := ⟨gb473, 1, none⟩) (Kd.R_far (p := ⟨gb473, 0, none⟩) (Kd.R_types HO_7.out BK473.out (by decide)) (fun _ hk => hk.2) (.string ((rd_T51 t456 x125_5).f0))) (fun _ hk => hk.2) (.int .i64 ((rd_T51 t456 x125_5).f1))) (fun _ hk => ⟨trivial, hk.1⟩)) hg hat); have n1_ := Aside0.mk (Kd.R_over' (by (with_reducible repeat (first | apply Kd.R_alloc | apply Kd.R_drewN | apply Kd.R_drew)); exact (Kd.R_mono (Kd.R_far (p := ⟨gb473, 1, none⟩) (Kd.R_far (p := ⟨gb473, 0, none⟩) (Kd.R_mono HO_123.out (fun k_ hk => (⟨hk, hk.2⟩ : _ ∧ k_ ≠ gb473))) (fun _ hk => hk.2) (.string ((rd_T51 t456 x125_5).f0))) (fun _ hk => hk.2) (.int .i64 ((rd_T51 t456 x125_5).f1))) (fun _ h_ => h_.1))) (Kd.R_typed (by (with_reducible repeat (first | apply Kd.R_alloc | apply Kd.R_drewN | apply Kd.R_drew)); exact (Kd.R_mono (Kd.R_far (p := ⟨gb473, 1, none⟩) (Kd.R_far (p := ⟨gb473, 0, none⟩) (Kd.R_types HO_19.out BK473.out (by decide)) (fun _ hk => hk.2) (.string ((rd_T51 t456 x125_5).f0))) (fun _ hk => hk.2) (.int .i64 ((rd_T51 t456 x125_5).f1))) (fun _ h_ => h_.1)))) (by decide) hg); have n2_ := Aside0.mk (blk_grown (g := gb473) (o := .cells #[.string ((rd_T51 t456 x125_5).f0), .int .i64 ((rd_T51 t456 x125_5).f1)] 51 (0, 0)) (by (with_reducible repeat first | apply q1_ | apply q2_ | apply q3_); refine blk_put (cs := #[.string ((rd_T51 t456 x125_5).f0), .int .i64 0]) ?_ 1 _ rfl; (with_reducible repeat first | apply q1_ | apply q2_ | apply q3_); refine blk_put (cs := #[.string (⟨#[]⟩ : ByteArray), .int .i64 0]) ?_ 0 _ rfl; (with_reducible repeat first | apply q1_ | apply q2_ | apply q3_); exact BK473.out) hg (Kd.R_ne HO_19.out BK473.out (by decide))); have n3_ := Aside0.mk (hb); have n4_ := Aside0.mk (ho); clear HO_7; clear HO_123; clear BK473; clear HB; clear HO_19; have HO_7 := n0_; have HO_123 := n1_; have BK473 := n2_; have HB := n3_; have HO478 := n4_; clear n0_ n1_ n2_ n3_ n4_; clear ho hb hg hat))
                          repeat (go_quiet (first | ((with_reducible refine gate_dst (N := 21) rfl ?_); (try (refine gate_guard (by rfl) ?_; dsimp only)); refine box_event ?hg (N := 21) ?hd (cs := #[.string (⟨#[]⟩ : ByteArray), .int .i64 0]) (t := 51) ?hr ?_; (case hd => rfl); (case hg => rfl); (case hr => first | (go_simp; done) | (go_simp; rfl)); intro gb473 hg w60 hbox hb; have n0_ := Aside0.mk (Kd.R_below HO_7.out hb); have n1_ := Aside0.mk (Kd.R_below HO_19.out hb); have n2_ := Aside0.mk (Kd.R_below (Kd.R_elderB HO_123.out gb473 (Nat.le_of_eq hg.symm)) hb); have n3_ := Aside0.mk (below_step (by repeat first | (with_reducible first | exact HB.out | apply q4_ | apply q5_ | apply q6_) | exact HB.out) hb); have n4_ := Aside0.mk (hbox); have n5_ := Aside0.mk ((by rw [hg]; exact (below_size (by repeat first | (with_reducible first | exact HB.out | apply q4_ | apply q5_ | apply q6_) | exact HB.out)) : w.heap.size ≤ gb473)); have n6_ := Aside0.mk ((by rw [hg]; exact (below_size (by repeat first | (with_reducible first | exact HB.out | apply q4_ | apply q5_ | apply q6_) | exact HB.out)) : w.heap.size ≤ gb473)); clear HO_7; clear HO_19; clear HO_123; clear HB; have HO_7 := n0_; have HO_19 := n1_; have HO_123 := n2_; have HB := n3_; have BK473 := n4_; have GW473 := n5_; have GE473 := n6_; clear n0_ n1_ n2_ n3_ n4_ n5_ n6_; clear hb hbox hg; have hcz61_0 : w60.cell? ⟨gb473, 0, none⟩ = some (.string (⟨#[]⟩ : ByteArray)) := (blk_cell BK473.out 0).trans rfl; have hcz61_1 : w60.cell? ⟨gb473, 1, none⟩ = some (.int .i64 0) := (blk_cell BK473.out 1).trans rfl; have hfz61_0 := blk_frozen BK473.out 0; have hfz61_1 := blk_frozen BK473.out 1; obtain ⟨Ao62, co62, eo62⟩ := Kd.R_slice HO_7.out; subst eo62) | (go_at_call 41; (with_reducible refine (laws_has.calls k5 _ _ t448 ((rd_T51 t456 x125_5).f1) true _ ?side1 ?side2 A51.out).mono ?_); (case side1 => refine (Kd.R_reads' (e := 3) (base := w.heap.size) (ok := fun k_ => some k_ ≠ (u19 : Value).ownBlock) (n := t448.length) (c := co62) ?_).2.2; exact (by (with_reducible repeat (first | apply Kd.R_alloc | apply Kd.R_drewN | apply Kd.R_drew)); exact (Kd.R_mono (Kd.R_far (p := ⟨gb473, 1, none⟩) (Kd.R_far (p := ⟨gb473, 0, none⟩) (Kd.R_types HO_7.out BK473.out (by decide)) (fun _ hk => hk.2) (.string ((rd_T51 t456 x125_5).f0))) (fun _ hk => hk.2) (.int .i64 ((rd_T51 t456 x125_5).f1))) (fun _ h_ => h_.1)))); (case side2 => exact (Kd.R_reads' HO_7.out).2.1); rintro e w' ⟨rfl, ⟨nd, rfl⟩⟩; (try first | exact ⟨rfl, _, World.drewN_drewN _ _ _⟩ | exact ⟨rfl, _, Eq.trans (World.drewN_drewN _ _ _) (congrArg (World.drewN _) (Nat.add_assoc _ _ _))⟩); obtain ⟨Ao63, co63, eo63⟩ := Kd.R_slice HO_19.out; subst eo63) | (go_at_call 41; (with_reducible refine (laws_has.calls k5 _ _ x19_5 ((rd_T51 t456 x125_5).f1) false _ ?side1 ?side2 A53.out).mono ?_); (case side1 => refine (Kd.R_reads' (e := 3) (base := w.heap.size) (ok := fun k_ => some k_ ≠ (.slice Ao62 t448.length co62 : Value).ownBlock) (n := x19_5.length) (c := co63) ?_).2.2; exact (by (with_reducible repeat (first | apply Kd.R_alloc | apply Kd.R_drewN | apply Kd.R_drew)); exact (Kd.R_mono (Kd.R_far (p := ⟨gb473, 1, none⟩) (Kd.R_far (p := ⟨gb473, 0, none⟩) (Kd.R_types HO_19.out BK473.out (by decide)) (fun _ hk => hk.2) (.string ((rd_T51 t456 x125_5).f0))) (fun _ hk => hk.2) (.int .i64 ((rd_T51 t456 x125_5).f1))) (fun _ h_ => h_.1)))); (case side2 => exact (Kd.R_reads' HO_19.out).2.1); rintro e w' ⟨rfl, ⟨nd, rfl⟩⟩; (try first | exact ⟨rfl, _, World.drewN_drewN _ _ _⟩ | exact ⟨rfl, _, Eq.trans (World.drewN_drewN _ _ _) (congrArg (World.drewN _) (Nat.add_assoc _ _ _))⟩)) | ((with_reducible refine gate_builtin (b := .append) (xs := #[.tmp 148, .tmp 151]) rfl ?_); (try (refine gate_guard (by rfl) ?_; dsimp only)); at_builtin; refine Kd.R_append (Kd.int .i64) (w0 := w) w.heap.size rfl (.tmp 148) (.tmp 151) 39 3 (.int .i64 0) 8 rfl Try.underlying39 info3 rfl (by decide) (by omega) (.slice Ao63 x19_5.length co63) x19_5 ((rd_T51 t456 x125_5).f1) [.int .i64 ((rd_T51 t456 x125_5).f1)] (fun k_ => some k_ ≠ (.slice Ao62 t448.length co62 : Value).ownBlock) (fun _ => False) rfl (by first | (go_simp; done) | (go_simp; rfl)) ?aP (fun _ hk => hk.elim) ?aF ?aO ?aB ?aS ?aL ?_; (case aP => exact rfl); (case aB => exact (by repeat (first | (with_reducible first | exact HB.out | apply q4_ | apply q5_ | apply q6_ | refine below_set ?_ GE473.out) | exact HB.out))); (case aF => exact (fun k_ hk => Kd.fresh' (Kd.R_lt (by (with_reducible repeat (first | apply Kd.R_alloc | apply Kd.R_drewN | apply Kd.R_drew)); exact (Kd.R_mono (Kd.R_far (p := ⟨gb473, 1, none⟩) (Kd.R_far (p := ⟨gb473, 0, none⟩) (Kd.R_types HO_7.out BK473.out (by decide)) (fun _ hk => hk.2) (.string ((rd_T51 t456 x125_5).f0))) (fun _ hk => hk.2) (.int .i64 ((rd_T51 t456 x125_5).f1))) (fun _ h_ => h_.1)))) k_ hk)); (case aO => exact (by (with_reducible repeat (first | apply Kd.R_alloc | apply Kd.R_drewN | apply Kd.R_drew)); exact Kd.R_mono (Kd.R_far (p := ⟨gb473, 1, none⟩) (Kd.R_far (p := ⟨gb473, 0, none⟩) (Kd.R_types HO_19.out BK473.out (by decide)) (fun _ hk => hk.2) (.string ((rd_T51 t456 x125_5).f0))) (fun _ hk => hk.2) (.int .i64 ((rd_T51 t456 x125_5).f1))) (fun _ hk => hk.1))); (case aS => exact (below_size (by repeat (first | (with_reducible first | exact HB.out | apply q4_ | apply q5_ | apply q6_ | refine below_set ?_ GE473.out) | exact HB.out)))); (case aL => have := LMc59.out; omega); intro v477 w64 ho hb hg hat; rw [← Ny476.out] at ho; have n0_ := Aside0.mk (Kd.R_after (ok := (fun _ => True)) (by (with_reducible repeat (first | apply Kd.R_alloc | apply Kd.R_drewN | apply Kd.R_drew)); exact Kd.R_mono (Kd.R_far (p := ⟨gb473, 1, none⟩) (Kd.R_far (p := ⟨gb473, 0, none⟩) (Kd.R_types HO_7.out BK473.out (by decide)) (fun _ hk => hk.2) (.string ((rd_T51 t456 x125_5).f0))) (fun _ hk => hk.2) (.int .i64 ((rd_T51 t456 x125_5).f1))) (fun _ hk => ⟨trivial, hk.1⟩)) hg hat); have n1_ := Aside0.mk (Kd.R_over' (by (with_reducible repeat (first | apply Kd.R_alloc | apply Kd.R_drewN | apply Kd.R_drew)); exact (Kd.R_mono (Kd.R_far (p := ⟨gb473, 1, none⟩) (Kd.R_far (p := ⟨gb473, 0, none⟩) (Kd.R_mono HO_123.out (fun k_ hk => (⟨hk, hk.2⟩ : _ ∧ k_ ≠ gb473))) (fun _ hk => hk.2) (.string ((rd_T51 t456 x125_5).f0))) (fun _ hk => hk.2) (.int .i64 ((rd_T51 t456 x125_5).f1))) (fun _ h_ => h_.1))) (Kd.R_typed (by (with_reducible repeat (first | apply Kd.R_alloc | apply Kd.R_drewN | apply Kd.R_drew)); exact (Kd.R_mono (Kd.R_far (p := ⟨gb473, 1, none⟩) (Kd.R_far (p := ⟨gb473, 0, none⟩) (Kd.R_types HO_19.out BK473.out (by decide)) (fun _ hk => hk.2) (.string ((rd_T51 t456 x125_5).f0))) (fun _ hk => hk.2) (.int .i64 ((rd_T51 t456 x125_5).f1))) (fun _ h_ => h_.1)))) (by decide) hg); have n2_ := Aside0.mk (blk_grown (g := gb473) (o := .cells #[.string ((rd_T51 t456 x125_5).f0), .int .i64 ((rd_T51 t456 x125_5).f1)] 51 (0, 0)) (by (with_reducible repeat first | apply q1_ | apply q2_ | apply q3_); refine blk_put (cs := #[.string ((rd_T51 t456 x125_5).f0), .int .i64 0]) ?_ 1 _ rfl; (with_reducible repeat first | apply q1_ | apply q2_ | apply q3_); refine blk_put (cs := #[.string (⟨#[]⟩ : ByteArray), .int .i64 0]) ?_ 0 _ rfl; (with_reducible repeat first | apply q1_ | apply q2_ | apply q3_); exact BK473.out) hg (Kd.R_ne HO_19.out BK473.out (by decide))); have n3_ := Aside0.mk (hb); have n4_ := Aside0.mk (ho); clear HO_7; clear HO_123; clear BK473; clear HB; clear HO_19; have HO_7 := n0_; have HO_123 := n1_; have BK473 := n2_; have HB := n3_; have HO478 := n4_; clear n0_ n1_ n2_ n3_ n4_; clear ho hb hg hat)); try go_wp2_with (first | ((with_reducible refine gate_dst (N := 21) rfl ?_); (try (refine gate_guard (by rfl) ?_; dsimp only)); refine box_event ?hg (N := 21) ?hd (cs := #[.string (⟨#[]⟩ : ByteArray), .int .i64 0]) (t := 51) ?hr ?_; (case hd => rfl); (case hg => rfl); (case hr => first | (go_simp; done) | (go_simp; rfl)); intro gb473 hg w60 hbox hb; have n0_ := Aside0.mk (Kd.R_below HO_7.out hb); have n1_ := Aside0.mk (Kd.R_below HO_19.out hb); have n2_ := Aside0.mk (Kd.R_below (Kd.R_elderB HO_123.out gb473 (Nat.le_of_eq hg.symm)) hb); have n3_ := Aside0.mk (below_step (by repeat first | (with_reducible first | exact HB.out | apply q4_ | apply q5_ | apply q6_) | exact HB.out) hb); have n4_ := Aside0.mk (hbox); have n5_ := Aside0.mk ((by rw [hg]; exact (below_size (by repeat first | (with_reducible first | exact HB.out | apply q4_ | apply q5_ | apply q6_) | exact HB.out)) : w.heap.size ≤ gb473)); have n6_ := Aside0.mk ((by rw [hg]; exact (below_size (by repeat first | (with_reducible first | exact HB.out | apply q4_ | apply q5_ | apply q6_) | exact HB.out)) : w.heap.size ≤ gb473)); clear HO_7; clear HO_19; clear HO_123; clear HB; have HO_7 := n0_; have HO_19 := n1_; have HO_123 := n2_; have HB := n3_; have BK473 := n4_; have GW473 := n5_; have GE473 := n6_; clear n0_ n1_ n2_ n3_ n4_ n5_ n6_; clear hb hbox hg; have hcz61_0 : w60.cell? ⟨gb473, 0, none⟩ = some (.string (⟨#[]⟩ : ByteArray)) := (blk_cell BK473.out 0).trans rfl; have hcz61_1 : w60.cell? ⟨gb473, 1, none⟩ = some (.int .i64 0) := (blk_cell BK473.out 1).trans rfl; have hfz61_0 := blk_frozen BK473.out 0; have hfz61_1 := blk_frozen BK473.out 1; obtain ⟨Ao62, co62, eo62⟩ := Kd.R_slice HO_7.out; subst eo62) | (go_at_call 41; (with_reducible refine (laws_has.calls k5 _ _ t448 ((rd_T51 t456 x125_5).f1) true _ ?side1 ?side2 A51.out).mono ?_); (case side1 => refine (Kd.R_reads' (e := 3) (base := w.heap.size) (ok := fun k_ => some k_ ≠ (u19 : Value).ownBlock) (n := t448.length) (c := co62) ?_).2.2; exact (by (with_reducible repeat (first | apply Kd.R_alloc | apply Kd.R_drewN | apply Kd.R_drew)); exact (Kd.R_mono (Kd.R_far (p := ⟨gb473, 1, none⟩) (Kd.R_far (p := ⟨gb473, 0, none⟩) (Kd.R_types HO_7.out BK473.out (by decide)) (fun _ hk => hk.2) (.string ((rd_T51 t456 x125_5).f0))) (fun _ hk => hk.2) (.int .i64 ((rd_T51 t456 x125_5).f1))) (fun _ h_ => h_.1)))); (case side2 => exact (Kd.R_reads' HO_7.out).2.1); rintro e w' ⟨rfl, ⟨nd, rfl⟩⟩; (try first | exact ⟨rfl, _, World.drewN_drewN _ _ _⟩ | exact ⟨rfl, _, Eq.trans (World.drewN_drewN _ _ _) (congrArg (World.drewN _) (Nat.add_assoc _ _ _))⟩); obtain ⟨Ao63, co63, eo63⟩ := Kd.R_slice HO_19.out; subst eo63) | (go_at_call 41; (with_reducible refine (laws_has.calls k5 _ _ x19_5 ((rd_T51 t456 x125_5).f1) false _ ?side1 ?side2 A53.out).mono ?_); (case side1 => refine (Kd.R_reads' (e := 3) (base := w.heap.size) (ok := fun k_ => some k_ ≠ (.slice Ao62 t448.length co62 : Value).ownBlock) (n := x19_5.length) (c := co63) ?_).2.2; exact (by (with_reducible repeat (first | apply Kd.R_alloc | apply Kd.R_drewN | apply Kd.R_drew)); exact (Kd.R_mono (Kd.R_far (p := ⟨gb473, 1, none⟩) (Kd.R_far (p := ⟨gb473, 0, none⟩) (Kd.R_types HO_19.out BK473.out (by decide)) (fun _ hk => hk.2) (.string ((rd_T51 t456 x125_5).f0))) (fun _ hk => hk.2) (.int .i64 ((rd_T51 t456 x125_5).f1))) (fun _ h_ => h_.1)))); (case side2 => exact (Kd.R_reads' HO_19.out).2.1); rintro e w' ⟨rfl, ⟨nd, rfl⟩⟩; (try first | exact ⟨rfl, _, World.drewN_drewN _ _ _⟩ | exact ⟨rfl, _, Eq.trans (World.drewN_drewN _ _ _) (congrArg (World.drewN _) (Nat.add_assoc _ _ _))⟩)) | ((with_reducible refine gate_builtin (b := .append) (xs := #[.tmp 148, .tmp 151]) rfl ?_); (try (refine gate_guard (by rfl) ?_; dsimp only)); at_builtin; refine Kd.R_append (Kd.int .i64) (w0 := w) w.heap.size rfl (.tmp 148) (.tmp 151) 39 3 (.int .i64 0) 8 rfl Try.underlying39 info3 rfl (by decide) (by omega) (.slice Ao63 x19_5.length co63) x19_5 ((rd_T51 t456 x125_5).f1) [.int .i64 ((rd_T51 t456 x125_5).f1)] (fun k_ => some k_ ≠ (.slice Ao62 t448.length co62 : Value).ownBlock) (fun _ => False) rfl (by first | (go_simp; done) | (go_simp; rfl)) ?aP (fun _ hk => hk.elim) ?aF ?aO ?aB ?aS ?aL ?_; (case aP => exact rfl); (case aB => exact (by repeat (first | (with_reducible first | exact HB.out | apply q4_ | apply q5_ | apply q6_ | refine below_set ?_ GE473.out) | exact HB.out))); (case aF => exact (fun k_ hk => Kd.fresh' (Kd.R_lt (by (with_reducible repeat (first | apply Kd.R_alloc | apply Kd.R_drewN | apply Kd.R_drew)); exact (Kd.R_mono (Kd.R_far (p := ⟨gb473, 1, none⟩) (Kd.R_far (p := ⟨gb473, 0, none⟩) (Kd.R_types HO_7.out BK473.out (by decide)) (fun _ hk => hk.2) (.string ((rd_T51 t456 x125_5).f0))) (fun _ hk => hk.2) (.int .i64 ((rd_T51 t456 x125_5).f1))) (fun _ h_ => h_.1)))) k_ hk)); (case aO => exact (by (with_reducible repeat (first | apply Kd.R_alloc | apply Kd.R_drewN | apply Kd.R_drew)); exact Kd.R_mono (Kd.R_far (p := ⟨gb473, 1, none⟩) (Kd.R_far (p := ⟨gb473, 0, none⟩) (Kd.R_types HO_19.out BK473.out (by decide)) (fun _ hk => hk.2) (.string ((rd_T51 t456 x125_5).f0))) (fun _ hk => hk.2) (.int .i64 ((rd_T51 t456 x125_5).f1))) (fun _ hk => hk.1))); (case aS => exact (below_size (by repeat (first | (with_reducible first | exact HB.out | apply q4_ | apply q5_ | apply q6_ | refine below_set ?_ GE473.out) | exact HB.out)))); (case aL => have := LMc59.out; omega); intro v477 w64 ho hb hg hat; rw [← Ny476.out] at ho; have n0_ := Aside0.mk (Kd.R_after (ok := (fun _ => True)) (by (with_reducible repeat (first | apply Kd.R_alloc | apply Kd.R_drewN | apply Kd.R_drew)); exact Kd.R_mono (Kd.R_far (p := ⟨gb473, 1, none⟩) (Kd.R_far (p := ⟨gb473, 0, none⟩) (Kd.R_types HO_7.out BK473.out (by decide)) (fun _ hk => hk.2) (.string ((rd_T51 t456 x125_5).f0))) (fun _ hk => hk.2) (.int .i64 ((rd_T51 t456 x125_5).f1))) (fun _ hk => ⟨trivial, hk.1⟩)) hg hat); have n1_ := Aside0.mk (Kd.R_over' (by (with_reducible repeat (first | apply Kd.R_alloc | apply Kd.R_drewN | apply Kd.R_drew)); exact (Kd.R_mono (Kd.R_far (p := ⟨gb473, 1, none⟩) (Kd.R_far (p := ⟨gb473, 0, none⟩) (Kd.R_mono HO_123.out (fun k_ hk => (⟨hk, hk.2⟩ : _ ∧ k_ ≠ gb473))) (fun _ hk => hk.2) (.string ((rd_T51 t456 x125_5).f0))) (fun _ hk => hk.2) (.int .i64 ((rd_T51 t456 x125_5).f1))) (fun _ h_ => h_.1))) (Kd.R_typed (by (with_reducible repeat (first | apply Kd.R_alloc | apply Kd.R_drewN | apply Kd.R_drew)); exact (Kd.R_mono (Kd.R_far (p := ⟨gb473, 1, none⟩) (Kd.R_far (p := ⟨gb473, 0, none⟩) (Kd.R_types HO_19.out BK473.out (by decide)) (fun _ hk => hk.2) (.string ((rd_T51 t456 x125_5).f0))) (fun _ hk => hk.2) (.int .i64 ((rd_T51 t456 x125_5).f1))) (fun _ h_ => h_.1)))) (by decide) hg); have n2_ := Aside0.mk (blk_grown (g := gb473) (o := .cells #[.string ((rd_T51 t456 x125_5).f0), .int .i64 ((rd_T51 t456 x125_5).f1)] 51 (0, 0)) (by (with_reducible repeat first | apply q1_ | apply q2_ | apply q3_); refine blk_put (cs := #[.string ((rd_T51 t456 x125_5).f0), .int .i64 0]) ?_ 1 _ rfl; (with_reducible repeat first | apply q1_ | apply q2_ | apply q3_); refine blk_put (cs := #[.string (⟨#[]⟩ : ByteArray), .int .i64 0]) ?_ 0 _ rfl; (with_reducible repeat first | apply q1_ | apply q2_ | apply q3_); exact BK473.out) hg (Kd.R_ne HO_19.out BK473.out (by decide))); have n3_ := Aside0.mk (hb); have n4_ := Aside0.mk (ho); clear HO_7; clear HO_123; clear BK473; clear HB; clear HO_19; have HO_7 := n0_; have HO_123 := n1_; have BK473 := n2_; have HB := n3_; have HO478 := n4_; clear n0_ n1_ n2_ n3_ n4_; clear ho hb hg hat)))
                          go_roundg k5
                          case measure => have := HJ8.out; have := HK2.out; have := HJ31.out; have := HJ40.out; have := HK5.out; omega
                          case rel => exact ⟨(wrap64 (x18_5 + 1)), (y476), (wrap64 (x125_5 + 1)), (by first | rfl | (simp; done) | (simp [*]; done) | (simp; apply Bool.eq_iff_iff.mpr; simp only [bne_iff_ne, ne_eq, beq_iff_eq]; omega)), (by first | rfl | (simp; done) | (simp [*]; done) | (simp; apply Bool.eq_iff_iff.mpr; simp only [bne_iff_ne, ne_eq, beq_iff_eq]; omega)), H', ⟨by have := HJ8.out; have := HK2.out; have := HJ31.out; have := HJ40.out; have := HK5.out; omega⟩, ⟨by (with_reducible repeat (first | apply Kd.R_alloc | apply Kd.R_drewN | apply Kd.R_drew)); exact Kd.R_mono HO_7.out (fun _ hk => hk.2)⟩, ⟨by (with_reducible repeat (first | apply Kd.R_alloc | apply Kd.R_drewN | apply Kd.R_drew)); exact HO478.out⟩, ⟨by (with_reducible repeat (first | apply Kd.R_alloc | apply Kd.R_drewN | apply Kd.R_drew)); exact Kd.R_mono HO_123.out (fun _ hk => trivial)⟩, ⟨by repeat (first | (with_reducible first | exact HB.out | apply q4_ | apply q5_ | apply q6_ | refine below_set ?_ GE473.out) | exact HB.out)⟩⟩
                        ·rw [if_neg c59] at H
                         exact absurd H (by simp)
                      ·replace c52 := Bool.eq_false_iff.mpr c52
                       subst c52
                       have H1 : (some false) = some r := by rw [if_neg (show ¬ (false = true) by decide)] at H; exact H
                       clear H
                       have H := H1
                       clear H1
                       exact absurd ((Option.some.inj H).trans HR_.out) (by decide)
                     ·rw [if_neg c50] at H
                      have c50b0 : ((((rd_T51 t456 x125_5).f0).extract 0 ((t445.size : Int) : Int).toNat).toList == t445.toList) = false := beq_eq_false_iff_ne.mpr c50
                      have c50b0z := c50b0
                      rw [Int.toNat_natCast] at c50b0z
                      have c50b1 : ((((rd_T51 t456 x125_5).f0).extract 0 ((t445.size : Int) : Int).toNat).toList != t445.toList) = true := bne_iff_ne.mpr c50
                      as_aux_lemma =>
                       have H' := Aside0.mk H
                       clear H
                       have p472 : 0 ≤ (x125_5 : Int) := of_decide_eq_true (by assumption)
                       have q472 : x125_5 < (t456.length : Int) := of_decide_eq_true (by assumption)
                       obtain ⟨ad472, e472, hx472_0, hx472_1⟩ := at_T51 (Kd.R_reads' HO_123.out).2.2 x125_5 p472 q472
                       cases e472
                       replace p472 := eq_true p472
                       replace q472 := eq_true q472
                       go_wp2_with (first | ((with_reducible refine gate_dst (N := 21) rfl ?_); (try (refine gate_guard (by rfl) ?_; dsimp only)); refine box_event ?hg (N := 21) ?hd (cs := #[.string (⟨#[]⟩ : ByteArray), .int .i64 0]) (t := 51) ?hr ?_; (case hd => rfl); (case hg => rfl); (case hr => first | (go_simp; done) | (go_simp; rfl)); intro gb473 hg w65 hbox hb; have n0_ := Aside0.mk (Kd.R_below HO_7.out hb); have n1_ := Aside0.mk (Kd.R_below HO_19.out hb); have n2_ := Aside0.mk (Kd.R_below (Kd.R_elderB HO_123.out gb473 (Nat.le_of_eq hg.symm)) hb); have n3_ := Aside0.mk (below_step (by repeat first | (with_reducible first | exact HB.out | apply q4_ | apply q5_ | apply q6_) | exact HB.out) hb); have n4_ := Aside0.mk (hbox); have n5_ := Aside0.mk ((by rw [hg]; exact (below_size (by repeat first | (with_reducible first | exact HB.out | apply q4_ | apply q5_ | apply q6_) | exact HB.out)) : w.heap.size ≤ gb473)); have n6_ := Aside0.mk ((by rw [hg]; exact (below_size (by repeat first | (with_reducible first | exact HB.out | apply q4_ | apply q5_ | apply q6_) | exact HB.out)) : w.heap.size ≤ gb473)); clear HO_7; clear HO_19; clear HO_123; clear HB; have HO_7 := n0_; have HO_19 := n1_; have HO_123 := n2_; have HB := n3_; have BK473 := n4_; have GW473 := n5_; have GE473 := n6_; clear n0_ n1_ n2_ n3_ n4_ n5_ n6_; clear hb hbox hg; have hcz66_0 : w65.cell? ⟨gb473, 0, none⟩ = some (.string (⟨#[]⟩ : ByteArray)) := (blk_cell BK473.out 0).trans rfl; have hcz66_1 : w65.cell? ⟨gb473, 1, none⟩ = some (.int .i64 0) := (blk_cell BK473.out 1).trans rfl; have hfz66_0 := blk_frozen BK473.out 0; have hfz66_1 := blk_frozen BK473.out 1))
                       repeat (go_quiet (first | ((with_reducible refine gate_dst (N := 21) rfl ?_); (try (refine gate_guard (by rfl) ?_; dsimp only)); refine box_event ?hg (N := 21) ?hd (cs := #[.string (⟨#[]⟩ : ByteArray), .int .i64 0]) (t := 51) ?hr ?_; (case hd => rfl); (case hg => rfl); (case hr => first | (go_simp; done) | (go_simp; rfl)); intro gb473 hg w65 hbox hb; have n0_ := Aside0.mk (Kd.R_below HO_7.out hb); have n1_ := Aside0.mk (Kd.R_below HO_19.out hb); have n2_ := Aside0.mk (Kd.R_below (Kd.R_elderB HO_123.out gb473 (Nat.le_of_eq hg.symm)) hb); have n3_ := Aside0.mk (below_step (by repeat first | (with_reducible first | exact HB.out | apply q4_ | apply q5_ | apply q6_) | exact HB.out) hb); have n4_ := Aside0.mk (hbox); have n5_ := Aside0.mk ((by rw [hg]; exact (below_size (by repeat first | (with_reducible first | exact HB.out | apply q4_ | apply q5_ | apply q6_) | exact HB.out)) : w.heap.size ≤ gb473)); have n6_ := Aside0.mk ((by rw [hg]; exact (below_size (by repeat first | (with_reducible first | exact HB.out | apply q4_ | apply q5_ | apply q6_) | exact HB.out)) : w.heap.size ≤ gb473)); clear HO_7; clear HO_19; clear HO_123; clear HB; have HO_7 := n0_; have HO_19 := n1_; have HO_123 := n2_; have HB := n3_; have BK473 := n4_; have GW473 := n5_; have GE473 := n6_; clear n0_ n1_ n2_ n3_ n4_ n5_ n6_; clear hb hbox hg; have hcz66_0 : w65.cell? ⟨gb473, 0, none⟩ = some (.string (⟨#[]⟩ : ByteArray)) := (blk_cell BK473.out 0).trans rfl; have hcz66_1 : w65.cell? ⟨gb473, 1, none⟩ = some (.int .i64 0) := (blk_cell BK473.out 1).trans rfl; have hfz66_0 := blk_frozen BK473.out 0; have hfz66_1 := blk_frozen BK473.out 1)); try go_wp2_with (first | ((with_reducible refine gate_dst (N := 21) rfl ?_); (try (refine gate_guard (by rfl) ?_; dsimp only)); refine box_event ?hg (N := 21) ?hd (cs := #[.string (⟨#[]⟩ : ByteArray), .int .i64 0]) (t := 51) ?hr ?_; (case hd => rfl); (case hg => rfl); (case hr => first | (go_simp; done) | (go_simp; rfl)); intro gb473 hg w65 hbox hb; have n0_ := Aside0.mk (Kd.R_below HO_7.out hb); have n1_ := Aside0.mk (Kd.R_below HO_19.out hb); have n2_ := Aside0.mk (Kd.R_below (Kd.R_elderB HO_123.out gb473 (Nat.le_of_eq hg.symm)) hb); have n3_ := Aside0.mk (below_step (by repeat first | (with_reducible first | exact HB.out | apply q4_ | apply q5_ | apply q6_) | exact HB.out) hb); have n4_ := Aside0.mk (hbox); have n5_ := Aside0.mk ((by rw [hg]; exact (below_size (by repeat first | (with_reducible first | exact HB.out | apply q4_ | apply q5_ | apply q6_) | exact HB.out)) : w.heap.size ≤ gb473)); have n6_ := Aside0.mk ((by rw [hg]; exact (below_size (by repeat first | (with_reducible first | exact HB.out | apply q4_ | apply q5_ | apply q6_) | exact HB.out)) : w.heap.size ≤ gb473)); clear HO_7; clear HO_19; clear HO_123; clear HB; have HO_7 := n0_; have HO_19 := n1_; have HO_123 := n2_; have HB := n3_; have BK473 := n4_; have GW473 := n5_; have GE473 := n6_; clear n0_ n1_ n2_ n3_ n4_ n5_ n6_; clear hb hbox hg; have hcz66_0 : w65.cell? ⟨gb473, 0, none⟩ = some (.string (⟨#[]⟩ : ByteArray)) := (blk_cell BK473.out 0).trans rfl; have hcz66_1 : w65.cell? ⟨gb473, 1, none⟩ = some (.int .i64 0) := (blk_cell BK473.out 1).trans rfl; have hfz66_0 := blk_frozen BK473.out 0; have hfz66_1 := blk_frozen BK473.out 1)))
                       go_roundg k5
                       case measure => have := HJ8.out; have := HK2.out; have := HJ31.out; have := HJ40.out; have := HK5.out; omega
                       case rel => exact ⟨(x18_5), (x19_5), (wrap64 (x125_5 + 1)), (by first | rfl | (simp; done) | (simp [*]; done) | (simp; apply Bool.eq_iff_iff.mpr; simp only [bne_iff_ne, ne_eq, beq_iff_eq]; omega)), (by first | rfl | (simp; done) | (simp [*]; done) | (simp; apply Bool.eq_iff_iff.mpr; simp only [bne_iff_ne, ne_eq, beq_iff_eq]; omega)), H', ⟨by have := HJ8.out; have := HK2.out; have := HJ31.out; have := HJ40.out; have := HK5.out; omega⟩, ⟨by (with_reducible repeat (first | apply Kd.R_alloc | apply Kd.R_drewN | apply Kd.R_drew)); exact Kd.R_mono (Kd.R_far (p := ⟨gb473, 1, none⟩) (Kd.R_far (p := ⟨gb473, 0, none⟩) (Kd.R_types HO_7.out BK473.out (by decide)) (fun _ hk => hk.2) (.string ((rd_T51 t456 x125_5).f0))) (fun _ hk => hk.2) (.int .i64 ((rd_T51 t456 x125_5).f1))) (fun _ hk => hk.1)⟩, ⟨by (with_reducible repeat (first | apply Kd.R_alloc | apply Kd.R_drewN | apply Kd.R_drew)); exact Kd.R_mono (Kd.R_far (p := ⟨gb473, 1, none⟩) (Kd.R_far (p := ⟨gb473, 0, none⟩) (Kd.R_types HO_19.out BK473.out (by decide)) (fun _ hk => hk.2) (.string ((rd_T51 t456 x125_5).f0))) (fun _ hk => hk.2) (.int .i64 ((rd_T51 t456 x125_5).f1))) (fun _ hk => hk.1)⟩, ⟨by (with_reducible repeat (first | apply Kd.R_alloc | apply Kd.R_drewN | apply Kd.R_drew)); exact Kd.R_mono (Kd.R_far (p := ⟨gb473, 1, none⟩) (Kd.R_far (p := ⟨gb473, 0, none⟩) (Kd.R_mono HO_123.out (fun k_ hk => (⟨hk, hk.2⟩ : _ ∧ k_ ≠ gb473))) (fun _ hk => hk.2) (.string ((rd_T51 t456 x125_5).f0))) (fun _ hk => hk.2) (.int .i64 ((rd_T51 t456 x125_5).f1))) (fun _ hk => trivial)⟩, ⟨by repeat (first | (with_reducible first | exact HB.out | apply q4_ | apply q5_ | apply q6_ | refine below_set ?_ GE473.out) | exact HB.out)⟩⟩
                    ·rw [if_neg c49] at H
                     exact absurd H (by simp)
                   ·rw [if_neg c48] at H
                    exact absurd H (by simp)
                  ·rw [if_neg c47] at H
                   exact absurd H (by simp)
                 ·rw [if_neg c46] at H
                  exact absurd H (by simp)
                ·rw [if_neg c45] at H
                 have c45b0 : decide (x125_5 < (t456.length : Int)) = false := decide_eq_false c45
                 clear c45
                 (first | rw [c45b0] | (simp only [i64_w, i32_w]; rw [c45b0]) | skip)
                 by_cases c67 : (x19_5.length : Int) = (t448.length : Int)
                 ·rw [if_pos c67] at H
                  have c67b0 : ((x19_5.length : Int) == (t448.length : Int)) = true := beq_iff_eq.mpr c67
                  have c67b1 : ((x19_5.length : Int) != (t448.length : Int)) = false := bne_eq_false_iff_eq.mpr c67
                  have c67b2 : (x19_5.length == t448.length) = true := by first | simpa using c67 | (simp at c67 ⊢; omega)
                  clear c67
                  by_cases c68 : x18_5 < (t448.length : Int)
                  ·rw [if_pos c68] at H
                   have c68b0 : decide (x18_5 < (t448.length : Int)) = true := decide_eq_true c68
                   clear c68
                   exact absurd ((Option.some.inj H).trans HR_.out) (by decide)
                  ·rw [if_neg c68] at H
                   have c68b0 : decide (x18_5 < (t448.length : Int)) = false := decide_eq_false c68
                   clear c68
                   as_aux_lemma =>
                    have H' := Aside0.mk H
                    clear H
                    obtain ⟨Ao69, co69, eo69⟩ := Kd.R_slice HO_19.out
                    subst eo69
                    obtain ⟨Ao70, co70, eo70⟩ := Kd.R_slice HO_7.out
                    subst eo70
                    go_wp2
                    repeat (go_quiet (fail); try go_wp2)
                    go_meet
                    case rel => exact ⟨_, H', ⟨by have := HJ8.out; have := HK2.out; have := HJ31.out; have := HJ40.out; have := HK5.out; first | omega | exact Nat.le_refl _⟩, ⟨by repeat (first | (with_reducible first | exact HB.out | apply q4_ | apply q5_ | apply q6_) | exact HB.out)⟩⟩
                 ·rw [if_neg c67] at H
                  have c67b0 : ((x19_5.length : Int) == (t448.length : Int)) = false := beq_eq_false_iff_ne.mpr c67
                  have c67b1 : ((x19_5.length : Int) != (t448.length : Int)) = true := bne_iff_ne.mpr c67
                  have c67b2 : (x19_5.length == t448.length) = false := by first | simpa using c67 | (simp at c67 ⊢; omega)
                  exact absurd ((Option.some.inj H).trans HR_.out) (by decide)
             ·replace c44 := Bool.eq_false_iff.mpr c44
              subst c44
              have H1 : (laws_FnFound.j5 kj40 l1) = some r := by rw [if_neg (show ¬ (false = true) by decide)] at H; exact H
              clear H
              have H := H1
              clear H1
              as_aux_lemma =>
               have H' := Aside0.mk H
               clear H
               go_wp2
               repeat (go_quiet (fail); try go_wp2)
               go_meet
               case rel => exact ⟨_, H', ⟨by have := HJ8.out; have := HK2.out; have := HJ31.out; have := HJ40.out; first | omega | exact Nat.le_refl _⟩, ⟨by repeat (first | (with_reducible first | exact HB.out | apply q4_ | apply q5_ | apply q6_) | exact HB.out)⟩⟩
            case rest =>
             clear HC43
             try clear c1
             try clear c2
             try clear p2
             try clear c3
             try clear c3b0
             try clear c4
             try clear p4
             try clear q4
             try clear hx4
             try clear c5
             try clear c6
             try clear p6
             try clear c10
             try clear c16
             try clear c16b0
             try clear c16b1
             try clear c16b2
             try clear c18
             try clear c19
             try clear c19b0
             try clear c19b1
             try clear c19b2
             try clear c24
             try clear c26
             try clear c26b0
             try clear c27
             try clear c27b0
             try clear c28
             try clear c28b0
             try clear c29
             try clear c29b0
             try clear c30
             try clear c30b0
             try clear c33
             try clear c35
             try clear c37
             try clear c42
             try clear c44
             try clear c45
             try clear c45b0
             try clear c46
             try clear c46b0
             try clear p46
             try clear q46
             try clear hx46
             try clear c47
             try clear c47b0
             try clear p47
             try clear q47
             try clear hx47
             try clear c48
             try clear c48b0
             try clear c48b1
             try clear c49
             try clear c49b0
             try clear c49b1
             try clear c50
             try clear c50b0
             try clear c50b1
             try clear c52
             try clear c54
             try clear c59
             try clear p64
             try clear c67
             try clear c67b0
             try clear c67b1
             try clear c67b2
             try clear c68
             try clear c68b0
             try clear hcz56_0
             try clear hcz56_1
             try clear hcz61_0
             try clear hcz61_1
             try clear hcz66_0
             try clear hcz66_1
             try clear hfz56_0
             try clear hfz56_1
             try clear hfz61_0
             try clear hfz61_1
             try clear hfz66_0
             try clear hfz66_1
             try clear hx465_0
             try clear hx465_1
             try clear hx466_0
             try clear hx466_1
             try clear hx472_0
             try clear hx472_1
             try clear p2
             try clear p4
             try clear p465
             try clear p466
             try clear p472
             try clear p6
             try clear q4
             try clear q465
             try clear q466
             try clear q472
             obtain ⟨kq, HA, HJ42, HB⟩ := hcut
             cases kq with
             | zero => exact absurd HA.out (by simp [laws_FnFound.j5])
             | succ kj42 =>
              have H := HA.out
              clear HA
              simp only [laws_FnFound.j5] at H
              replace H := Option.bind_eq_some_iff.mp H
              obtain ⟨⟨t479, t480⟩, A710, H⟩ := H
              replace H : ((impl_FindKey.f kj42 t479 t480).bind fun bt483 => ((spec_FindKey.f kj42 t479 t480).bind fun bt488 => ((spec_DrawFirstUnlike.f l1).bind fun bt493 => ((impl_FirstUnlike.f kj42 bt493.1 bt493.2).bind fun bt495 => ((spec_FirstUnlike.f kj42 bt493.1 bt493.2).bind fun bt497 => (if (bt483.2.2 == bt488.2.2) = true then (if bt483.2.1 = bt488.2.1 then ((laws_sameInts.f kj42 bt483.1 bt488.1).bind fun t499 => (if t499 = true then (if (bt495.2 == bt497.2) = true then (some (bt495.1 == bt497.1)) else (some false)) else (some false))) else (some false)) else (some false))))))) = some r := H
              have A71 := Aside0.mk A710
              clear A710
              replace H := Option.bind_eq_some_iff.mp H
              obtain ⟨⟨t483, t484, t485⟩, A720, H⟩ := H
              replace H : ((spec_FindKey.f kj42 t479 t480).bind fun bt488 => ((spec_DrawFirstUnlike.f l1).bind fun bt493 => ((impl_FirstUnlike.f kj42 bt493.1 bt493.2).bind fun bt495 => ((spec_FirstUnlike.f kj42 bt493.1 bt493.2).bind fun bt497 => (if (t485 == bt488.2.2) = true then (if t484 = bt488.2.1 then ((laws_sameInts.f kj42 t483 bt488.1).bind fun t499 => (if t499 = true then (if (bt495.2 == bt497.2) = true then (some (bt495.1 == bt497.1)) else (some false)) else (some false))) else (some false)) else (some false)))))) = some r := H
              have A72 := Aside0.mk A720
              clear A720
              replace H := Option.bind_eq_some_iff.mp H
              obtain ⟨⟨t488, t489, t490⟩, A730, H⟩ := H
              replace H : ((spec_DrawFirstUnlike.f l1).bind fun bt493 => ((impl_FirstUnlike.f kj42 bt493.1 bt493.2).bind fun bt495 => ((spec_FirstUnlike.f kj42 bt493.1 bt493.2).bind fun bt497 => (if (t485 == t490) = true then (if t484 = t489 then ((laws_sameInts.f kj42 t483 t488).bind fun t499 => (if t499 = true then (if (bt495.2 == bt497.2) = true then (some (bt495.1 == bt497.1)) else (some false)) else (some false))) else (some false)) else (some false))))) = some r := H
              have A73 := Aside0.mk A730
              clear A730
              replace H := Option.bind_eq_some_iff.mp H
              obtain ⟨⟨t493, t494⟩, A740, H⟩ := H
              replace H : ((impl_FirstUnlike.f kj42 t493 t494).bind fun bt495 => ((spec_FirstUnlike.f kj42 t493 t494).bind fun bt497 => (if (t485 == t490) = true then (if t484 = t489 then ((laws_sameInts.f kj42 t483 t488).bind fun t499 => (if t499 = true then (if (bt495.2 == bt497.2) = true then (some (bt495.1 == bt497.1)) else (some false)) else (some false))) else (some false)) else (some false)))) = some r := H
              have A74 := Aside0.mk A740
              clear A740
              replace H := Option.bind_eq_some_iff.mp H
              obtain ⟨⟨t495, t496⟩, A750, H⟩ := H
              replace H : ((spec_FirstUnlike.f kj42 t493 t494).bind fun bt497 => (if (t485 == t490) = true then (if t484 = t489 then ((laws_sameInts.f kj42 t483 t488).bind fun t499 => (if t499 = true then (if (t496 == bt497.2) = true then (some (t495 == bt497.1)) else (some false)) else (some false))) else (some false)) else (some false))) = some r := H
              have A75 := Aside0.mk A750
              clear A750
              replace H := Option.bind_eq_some_iff.mp H
              obtain ⟨⟨t497, t498⟩, A760, H⟩ := H
              replace H : (if (t485 == t490) = true then (if t484 = t489 then ((laws_sameInts.f kj42 t483 t488).bind fun t499 => (if t499 = true then (if (t496 == t498) = true then (some (t495 == t497)) else (some false)) else (some false))) else (some false)) else (some false)) = some r := H
              have A76 := Aside0.mk A760
              clear A760
              by_cases c77 : (t485 == t490) = true
              ·rw [if_pos c77] at H
               have c77b0 : (t485 == t490) = true := c77
               (try (have c77b1 : decide (t485 = t490) = true := by simpa using c77))
               (try (have c77b2 : (t485 == t490) = true := by simpa using c77))
               clear c77
               by_cases c78 : t484 = t489
               ·rw [if_pos c78] at H
                have c78b0 : (t484 == t489) = true := beq_iff_eq.mpr c78
                have c78b1 : (t484 != t489) = false := bne_eq_false_iff_eq.mpr c78
                clear c78
                replace H := Option.bind_eq_some_iff.mp H
                obtain ⟨t499, A790, H⟩ := H
                replace H : (if t499 = true then (if (t496 == t498) = true then (some (t495 == t497)) else (some false)) else (some false)) = some r := H
                have A79 := Aside0.mk A790
                clear A790
                by_cases c80 : t499 = true
                ·subst c80
                 have H1 : (if (t496 == t498) = true then (some (t495 == t497)) else (some false)) = some r := by rw [if_pos rfl] at H; exact H
                 clear H
                 have H := H1
                 clear H1
                 by_cases c81 : (t496 == t498) = true
                 ·rw [if_pos c81] at H
                  have c81b0 : (t496 == t498) = true := c81
                  (try (have c81b1 : decide (t496 = t498) = true := by simpa using c81))
                  (try (have c81b2 : (t496 == t498) = true := by simpa using c81))
                  clear c81
                  as_aux_lemma =>
                   obtain rfl := Option.some.inj H
                   go_wp2_with (first | (go_at_call 45; (with_reducible refine (spec_DrawFindKey.calls kj42 _ _ l1 t479 t480 _ ?side1 ?side2 A71.out).mono ?_); (case side1 => exact (Kd.C_below HR1.out HB.out)); (case side2 => exact HC1.out); rintro e w82 ⟨v481, rfl, ho0, hb⟩; have n0_ := Aside0.mk (Kd.S_lower ho0 (below_size (by repeat first | (with_reducible first | exact HB.out | apply q4_ | apply q5_ | apply q6_) | exact HB.out))); have n1_ := Aside0.mk (below_step (by repeat first | (with_reducible first | exact HB.out | apply q4_ | apply q5_ | apply q6_) | exact HB.out) hb); clear HB; have HO482 := n0_; have HB := n1_; clear n0_ n1_; (try clear hb); (try clear hk); (try clear hi); (try clear ho0); obtain ⟨Ao83, co83, eo83⟩ := Kd.S_slice HO482.out; subst eo83) | (go_at_call 25; (with_reducible refine (impl_FindKey.calls kj42 _ _ t479 t480 t483 t484 t485 _ ?side1 ?side2 A72.out).mono ?_); (case side1 => exact (Kd.S_reads' HO482.out).2.2); (case side2 => exact (Kd.S_reads' HO482.out).2.1); rintro e w84 ⟨v486, rfl, ho0, hb⟩; have n0_ := Aside0.mk (Kd.S_elder' HO482.out (Kd.R_base ho0) hb); have n1_ := Aside0.mk (Kd.R_lower ho0 (below_size (by repeat first | (with_reducible first | exact HB.out | apply q4_ | apply q5_ | apply q6_) | exact HB.out))); have n2_ := Aside0.mk (below_step (by repeat first | (with_reducible first | exact HB.out | apply q4_ | apply q5_ | apply q6_) | exact HB.out) hb); clear HO482; clear HB; have HO482 := n0_; have HO487 := n1_; have HB := n2_; clear n0_ n1_ n2_; (try clear hb); (try clear hk); (try clear hi); (try clear ho0)) | (go_at_call 24; (with_reducible refine (spec_FindKey.calls kj42 _ _ t479 t480 t488 t489 t490 _ ?side1 ?side2 A73.out).mono ?_); (case side1 => exact (Kd.S_reads' HO482.out).2.2); (case side2 => exact (Kd.S_reads' HO482.out).2.1); rintro e w85 ⟨v491, rfl, ho0, hb⟩; have n0_ := Aside0.mk (Kd.S_elder' HO482.out (Kd.R_base ho0) hb); have n1_ := Aside0.mk (Kd.R_elder' HO487.out (Kd.R_base ho0) hb); have n2_ := Aside0.mk (Kd.R_lower (Kd.R_new' ho0 (Kd.R_lt HO487.out)) (below_size (by repeat first | (with_reducible first | exact HB.out | apply q4_ | apply q5_ | apply q6_) | exact HB.out))); have n3_ := Aside0.mk (below_step (by repeat first | (with_reducible first | exact HB.out | apply q4_ | apply q5_ | apply q6_) | exact HB.out) hb); clear HO482; clear HO487; clear HB; have HO482 := n0_; have HO487 := n1_; have HO492 := n2_; have HB := n3_; clear n0_ n1_ n2_ n3_; (try clear hb); (try clear hk); (try clear hi); (try clear ho0)) | (go_at_call 46; (with_reducible refine (spec_DrawFirstUnlike.calls _ _ l1 t493 t494 _ ?side1 ?side2 A74.out).mono ?_); (case side1 => exact (Kd.C_below HR1.out HB.out)); (case side2 => exact HC1.out); rintro e w86 ⟨rfl, hb⟩; have n0_ := Aside0.mk (Kd.S_below HO482.out hb); have n1_ := Aside0.mk (Kd.R_below HO487.out hb); have n2_ := Aside0.mk (Kd.R_below HO492.out hb); have n3_ := Aside0.mk (below_step (by repeat first | (with_reducible first | exact HB.out | apply q4_ | apply q5_ | apply q6_) | exact HB.out) hb); clear HO482; clear HO487; clear HO492; clear HB; have HO482 := n0_; have HO487 := n1_; have HO492 := n2_; have HB := n3_; clear n0_ n1_ n2_ n3_; (try clear hb); (try clear hk); (try clear hi)) | (go_at_call 47; (with_reducible refine (impl_FirstUnlike.calls kj42 t493 t494 t495 t496 _ A75.out).mono ?_); rintro e w' ⟨rfl, ⟨nd, rfl⟩⟩; (try first | exact ⟨rfl, _, World.drewN_drewN _ _ _⟩ | exact ⟨rfl, _, Eq.trans (World.drewN_drewN _ _ _) (congrArg (World.drewN _) (Nat.add_assoc _ _ _))⟩)) | (go_at_call 48; (with_reducible refine (spec_FirstUnlike.calls kj42 t493 t494 t497 t498 _ A76.out).mono ?_); rintro e w' ⟨rfl, ⟨nd, rfl⟩⟩; (try first | exact ⟨rfl, _, World.drewN_drewN _ _ _⟩ | exact ⟨rfl, _, Eq.trans (World.drewN_drewN _ _ _) (congrArg (World.drewN _) (Nat.add_assoc _ _ _))⟩); obtain ⟨Ao87, co87, eo87⟩ := Kd.R_slice HO487.out; subst eo87; obtain ⟨Ao88, co88, eo88⟩ := Kd.R_slice HO492.out; subst eo88) | (go_at_call 44; (with_reducible refine (laws_sameInts.calls kj42 _ _ t483 _ _ t488 true _ ?side1 ?side2 ?side3 ?side4 A79.out).mono ?_); (case side1 => exact (Kd.R_reads' HO487.out).2.2); (case side2 => exact (Kd.R_reads' HO487.out).2.1); (case side3 => exact (Kd.R_reads' HO492.out).2.2); (case side4 => exact (Kd.R_reads' HO492.out).2.1); rintro e w' ⟨rfl, ⟨nd, rfl⟩⟩; (try first | exact ⟨rfl, _, World.drewN_drewN _ _ _⟩ | exact ⟨rfl, _, Eq.trans (World.drewN_drewN _ _ _) (congrArg (World.drewN _) (Nat.add_assoc _ _ _))⟩)))
                   repeat (go_quiet (first | (go_at_call 45; (with_reducible refine (spec_DrawFindKey.calls kj42 _ _ l1 t479 t480 _ ?side1 ?side2 A71.out).mono ?_); (case side1 => exact (Kd.C_below HR1.out HB.out)); (case side2 => exact HC1.out); rintro e w82 ⟨v481, rfl, ho0, hb⟩; have n0_ := Aside0.mk (Kd.S_lower ho0 (below_size (by repeat first | (with_reducible first | exact HB.out | apply q4_ | apply q5_ | apply q6_) | exact HB.out))); have n1_ := Aside0.mk (below_step (by repeat first | (with_reducible first | exact HB.out | apply q4_ | apply q5_ | apply q6_) | exact HB.out) hb); clear HB; have HO482 := n0_; have HB := n1_; clear n0_ n1_; (try clear hb); (try clear hk); (try clear hi); (try clear ho0); obtain ⟨Ao83, co83, eo83⟩ := Kd.S_slice HO482.out; subst eo83) | (go_at_call 25; (with_reducible refine (impl_FindKey.calls kj42 _ _ t479 t480 t483 t484 t485 _ ?side1 ?side2 A72.out).mono ?_); (case side1 => exact (Kd.S_reads' HO482.out).2.2); (case side2 => exact (Kd.S_reads' HO482.out).2.1); rintro e w84 ⟨v486, rfl, ho0, hb⟩; have n0_ := Aside0.mk (Kd.S_elder' HO482.out (Kd.R_base ho0) hb); have n1_ := Aside0.mk (Kd.R_lower ho0 (below_size (by repeat first | (with_reducible first | exact HB.out | apply q4_ | apply q5_ | apply q6_) | exact HB.out))); have n2_ := Aside0.mk (below_step (by repeat first | (with_reducible first | exact HB.out | apply q4_ | apply q5_ | apply q6_) | exact HB.out) hb); clear HO482; clear HB; have HO482 := n0_; have HO487 := n1_; have HB := n2_; clear n0_ n1_ n2_; (try clear hb); (try clear hk); (try clear hi); (try clear ho0)) | (go_at_call 24; (with_reducible refine (spec_FindKey.calls kj42 _ _ t479 t480 t488 t489 t490 _ ?side1 ?side2 A73.out).mono ?_); (case side1 => exact (Kd.S_reads' HO482.out).2.2); (case side2 => exact (Kd.S_reads' HO482.out).2.1); rintro e w85 ⟨v491, rfl, ho0, hb⟩; have n0_ := Aside0.mk (Kd.S_elder' HO482.out (Kd.R_base ho0) hb); have n1_ := Aside0.mk (Kd.R_elder' HO487.out (Kd.R_base ho0) hb); have n2_ := Aside0.mk (Kd.R_lower (Kd.R_new' ho0 (Kd.R_lt HO487.out)) (below_size (by repeat first | (with_reducible first | exact HB.out | apply q4_ | apply q5_ | apply q6_) | exact HB.out))); have n3_ := Aside0.mk (below_step (by repeat first | (with_reducible first | exact HB.out | apply q4_ | apply q5_ | apply q6_) | exact HB.out) hb); clear HO482; clear HO487; clear HB; have HO482 := n0_; have HO487 := n1_; have HO492 := n2_; have HB := n3_; clear n0_ n1_ n2_ n3_; (try clear hb); (try clear hk); (try clear hi); (try clear ho0)) | (go_at_call 46; (with_reducible refine (spec_DrawFirstUnlike.calls _ _ l1 t493 t494 _ ?side1 ?side2 A74.out).mono ?_); (case side1 => exact (Kd.C_below HR1.out HB.out)); (case side2 => exact HC1.out); rintro e w86 ⟨rfl, hb⟩; have n0_ := Aside0.mk (Kd.S_below HO482.out hb); have n1_ := Aside0.mk (Kd.R_below HO487.out hb); have n2_ := Aside0.mk (Kd.R_below HO492.out hb); have n3_ := Aside0.mk (below_step (by repeat first | (with_reducible first | exact HB.out | apply q4_ | apply q5_ | apply q6_) | exact HB.out) hb); clear HO482; clear HO487; clear HO492; clear HB; have HO482 := n0_; have HO487 := n1_; have HO492 := n2_; have HB := n3_; clear n0_ n1_ n2_ n3_; (try clear hb); (try clear hk); (try clear hi)) | (go_at_call 47; (with_reducible refine (impl_FirstUnlike.calls kj42 t493 t494 t495 t496 _ A75.out).mono ?_); rintro e w' ⟨rfl, ⟨nd, rfl⟩⟩; (try first | exact ⟨rfl, _, World.drewN_drewN _ _ _⟩ | exact ⟨rfl, _, Eq.trans (World.drewN_drewN _ _ _) (congrArg (World.drewN _) (Nat.add_assoc _ _ _))⟩)) | (go_at_call 48; (with_reducible refine (spec_FirstUnlike.calls kj42 t493 t494 t497 t498 _ A76.out).mono ?_); rintro e w' ⟨rfl, ⟨nd, rfl⟩⟩; (try first | exact ⟨rfl, _, World.drewN_drewN _ _ _⟩ | exact ⟨rfl, _, Eq.trans (World.drewN_drewN _ _ _) (congrArg (World.drewN _) (Nat.add_assoc _ _ _))⟩); obtain ⟨Ao87, co87, eo87⟩ := Kd.R_slice HO487.out; subst eo87; obtain ⟨Ao88, co88, eo88⟩ := Kd.R_slice HO492.out; subst eo88) | (go_at_call 44; (with_reducible refine (laws_sameInts.calls kj42 _ _ t483 _ _ t488 true _ ?side1 ?side2 ?side3 ?side4 A79.out).mono ?_); (case side1 => exact (Kd.R_reads' HO487.out).2.2); (case side2 => exact (Kd.R_reads' HO487.out).2.1); (case side3 => exact (Kd.R_reads' HO492.out).2.2); (case side4 => exact (Kd.R_reads' HO492.out).2.1); rintro e w' ⟨rfl, ⟨nd, rfl⟩⟩; (try first | exact ⟨rfl, _, World.drewN_drewN _ _ _⟩ | exact ⟨rfl, _, Eq.trans (World.drewN_drewN _ _ _) (congrArg (World.drewN _) (Nat.add_assoc _ _ _))⟩))); try go_wp2_with (first | (go_at_call 45; (with_reducible refine (spec_DrawFindKey.calls kj42 _ _ l1 t479 t480 _ ?side1 ?side2 A71.out).mono ?_); (case side1 => exact (Kd.C_below HR1.out HB.out)); (case side2 => exact HC1.out); rintro e w82 ⟨v481, rfl, ho0, hb⟩; have n0_ := Aside0.mk (Kd.S_lower ho0 (below_size (by repeat first | (with_reducible first | exact HB.out | apply q4_ | apply q5_ | apply q6_) | exact HB.out))); have n1_ := Aside0.mk (below_step (by repeat first | (with_reducible first | exact HB.out | apply q4_ | apply q5_ | apply q6_) | exact HB.out) hb); clear HB; have HO482 := n0_; have HB := n1_; clear n0_ n1_; (try clear hb); (try clear hk); (try clear hi); (try clear ho0); obtain ⟨Ao83, co83, eo83⟩ := Kd.S_slice HO482.out; subst eo83) | (go_at_call 25; (with_reducible refine (impl_FindKey.calls kj42 _ _ t479 t480 t483 t484 t485 _ ?side1 ?side2 A72.out).mono ?_); (case side1 => exact (Kd.S_reads' HO482.out).2.2); (case side2 => exact (Kd.S_reads' HO482.out).2.1); rintro e w84 ⟨v486, rfl, ho0, hb⟩; have n0_ := Aside0.mk (Kd.S_elder' HO482.out (Kd.R_base ho0) hb); have n1_ := Aside0.mk (Kd.R_lower ho0 (below_size (by repeat first | (with_reducible first | exact HB.out | apply q4_ | apply q5_ | apply q6_) | exact HB.out))); have n2_ := Aside0.mk (below_step (by repeat first | (with_reducible first | exact HB.out | apply q4_ | apply q5_ | apply q6_) | exact HB.out) hb); clear HO482; clear HB; have HO482 := n0_; have HO487 := n1_; have HB := n2_; clear n0_ n1_ n2_; (try clear hb); (try clear hk); (try clear hi); (try clear ho0)) | (go_at_call 24; (with_reducible refine (spec_FindKey.calls kj42 _ _ t479 t480 t488 t489 t490 _ ?side1 ?side2 A73.out).mono ?_); (case side1 => exact (Kd.S_reads' HO482.out).2.2); (case side2 => exact (Kd.S_reads' HO482.out).2.1); rintro e w85 ⟨v491, rfl, ho0, hb⟩; have n0_ := Aside0.mk (Kd.S_elder' HO482.out (Kd.R_base ho0) hb); have n1_ := Aside0.mk (Kd.R_elder' HO487.out (Kd.R_base ho0) hb); have n2_ := Aside0.mk (Kd.R_lower (Kd.R_new' ho0 (Kd.R_lt HO487.out)) (below_size (by repeat first | (with_reducible first | exact HB.out | apply q4_ | apply q5_ | apply q6_) | exact HB.out))); have n3_ := Aside0.mk (below_step (by repeat first | (with_reducible first | exact HB.out | apply q4_ | apply q5_ | apply q6_) | exact HB.out) hb); clear HO482; clear HO487; clear HB; have HO482 := n0_; have HO487 := n1_; have HO492 := n2_; have HB := n3_; clear n0_ n1_ n2_ n3_; (try clear hb); (try clear hk); (try clear hi); (try clear ho0)) | (go_at_call 46; (with_reducible refine (spec_DrawFirstUnlike.calls _ _ l1 t493 t494 _ ?side1 ?side2 A74.out).mono ?_); (case side1 => exact (Kd.C_below HR1.out HB.out)); (case side2 => exact HC1.out); rintro e w86 ⟨rfl, hb⟩; have n0_ := Aside0.mk (Kd.S_below HO482.out hb); have n1_ := Aside0.mk (Kd.R_below HO487.out hb); have n2_ := Aside0.mk (Kd.R_below HO492.out hb); have n3_ := Aside0.mk (below_step (by repeat first | (with_reducible first | exact HB.out | apply q4_ | apply q5_ | apply q6_) | exact HB.out) hb); clear HO482; clear HO487; clear HO492; clear HB; have HO482 := n0_; have HO487 := n1_; have HO492 := n2_; have HB := n3_; clear n0_ n1_ n2_ n3_; (try clear hb); (try clear hk); (try clear hi)) | (go_at_call 47; (with_reducible refine (impl_FirstUnlike.calls kj42 t493 t494 t495 t496 _ A75.out).mono ?_); rintro e w' ⟨rfl, ⟨nd, rfl⟩⟩; (try first | exact ⟨rfl, _, World.drewN_drewN _ _ _⟩ | exact ⟨rfl, _, Eq.trans (World.drewN_drewN _ _ _) (congrArg (World.drewN _) (Nat.add_assoc _ _ _))⟩)) | (go_at_call 48; (with_reducible refine (spec_FirstUnlike.calls kj42 t493 t494 t497 t498 _ A76.out).mono ?_); rintro e w' ⟨rfl, ⟨nd, rfl⟩⟩; (try first | exact ⟨rfl, _, World.drewN_drewN _ _ _⟩ | exact ⟨rfl, _, Eq.trans (World.drewN_drewN _ _ _) (congrArg (World.drewN _) (Nat.add_assoc _ _ _))⟩); obtain ⟨Ao87, co87, eo87⟩ := Kd.R_slice HO487.out; subst eo87; obtain ⟨Ao88, co88, eo88⟩ := Kd.R_slice HO492.out; subst eo88) | (go_at_call 44; (with_reducible refine (laws_sameInts.calls kj42 _ _ t483 _ _ t488 true _ ?side1 ?side2 ?side3 ?side4 A79.out).mono ?_); (case side1 => exact (Kd.R_reads' HO487.out).2.2); (case side2 => exact (Kd.R_reads' HO487.out).2.1); (case side3 => exact (Kd.R_reads' HO492.out).2.2); (case side4 => exact (Kd.R_reads' HO492.out).2.1); rintro e w' ⟨rfl, ⟨nd, rfl⟩⟩; (try first | exact ⟨rfl, _, World.drewN_drewN _ _ _⟩ | exact ⟨rfl, _, Eq.trans (World.drewN_drewN _ _ _) (congrArg (World.drewN _) (Nat.add_assoc _ _ _))⟩))))
                   go_ret
                   exact ⟨rfl, by repeat (first | (with_reducible first | exact HB.out | apply q4_ | apply q5_ | apply q6_) | exact HB.out)⟩
                 ·rw [if_neg c81] at H
                  have c81b0 : (t496 == t498) = false := by simpa using c81
                  (try (have c81b1 : decide (t496 = t498) = false := by simpa using c81))
                  (try (have c81b2 : (t496 == t498) = false := by simpa using c81))
                  (try (have c81b3 : ¬ (t496 = t498) := by simpa using c81))
                  clear c81
                  exact absurd ((Option.some.inj H).trans HR_.out) (by decide)
                ·replace c80 := Bool.eq_false_iff.mpr c80
                 subst c80
                 have H1 : (some false) = some r := by rw [if_neg (show ¬ (false = true) by decide)] at H; exact H
                 clear H
                 have H := H1
                 clear H1
                 exact absurd ((Option.some.inj H).trans HR_.out) (by decide)
               ·rw [if_neg c78] at H
                have c78b0 : (t484 == t489) = false := beq_eq_false_iff_ne.mpr c78
                have c78b1 : (t484 != t489) = true := bne_iff_ne.mpr c78
                exact absurd ((Option.some.inj H).trans HR_.out) (by decide)
              ·rw [if_neg c77] at H
               have c77b0 : (t485 == t490) = false := by simpa using c77
               (try (have c77b1 : decide (t485 = t490) = false := by simpa using c77))
               (try (have c77b2 : (t485 == t490) = false := by simpa using c77))
               (try (have c77b3 : ¬ (t485 = t490) := by simpa using c77))
               clear c77
               exact absurd ((Option.some.inj H).trans HR_.out) (by decide)
/-- THE ONE PURE STATEMENT of laws_FnFound: yours. -/
def laws_FnFound.Pure : Prop := ∀ (l0 : List Int) (l1 : List Int), l0.length ≤ maxLen → l0.length * 1 ≤ 140737488351232 → (∀ x ∈ l0, (Lit.int .u8 x).wf = true) → l1.length ≤ maxLen → l1.length * 1 ≤ 140737488351232 → (∀ x ∈ l1, (Lit.int .u8 x).wf = true) → ∃ k, laws_FnFound.f k l0 l1 = some true
theorem laws_FnFound.walk (P : laws_FnFound.Pure) (a0 : Option Addr) (len0 cap0 : Nat) (z0 : List Int) (a1 : Option Addr) (len1 cap1 : Nat) (z1 : List Int) (w : World) (w0 : (a0 = none ∧ len0 = 0 ∧ cap0 = 0 ∧ z0 = []) ∨ ∃ x, a0 = some x ∧ len0 ≤ cap0 ∧ cap0 ≤ maxLen ∧ z0.length = cap0 ∧ (∀ i, i < z0.length → w.cell? (x.add i) = some (.int .u8 (z0.getD i 0))) ∧ ∀ n ∈ z0, (Lit.int .u8 n).wf = true) (y0 : len0 * 1 ≤ 140737488351232) (w1 : (a1 = none ∧ len1 = 0 ∧ cap1 = 0 ∧ z1 = []) ∨ ∃ x, a1 = some x ∧ len1 ≤ cap1 ∧ cap1 ≤ maxLen ∧ z1.length = cap1 ∧ (∀ i, i < z1.length → w.cell? (x.add i) = some (.int .u8 (z1.getD i 0))) ∧ ∀ n ∈ z1, (Lit.int .u8 n).wf = true) (y1 : len1 * 1 ≤ 140737488351232) :
  Calls Try.prog 10 #[.slice a0 len0 cap0, .slice a1 len1 cap1] w fun e w' => e = .returned (.bool true) ∧ Below w.heap.size w w' := by
 obtain ⟨l0, rfl, hr0, hm0, hw0, hc0⟩ := ReadsInt.ofRowC w0
 obtain ⟨l1, rfl, hr1, hm1, hw1, hc1⟩ := ReadsInt.ofRowC w1
 obtain ⟨k, h⟩ := P l0 l1 hm0 y0 hw0 hm1 y1 hw1
 refine (laws_FnFound.calls k _ _ l0 _ _ l1 true w rfl (Kd.C_of_reads (d := (0 : Int)) (h1 := fun _ => rfl) hr0) hc0 (Kd.C_of_reads (d := (0 : Int)) (h1 := fun _ => rfl) hr1) hc1 h).mono ?_
 rintro e w' ⟨rfl, hd⟩
 exact ⟨rfl, hd⟩
end
end Go.Proofs.Ytkkphbjemnifiaa.PFnFound
