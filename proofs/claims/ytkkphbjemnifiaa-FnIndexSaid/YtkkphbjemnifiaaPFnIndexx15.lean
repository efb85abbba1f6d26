-- Printed for this claim by a changed copy of the kit's printing program (wip/tools/patch_print.py); Lean checks it.
import Derived.Test.YtkkphbjemnifiaaPFnIndexx0
import Derived.Test.YtkkphbjemnifiaaPFnIndexx5
import Derived.Test.YtkkphbjemnifiaaPFnIndexx9
import Derived.Test.YtkkphbjemnifiaaPFnIndexx10
import Derived.Test.YtkkphbjemnifiaaPFnIndexx11
import Derived.Test.YtkkphbjemnifiaaPFnIndexx12
import Derived.Test.YtkkphbjemnifiaaPFnIndexx13
import Derived.Test.YtkkphbjemnifiaaPFnIndexx14
namespace Go.Proofs.Ytkkphbjemnifiaa.PFnIndex
open Go.RowKit Go.Proofs.YtkkphbjemnifiaaW.PrintWords Go.Proofs.YtkkphbjemnifiaaW.PrintLast Go.Proofs.YtkkphbjemnifiaaW.PrintMore
attribute [local go_sem] max2_int min2_int max_two min_two max_three min_three max_four min_four   -- for this text's walks alone
set_option linter.unusedVariables false
set_option linter.unusedSimpArgs false
noncomputable section
/-! ### laws_FnIndex: function 9 -/
mutual
def laws_FnIndex.j0 : Nat → List Int → List (S51) → List (S74) → Bool → Bool → Option (Bool)
 | 0, _, _, _, _, _ => none
 | k + 1, x1, x5, x6, x7, x65 => if x65 = true then (some false) else (if x7 = true then (laws_FnIndex.l0 k x1 x5 x6 ([] : List (S51)) (wrap64 ((x5.length : Int) - 1))) else (laws_FnIndex.j7 k x1))
def laws_FnIndex.j7 : Nat → List Int → Option (Bool)
 | 0, _ => none
 | k + 1, x1 => (spec_DrawPutPair.f k x1).bind fun bt460 => ((impl_PutPair.f k bt460.1 bt460.2.1 bt460.2.2).bind fun bt466 => ((spec_PutPair.f k bt460.1 bt460.2.1 bt460.2.2).bind fun bt470 => (if (bt466.2 != bt470.2) = true then (laws_FnIndex.j8 k bt466.1 bt466.2 true bt460.2.1 bt460.2.2) else ((laws_sameForks.f k bt466.1 bt470.1).bind fun t474 => (if t474 = true then ((impl_GoodIndex.f k bt460.1).bind fun t475 => ((spec_GoodIndex.f k bt460.1).bind fun t476 => (laws_FnIndex.j8 k bt466.1 bt466.2 (t475 != t476) bt460.2.1 bt460.2.2))) else (laws_FnIndex.j8 k bt466.1 bt466.2 true bt460.2.1 bt460.2.2))))))
def laws_FnIndex.j8 : Nat → List (S74) → Bool → Bool → ByteArray → Int → Option (Bool)
 | 0, _, _, _, _, _ => none
 | k + 1, x26, x27, x203, x466000, x466001 => if x203 = true then (some false) else (if x27 = true then ((impl_FindKey.f k x26 x466000).bind fun bt477 => (if bt477.2.2 = true then ((laws_has.f k bt477.1 x466001).bind fun t482 => (some t482)) else (some false))) else (some true))
def laws_FnIndex.l0 : Nat → List Int → List (S51) → List (S74) → List (S51) → Int → Option (Bool)
 | 0, _, _, _, _, _ => none
 | k + 1, x1, x5, x6, x10, x11 => if x11 ≥ 0 then (if 0 ≤ x11 then (if x11 < (x5.length : Int) then (if x10.length < 5864062014805 then (laws_FnIndex.l0 k x1 x5 x6 (x10 ++ [(⟨(rd_T51 x5 x11).f0, (rd_T51 x5 x11).f1⟩ : S51)]) (wrap64 (x11 - 1))) else (none)) else (none)) else (none)) else ((impl_IndexOf.f k x10).bind fun bt442 => ((impl_GoodIndex.f k x6).bind fun t446 => (if t446 = true then (if bt442.2 = true then ((laws_sameForks.f k bt442.1 x6).bind fun t447 => (laws_FnIndex.j2 k x1 x5 x6 (!t447))) else (laws_FnIndex.j2 k x1 x5 x6 true)) else (laws_FnIndex.j2 k x1 x5 x6 true))))
def laws_FnIndex.j2 : Nat → List Int → List (S51) → List (S74) → Bool → Option (Bool)
 | 0, _, _, _, _ => none
 | k + 1, x1, x5, x6, x98 => if x98 = true then (some false) else (laws_FnIndex.l1 k x1 x5 x6 x5 (x5.length : Int) 0)
def laws_FnIndex.l1 : Nat → List Int → List (S51) → List (S74) → List (S51) → Int → Int → Option (Bool)
 | 0, _, _, _, _, _, _ => none
 | k + 1, x1, x5, x6, x99, x100, x101 => if x101 < x100 then (if 0 ≤ x101 then (if x101 < (x99.length : Int) then ((impl_FindKey.f k x6 ((rd_T51 x99 x101).f0)).bind fun bt450 => (if bt450.2.2 = true then ((laws_has.f k bt450.1 ((rd_T51 x99 x101).f1)).bind fun t455 => (if t455 = true then (laws_FnIndex.j4 k x1 x5 x6 bt450.1 x99 x100 x101 (decide (bt450.2.1 > 32)) ((rd_T51 x99 x101).f0) ((rd_T51 x99 x101).f1)) else (laws_FnIndex.j4 k x1 x5 x6 bt450.1 x99 x100 x101 true ((rd_T51 x99 x101).f0) ((rd_T51 x99 x101).f1)))) else (laws_FnIndex.j4 k x1 x5 x6 bt450.1 x99 x100 x101 true ((rd_T51 x99 x101).f0) ((rd_T51 x99 x101).f1)))) else (none)) else (none)) else (laws_FnIndex.j7 k x1)
def laws_FnIndex.j4 : Nat → List Int → List (S51) → List (S74) → List Int → List (S51) → Int → Int → Bool → ByteArray → Int → Option (Bool)
 | 0, _, _, _, _, _, _, _, _, _, _ => none
 | k + 1, x1, x5, x6, x16, x99, x100, x101, x125, x450000, x450001 => if x125 = true then (some false) else (laws_FnIndex.l2 k x1 x5 x6 x16 x99 x100 x101 x16 (x16.length : Int) 0 x450000 x450001)
def laws_FnIndex.l2 : Nat → List Int → List (S51) → List (S74) → List Int → List (S51) → Int → Int → List Int → Int → Int → ByteArray → Int → Option (Bool)
 | 0, _, _, _, _, _, _, _, _, _, _, _, _ => none
 | k + 1, x1, x5, x6, x16, x99, x100, x101, x126, x127, x128, x450000, x450001 => if x128 < x127 then (if 0 ≤ x128 then (if x128 < (x126.length : Int) then (laws_FnIndex.l3 k x1 x5 x6 x16 x128 (rd x126 x128) false x99 x100 x101 x126 x127 x128 x5 (x5.length : Int) 0 x450000 x450001) else (none)) else (none)) else (laws_FnIndex.l1 k x1 x5 x6 x99 x100 (wrap64 (x101 + 1)))
def laws_FnIndex.l3 : Nat → List Int → List (S51) → List (S74) → List Int → Int → Int → Bool → List (S51) → Int → Int → List Int → Int → Int → List (S51) → Int → Int → ByteArray → Int → Option (Bool)
 | 0, _, _, _, _, _, _, _, _, _, _, _, _, _, _, _, _, _, _ => none
 | k + 1, x1, x5, x6, x16, x19, x20, x21, x99, x100, x101, x126, x127, x128, x133, x134, x135, x450000, x450001 => if x135 < x134 then (if 0 ≤ x135 then (if x135 < (x133.length : Int) then (if x21 = true then (laws_FnIndex.l3 k x1 x5 x6 x16 x19 x20 true x99 x100 x101 x126 x127 x128 x133 x134 (wrap64 (x135 + 1)) x450000 x450001) else (if ((rd_T51 x133 x135).f0).toList = x450000.toList then (laws_FnIndex.l3 k x1 x5 x6 x16 x19 x20 (((rd_T51 x133 x135).f1) == x20) x99 x100 x101 x126 x127 x128 x133 x134 (wrap64 (x135 + 1)) x450000 x450001) else (laws_FnIndex.l3 k x1 x5 x6 x16 x19 x20 false x99 x100 x101 x126 x127 x128 x133 x134 (wrap64 (x135 + 1)) x450000 x450001))) else (none)) else (none)) else (if x21 = true then (if x19 > 0 then (if 0 ≤ (wrap64 (x19 - 1)) then (if (wrap64 (x19 - 1)) < (x16.length : Int) then (if (rd x16 (wrap64 (x19 - 1))) ≥ x20 then (some false) else (laws_FnIndex.l2 k x1 x5 x6 x16 x99 x100 x101 x126 x127 (wrap64 (x128 + 1)) x450000 x450001)) else (none)) else (none)) else (laws_FnIndex.l2 k x1 x5 x6 x16 x99 x100 x101 x126 x127 (wrap64 (x128 + 1)) x450000 x450001)) else (some false))
end
def laws_FnIndex.f (k : Nat) (l0 : List Int) (l1 : List Int) : Option (Bool) := if (wrap64 ((l0.length : Int) + (l1.length : Int))) > 1048576 then (some true) else ((spec_DrawIndexOf.f k l0).bind fun t425 => ((impl_IndexOf.f k t425).bind fun bt428 => ((spec_IndexOf.f k t425).bind fun bt432 => (if (bt428.2 != bt432.2) = true then (laws_FnIndex.j0 k l1 t425 bt428.1 bt428.2 true) else ((laws_sameForks.f k bt428.1 bt432.1).bind fun t436 => (if t436 = true then ((impl_GoodPairs.f k t425).bind fun t437 => (laws_FnIndex.j0 k l1 t425 bt428.1 bt428.2 (t437 != bt432.2))) else (laws_FnIndex.j0 k l1 t425 bt428.1 bt428.2 true)))))))
theorem laws_FnIndex.mono_l : ∀ k, (∀ y0 y1 y2 y3 y4, LeO (laws_FnIndex.j0 k y0 y1 y2 y3 y4) (laws_FnIndex.j0 (k + 1) y0 y1 y2 y3 y4)) ∧ (∀ y0, LeO (laws_FnIndex.j7 k y0) (laws_FnIndex.j7 (k + 1) y0)) ∧ (∀ y0 y1 y2 y3 y4, LeO (laws_FnIndex.j8 k y0 y1 y2 y3 y4) (laws_FnIndex.j8 (k + 1) y0 y1 y2 y3 y4)) ∧ (∀ y0 y1 y2 y3 y4, LeO (laws_FnIndex.l0 k y0 y1 y2 y3 y4) (laws_FnIndex.l0 (k + 1) y0 y1 y2 y3 y4)) ∧ (∀ y0 y1 y2 y3, LeO (laws_FnIndex.j2 k y0 y1 y2 y3) (laws_FnIndex.j2 (k + 1) y0 y1 y2 y3)) ∧ (∀ y0 y1 y2 y3 y4 y5, LeO (laws_FnIndex.l1 k y0 y1 y2 y3 y4 y5) (laws_FnIndex.l1 (k + 1) y0 y1 y2 y3 y4 y5)) ∧ (∀ y0 y1 y2 y3 y4 y5 y6 y7 y8 y9, LeO (laws_FnIndex.j4 k y0 y1 y2 y3 y4 y5 y6 y7 y8 y9) (laws_FnIndex.j4 (k + 1) y0 y1 y2 y3 y4 y5 y6 y7 y8 y9)) ∧ (∀ y0 y1 y2 y3 y4 y5 y6 y7 y8 y9 y10 y11, LeO (laws_FnIndex.l2 k y0 y1 y2 y3 y4 y5 y6 y7 y8 y9 y10 y11) (laws_FnIndex.l2 (k + 1) y0 y1 y2 y3 y4 y5 y6 y7 y8 y9 y10 y11)) ∧ (∀ y0 y1 y2 y3 y4 y5 y6 y7 y8 y9 y10 y11 y12 y13 y14 y15 y16 y17, LeO (laws_FnIndex.l3 k y0 y1 y2 y3 y4 y5 y6 y7 y8 y9 y10 y11 y12 y13 y14 y15 y16 y17) (laws_FnIndex.l3 (k + 1) y0 y1 y2 y3 y4 y5 y6 y7 y8 y9 y10 y11 y12 y13 y14 y15 y16 y17))
 | 0 => ⟨fun _ _ _ _ _ r h => by simp [laws_FnIndex.j0] at h, fun _ r h => by simp [laws_FnIndex.j7] at h, fun _ _ _ _ _ r h => by simp [laws_FnIndex.j8] at h, fun _ _ _ _ _ r h => by simp [laws_FnIndex.l0] at h, fun _ _ _ _ r h => by simp [laws_FnIndex.j2] at h, fun _ _ _ _ _ _ r h => by simp [laws_FnIndex.l1] at h, fun _ _ _ _ _ _ _ _ _ _ r h => by simp [laws_FnIndex.j4] at h, fun _ _ _ _ _ _ _ _ _ _ _ _ r h => by simp [laws_FnIndex.l2] at h, fun _ _ _ _ _ _ _ _ _ _ _ _ _ _ _ _ _ _ r h => by simp [laws_FnIndex.l3] at h⟩
 | k + 1 => by
  obtain ⟨ih0, ih1, ih2, ih3, ih4, ih5, ih6, ih7, ih8⟩ := laws_FnIndex.mono_l k
  refine ⟨?_, ?_, ?_, ?_, ?_, ?_, ?_, ?_, ?_⟩
  ·intro y0 y1 y2 y3 y4
   unfold laws_FnIndex.j0
   repeat' first
   | (with_reducible exact ih0 _ _ _ _ _)
   | (with_reducible exact ih1 _)
   | (with_reducible exact ih2 _ _ _ _ _)
   | (with_reducible exact ih3 _ _ _ _ _)
   | (with_reducible exact ih4 _ _ _ _)
   | (with_reducible exact ih5 _ _ _ _ _ _)
   | (with_reducible exact ih6 _ _ _ _ _ _ _ _ _ _)
   | (with_reducible exact ih7 _ _ _ _ _ _ _ _ _ _ _ _)
   | (with_reducible exact ih8 _ _ _ _ _ _ _ _ _ _ _ _ _ _ _ _ _ _)
   | (with_reducible exact impl_FindKey.mono _ _ _)
   | (with_reducible exact impl_GoodIndex.mono _ _)
   | (with_reducible exact impl_GoodPairs.mono _ _)
   | (with_reducible exact impl_IndexOf.mono _ _)
   | (with_reducible exact impl_PutPair.mono _ _ _ _)
   | (with_reducible exact laws_has.mono _ _ _)
   | (with_reducible exact laws_sameForks.mono _ _ _)
   | (with_reducible exact spec_DrawIndexOf.mono _ _)
   | (with_reducible exact spec_DrawPutPair.mono _ _)
   | (with_reducible exact spec_GoodIndex.mono _ _)
   | (with_reducible exact spec_IndexOf.mono _ _)
   | (with_reducible exact spec_PutPair.mono _ _ _ _)
   | (with_reducible exact LeO.refl _)
   | (with_reducible exact LeO.none _)
   | (with_reducible refine LeO.ite ?_ ?_)
   | (with_reducible refine LeO.bind ?_ (fun _ => ?_))
   | exact LeO.none _
   | refine LeO.ite ?_ ?_
   | refine LeO.bind ?_ (fun _ => ?_)
  ·intro y0
   unfold laws_FnIndex.j7
   repeat' first
   | (with_reducible exact ih0 _ _ _ _ _)
   | (with_reducible exact ih1 _)
   | (with_reducible exact ih2 _ _ _ _ _)
   | (with_reducible exact ih3 _ _ _ _ _)
   | (with_reducible exact ih4 _ _ _ _)
   | (with_reducible exact ih5 _ _ _ _ _ _)
   | (with_reducible exact ih6 _ _ _ _ _ _ _ _ _ _)
   | (with_reducible exact ih7 _ _ _ _ _ _ _ _ _ _ _ _)
   | (with_reducible exact ih8 _ _ _ _ _ _ _ _ _ _ _ _ _ _ _ _ _ _)
   | (with_reducible exact impl_FindKey.mono _ _ _)
   | (with_reducible exact impl_GoodIndex.mono _ _)
   | (with_reducible exact impl_GoodPairs.mono _ _)
   | (with_reducible exact impl_IndexOf.mono _ _)
   | (with_reducible exact impl_PutPair.mono _ _ _ _)
   | (with_reducible exact laws_has.mono _ _ _)
   | (with_reducible exact laws_sameForks.mono _ _ _)
   | (with_reducible exact spec_DrawIndexOf.mono _ _)
   | (with_reducible exact spec_DrawPutPair.mono _ _)
   | (with_reducible exact spec_GoodIndex.mono _ _)
   | (with_reducible exact spec_IndexOf.mono _ _)
   | (with_reducible exact spec_PutPair.mono _ _ _ _)
   | (with_reducible exact LeO.refl _)
   | (with_reducible exact LeO.none _)
   | (with_reducible refine LeO.ite ?_ ?_)
   | (with_reducible refine LeO.bind ?_ (fun _ => ?_))
   | exact LeO.none _
   | refine LeO.ite ?_ ?_
   | refine LeO.bind ?_ (fun _ => ?_)
  ·intro y0 y1 y2 y3 y4
   unfold laws_FnIndex.j8
   repeat' first
   | (with_reducible exact ih0 _ _ _ _ _)
   | (with_reducible exact ih1 _)
   | (with_reducible exact ih2 _ _ _ _ _)
   | (with_reducible exact ih3 _ _ _ _ _)
   | (with_reducible exact ih4 _ _ _ _)
   | (with_reducible exact ih5 _ _ _ _ _ _)
   | (with_reducible exact ih6 _ _ _ _ _ _ _ _ _ _)
   | (with_reducible exact ih7 _ _ _ _ _ _ _ _ _ _ _ _)
   | (with_reducible exact ih8 _ _ _ _ _ _ _ _ _ _ _ _ _ _ _ _ _ _)
   | (with_reducible exact impl_FindKey.mono _ _ _)
   | (with_reducible exact impl_GoodIndex.mono _ _)
   | (with_reducible exact impl_GoodPairs.mono _ _)
   | (with_reducible exact impl_IndexOf.mono _ _)
   | (with_reducible exact impl_PutPair.mono _ _ _ _)
   | (with_reducible exact laws_has.mono _ _ _)
   | (with_reducible exact laws_sameForks.mono _ _ _)
   | (with_reducible exact spec_DrawIndexOf.mono _ _)
   | (with_reducible exact spec_DrawPutPair.mono _ _)
   | (with_reducible exact spec_GoodIndex.mono _ _)
   | (with_reducible exact spec_IndexOf.mono _ _)
   | (with_reducible exact spec_PutPair.mono _ _ _ _)
   | (with_reducible exact LeO.refl _)
   | (with_reducible exact LeO.none _)
   | (with_reducible refine LeO.ite ?_ ?_)
   | (with_reducible refine LeO.bind ?_ (fun _ => ?_))
   | exact LeO.none _
   | refine LeO.ite ?_ ?_
   | refine LeO.bind ?_ (fun _ => ?_)
  ·intro y0 y1 y2 y3 y4
   unfold laws_FnIndex.l0
   repeat' first
   | (with_reducible exact ih0 _ _ _ _ _)
   | (with_reducible exact ih1 _)
   | (with_reducible exact ih2 _ _ _ _ _)
   | (with_reducible exact ih3 _ _ _ _ _)
   | (with_reducible exact ih4 _ _ _ _)
   | (with_reducible exact ih5 _ _ _ _ _ _)
   | (with_reducible exact ih6 _ _ _ _ _ _ _ _ _ _)
   | (with_reducible exact ih7 _ _ _ _ _ _ _ _ _ _ _ _)
   | (with_reducible exact ih8 _ _ _ _ _ _ _ _ _ _ _ _ _ _ _ _ _ _)
   | (with_reducible exact impl_FindKey.mono _ _ _)
   | (with_reducible exact impl_GoodIndex.mono _ _)
   | (with_reducible exact impl_GoodPairs.mono _ _)
   | (with_reducible exact impl_IndexOf.mono _ _)
   | (with_reducible exact impl_PutPair.mono _ _ _ _)
   | (with_reducible exact laws_has.mono _ _ _)
   | (with_reducible exact laws_sameForks.mono _ _ _)
   | (with_reducible exact spec_DrawIndexOf.mono _ _)
   | (with_reducible exact spec_DrawPutPair.mono _ _)
   | (with_reducible exact spec_GoodIndex.mono _ _)
   | (with_reducible exact spec_IndexOf.mono _ _)
   | (with_reducible exact spec_PutPair.mono _ _ _ _)
   | (with_reducible exact LeO.refl _)
   | (with_reducible exact LeO.none _)
   | (with_reducible refine LeO.ite ?_ ?_)
   | (with_reducible refine LeO.bind ?_ (fun _ => ?_))
   | exact LeO.none _
   | refine LeO.ite ?_ ?_
   | refine LeO.bind ?_ (fun _ => ?_)
  ·intro y0 y1 y2 y3
   unfold laws_FnIndex.j2
   repeat' first
   | (with_reducible exact ih0 _ _ _ _ _)
   | (with_reducible exact ih1 _)
   | (with_reducible exact ih2 _ _ _ _ _)
   | (with_reducible exact ih3 _ _ _ _ _)
   | (with_reducible exact ih4 _ _ _ _)
   | (with_reducible exact ih5 _ _ _ _ _ _)
   | (with_reducible exact ih6 _ _ _ _ _ _ _ _ _ _)
   | (with_reducible exact ih7 _ _ _ _ _ _ _ _ _ _ _ _)
   | (with_reducible exact ih8 _ _ _ _ _ _ _ _ _ _ _ _ _ _ _ _ _ _)
   | (with_reducible exact impl_FindKey.mono _ _ _)
   | (with_reducible exact impl_GoodIndex.mono _ _)
   | (with_reducible exact impl_GoodPairs.mono _ _)
   | (with_reducible exact impl_IndexOf.mono _ _)
   | (with_reducible exact impl_PutPair.mono _ _ _ _)
   | (with_reducible exact laws_has.mono _ _ _)
   | (with_reducible exact laws_sameForks.mono _ _ _)
   | (with_reducible exact spec_DrawIndexOf.mono _ _)
   | (with_reducible exact spec_DrawPutPair.mono _ _)
   | (with_reducible exact spec_GoodIndex.mono _ _)
   | (with_reducible exact spec_IndexOf.mono _ _)
   | (with_reducible exact spec_PutPair.mono _ _ _ _)
   | (with_reducible exact LeO.refl _)
   | (with_reducible exact LeO.none _)
   | (with_reducible refine LeO.ite ?_ ?_)
   | (with_reducible refine LeO.bind ?_ (fun _ => ?_))
   | exact LeO.none _
   | refine LeO.ite ?_ ?_
   | refine LeO.bind ?_ (fun _ => ?_)
  ·intro y0 y1 y2 y3 y4 y5
   unfold laws_FnIndex.l1
   repeat' first
   | (with_reducible exact ih0 _ _ _ _ _)
   | (with_reducible exact ih1 _)
   | (with_reducible exact ih2 _ _ _ _ _)
   | (with_reducible exact ih3 _ _ _ _ _)
   | (with_reducible exact ih4 _ _ _ _)
   | (with_reducible exact ih5 _ _ _ _ _ _)
   | (with_reducible exact ih6 _ _ _ _ _ _ _ _ _ _)
   | (with_reducible exact ih7 _ _ _ _ _ _ _ _ _ _ _ _)
   | (with_reducible exact ih8 _ _ _ _ _ _ _ _ _ _ _ _ _ _ _ _ _ _)
   | (with_reducible exact impl_FindKey.mono _ _ _)
   | (with_reducible exact impl_GoodIndex.mono _ _)
   | (with_reducible exact impl_GoodPairs.mono _ _)
   | (with_reducible exact impl_IndexOf.mono _ _)
   | (with_reducible exact impl_PutPair.mono _ _ _ _)
   | (with_reducible exact laws_has.mono _ _ _)
   | (with_reducible exact laws_sameForks.mono _ _ _)
   | (with_reducible exact spec_DrawIndexOf.mono _ _)
   | (with_reducible exact spec_DrawPutPair.mono _ _)
   | (with_reducible exact spec_GoodIndex.mono _ _)
   | (with_reducible exact spec_IndexOf.mono _ _)
   | (with_reducible exact spec_PutPair.mono _ _ _ _)
   | (with_reducible exact LeO.refl _)
   | (with_reducible exact LeO.none _)
   | (with_reducible refine LeO.ite ?_ ?_)
   | (with_reducible refine LeO.bind ?_ (fun _ => ?_))
   | exact LeO.none _
   | refine LeO.ite ?_ ?_
   | refine LeO.bind ?_ (fun _ => ?_)
  ·intro y0 y1 y2 y3 y4 y5 y6 y7 y8 y9
   unfold laws_FnIndex.j4
   repeat' first
   | (with_reducible exact ih0 _ _ _ _ _)
   | (with_reducible exact ih1 _)
   | (with_reducible exact ih2 _ _ _ _ _)
   | (with_reducible exact ih3 _ _ _ _ _)
   | (with_reducible exact ih4 _ _ _ _)
   | (with_reducible exact ih5 _ _ _ _ _ _)
   | (with_reducible exact ih6 _ _ _ _ _ _ _ _ _ _)
   | (with_reducible exact ih7 _ _ _ _ _ _ _ _ _ _ _ _)
   | (with_reducible exact ih8 _ _ _ _ _ _ _ _ _ _ _ _ _ _ _ _ _ _)
   | (with_reducible exact impl_FindKey.mono _ _ _)
   | (with_reducible exact impl_GoodIndex.mono _ _)
   | (with_reducible exact impl_GoodPairs.mono _ _)
   | (with_reducible exact impl_IndexOf.mono _ _)
   | (with_reducible exact impl_PutPair.mono _ _ _ _)
   | (with_reducible exact laws_has.mono _ _ _)
   | (with_reducible exact laws_sameForks.mono _ _ _)
   | (with_reducible exact spec_DrawIndexOf.mono _ _)
   | (with_reducible exact spec_DrawPutPair.mono _ _)
   | (with_reducible exact spec_GoodIndex.mono _ _)
   | (with_reducible exact spec_IndexOf.mono _ _)
   | (with_reducible exact spec_PutPair.mono _ _ _ _)
   | (with_reducible exact LeO.refl _)
   | (with_reducible exact LeO.none _)
   | (with_reducible refine LeO.ite ?_ ?_)
   | (with_reducible refine LeO.bind ?_ (fun _ => ?_))
   | exact LeO.none _
   | refine LeO.ite ?_ ?_
   | refine LeO.bind ?_ (fun _ => ?_)
  ·intro y0 y1 y2 y3 y4 y5 y6 y7 y8 y9 y10 y11
   unfold laws_FnIndex.l2
   repeat' first
   | (with_reducible exact ih0 _ _ _ _ _)
   | (with_reducible exact ih1 _)
   | (with_reducible exact ih2 _ _ _ _ _)
   | (with_reducible exact ih3 _ _ _ _ _)
   | (with_reducible exact ih4 _ _ _ _)
   | (with_reducible exact ih5 _ _ _ _ _ _)
   | (with_reducible exact ih6 _ _ _ _ _ _ _ _ _ _)
   | (with_reducible exact ih7 _ _ _ _ _ _ _ _ _ _ _ _)
   | (with_reducible exact ih8 _ _ _ _ _ _ _ _ _ _ _ _ _ _ _ _ _ _)
   | (with_reducible exact impl_FindKey.mono _ _ _)
   | (with_reducible exact impl_GoodIndex.mono _ _)
   | (with_reducible exact impl_GoodPairs.mono _ _)
   | (with_reducible exact impl_IndexOf.mono _ _)
   | (with_reducible exact impl_PutPair.mono _ _ _ _)
   | (with_reducible exact laws_has.mono _ _ _)
   | (with_reducible exact laws_sameForks.mono _ _ _)
   | (with_reducible exact spec_DrawIndexOf.mono _ _)
   | (with_reducible exact spec_DrawPutPair.mono _ _)
   | (with_reducible exact spec_GoodIndex.mono _ _)
   | (with_reducible exact spec_IndexOf.mono _ _)
   | (with_reducible exact spec_PutPair.mono _ _ _ _)
   | (with_reducible exact LeO.refl _)
   | (with_reducible exact LeO.none _)
   | (with_reducible refine LeO.ite ?_ ?_)
   | (with_reducible refine LeO.bind ?_ (fun _ => ?_))
   | exact LeO.none _
   | refine LeO.ite ?_ ?_
   | refine LeO.bind ?_ (fun _ => ?_)
  ·intro y0 y1 y2 y3 y4 y5 y6 y7 y8 y9 y10 y11 y12 y13 y14 y15 y16 y17
   unfold laws_FnIndex.l3
   repeat' first
   | (with_reducible exact ih0 _ _ _ _ _)
   | (with_reducible exact ih1 _)
   | (with_reducible exact ih2 _ _ _ _ _)
   | (with_reducible exact ih3 _ _ _ _ _)
   | (with_reducible exact ih4 _ _ _ _)
   | (with_reducible exact ih5 _ _ _ _ _ _)
   | (with_reducible exact ih6 _ _ _ _ _ _ _ _ _ _)
   | (with_reducible exact ih7 _ _ _ _ _ _ _ _ _ _ _ _)
   | (with_reducible exact ih8 _ _ _ _ _ _ _ _ _ _ _ _ _ _ _ _ _ _)
   | (with_reducible exact impl_FindKey.mono _ _ _)
   | (with_reducible exact impl_GoodIndex.mono _ _)
   | (with_reducible exact impl_GoodPairs.mono _ _)
   | (with_reducible exact impl_IndexOf.mono _ _)
   | (with_reducible exact impl_PutPair.mono _ _ _ _)
   | (with_reducible exact laws_has.mono _ _ _)
   | (with_reducible exact laws_sameForks.mono _ _ _)
   | (with_reducible exact spec_DrawIndexOf.mono _ _)
   | (with_reducible exact spec_DrawPutPair.mono _ _)
   | (with_reducible exact spec_GoodIndex.mono _ _)
   | (with_reducible exact spec_IndexOf.mono _ _)
   | (with_reducible exact spec_PutPair.mono _ _ _ _)
   | (with_reducible exact LeO.refl _)
   | (with_reducible exact LeO.none _)
   | (with_reducible refine LeO.ite ?_ ?_)
   | (with_reducible refine LeO.bind ?_ (fun _ => ?_))
   | exact LeO.none _
   | refine LeO.ite ?_ ?_
   | refine LeO.bind ?_ (fun _ => ?_)
theorem laws_FnIndex.mono : ∀ a0 a1 k, LeO (laws_FnIndex.f k a0 a1) (laws_FnIndex.f (k + 1) a0 a1) := by
 intro a0 a1 k
 obtain ⟨ih0, ih1, ih2, ih3, ih4, ih5, ih6, ih7, ih8⟩ := laws_FnIndex.mono_l k
 unfold laws_FnIndex.f
 repeat' first
   | (with_reducible exact ih0 _ _ _ _ _)
   | (with_reducible exact ih1 _)
   | (with_reducible exact ih2 _ _ _ _ _)
   | (with_reducible exact ih3 _ _ _ _ _)
   | (with_reducible exact ih4 _ _ _ _)
   | (with_reducible exact ih5 _ _ _ _ _ _)
   | (with_reducible exact ih6 _ _ _ _ _ _ _ _ _ _)
   | (with_reducible exact ih7 _ _ _ _ _ _ _ _ _ _ _ _)
   | (with_reducible exact ih8 _ _ _ _ _ _ _ _ _ _ _ _ _ _ _ _ _ _)
   | (with_reducible exact impl_FindKey.mono _ _ _)
   | (with_reducible exact impl_GoodIndex.mono _ _)
   | (with_reducible exact impl_GoodPairs.mono _ _)
   | (with_reducible exact impl_IndexOf.mono _ _)
   | (with_reducible exact impl_PutPair.mono _ _ _ _)
   | (with_reducible exact laws_has.mono _ _ _)
   | (with_reducible exact laws_sameForks.mono _ _ _)
   | (with_reducible exact spec_DrawIndexOf.mono _ _)
   | (with_reducible exact spec_DrawPutPair.mono _ _)
   | (with_reducible exact spec_GoodIndex.mono _ _)
   | (with_reducible exact spec_IndexOf.mono _ _)
   | (with_reducible exact spec_PutPair.mono _ _ _ _)
   | (with_reducible exact LeO.refl _)
   | (with_reducible exact LeO.none _)
   | (with_reducible refine LeO.ite ?_ ?_)
   | (with_reducible refine LeO.bind ?_ (fun _ => ?_))
   | exact LeO.none _
   | refine LeO.ite ?_ ?_
   | refine LeO.bind ?_ (fun _ => ?_)
set_option maxHeartbeats 8000000 in
set_option maxRecDepth 100000 in
theorem laws_FnIndex.calls (k : Nat) (A0 : Option Addr) (c0 : Nat) (l0 : List Int) (A1 : Option Addr) (c1 : Nat) (l1 : List Int) (r : Bool) (w : World) (hr_ : r = true) (hr0 : Kd.C (Kd.int .u8) w A0 l0.length l0) (hc0 : l0.length ≤ c0) (hr1 : Kd.C (Kd.int .u8) w A1 l1.length l1) (hc1 : l1.length ≤ c1) (h : laws_FnIndex.f k l0 l1 = some r) :
  Calls Try.prog 9 #[.slice A0 l0.length c0, .slice A1 l1.length c1] w fun e w' => e = .returned (.bool r) ∧ Below w.heap.size w w' := by
 have hu51 := Try.underlying51
 have HR_ := Aside0.mk hr_
 clear hr_
 have HR0 := Aside0.mk hr0
 have HC0 := Aside0.mk hc0
 clear hr0 hc0
 have HR1 := Aside0.mk hr1
 have HC1 := Aside0.mk hc1
 clear hr1 hc1
 have HB := Aside0.mk (Below.refl w.heap.size w)
 have H : (if (wrap64 ((l0.length : Int) + (l1.length : Int))) > 1048576 then (some true) else ((spec_DrawIndexOf.f k l0).bind fun t425 => ((impl_IndexOf.f k t425).bind fun bt428 => ((spec_IndexOf.f k t425).bind fun bt432 => (if (bt428.2 != bt432.2) = true then (laws_FnIndex.j0 k l1 t425 bt428.1 bt428.2 true) else ((laws_sameForks.f k bt428.1 bt432.1).bind fun t436 => (if t436 = true then ((impl_GoodPairs.f k t425).bind fun t437 => (laws_FnIndex.j0 k l1 t425 bt428.1 bt428.2 (t437 != bt432.2))) else (laws_FnIndex.j0 k l1 t425 bt428.1 bt428.2 true)))))))) = some r := h
 clear h
 by_cases c3 : (wrap64 ((l0.length : Int) + (l1.length : Int))) > 1048576
 ·rw [if_pos c3] at H
  have c3b0 : decide (1048576 < (wrap64 ((l0.length : Int) + (l1.length : Int)))) = true := decide_eq_true c3
  clear c3
  as_aux_lemma =>
   obtain rfl := Option.some.inj H
   go_enter Try.func9, Try.ntmps9
   go_wp2
   go_ret
   exact ⟨by first | rfl | (simp [errW_none, errW_some] <;> rfl) | (simp [*, errW_none, errW_some] <;> rfl), by repeat (first | (with_reducible first | exact HB.out | apply q4_ | apply q5_ | apply q6_) | exact HB.out)⟩
 ·rw [if_neg c3] at H
  have c3b0 : decide (1048576 < (wrap64 ((l0.length : Int) + (l1.length : Int)))) = false := decide_eq_false c3
  clear c3
  replace H := Option.bind_eq_some_iff.mp H
  obtain ⟨t425, A40, H⟩ := H
  replace H : ((impl_IndexOf.f k t425).bind fun bt428 => ((spec_IndexOf.f k t425).bind fun bt432 => (if (bt428.2 != bt432.2) = true then (laws_FnIndex.j0 k l1 t425 bt428.1 bt428.2 true) else ((laws_sameForks.f k bt428.1 bt432.1).bind fun t436 => (if t436 = true then ((impl_GoodPairs.f k t425).bind fun t437 => (laws_FnIndex.j0 k l1 t425 bt428.1 bt428.2 (t437 != bt432.2))) else (laws_FnIndex.j0 k l1 t425 bt428.1 bt428.2 true)))))) = some r := H
  have A4 := Aside0.mk A40
  clear A40
  replace H := Option.bind_eq_some_iff.mp H
  obtain ⟨⟨t428, t429⟩, A50, H⟩ := H
  replace H : ((spec_IndexOf.f k t425).bind fun bt432 => (if (t429 != bt432.2) = true then (laws_FnIndex.j0 k l1 t425 t428 t429 true) else ((laws_sameForks.f k t428 bt432.1).bind fun t436 => (if t436 = true then ((impl_GoodPairs.f k t425).bind fun t437 => (laws_FnIndex.j0 k l1 t425 t428 t429 (t437 != bt432.2))) else (laws_FnIndex.j0 k l1 t425 t428 t429 true))))) = some r := H
  have A5 := Aside0.mk A50
  clear A50
  replace H := Option.bind_eq_some_iff.mp H
  obtain ⟨⟨t432, t433⟩, A60, H⟩ := H
  replace H : (if (t429 != t433) = true then (laws_FnIndex.j0 k l1 t425 t428 t429 true) else ((laws_sameForks.f k t428 t432).bind fun t436 => (if t436 = true then ((impl_GoodPairs.f k t425).bind fun t437 => (laws_FnIndex.j0 k l1 t425 t428 t429 (t437 != t433))) else (laws_FnIndex.j0 k l1 t425 t428 t429 true)))) = some r := H
  have A6 := Aside0.mk A60
  clear A60
  have HC7 := Aside0.mk H
  clear H
  go_enter Try.func9, Try.ntmps9
  go_upto_region 6 with (first | ((with_reducible refine gate_callee (f := 38) rfl ?_); refine goesL_ (some 40) rfl rfl Try.func38 (by kernel_rfl) rfl #[.slice A0 l0.length c0] rfl (by simp only [List.map_toArray, List.map_cons, List.map_nil] <;> rfl) ?_; (with_reducible refine (spec_DrawIndexOf.calls k _ _ l0 t425 _ ?side1 ?side2 A4.out).mono ?_); (case side1 => repeat (first | exact HR0.out | (with_reducible refine Kd.C_alloc ?_ _) | (with_reducible refine Kd.C_drewN ?_ _) | (with_reducible refine Kd.C_drew ?_))); (case side2 => exact HC0.out); rintro e w8 ⟨v426, rfl, ho0, hb⟩; refine ⟨_, rfl, ?_⟩; have n0_ := Aside0.mk (Kd.R_lower ho0 (below_size (by repeat first | (with_reducible first | exact HB.out | apply q4_ | apply q5_ | apply q6_) | exact HB.out))); have n1_ := Aside0.mk (below_step (by repeat first | (with_reducible first | exact HB.out | apply q4_ | apply q5_ | apply q6_) | exact HB.out) hb); clear HB; have HO427 := n0_; have HB := n1_; clear n0_ n1_; (try clear hb); (try clear hk); (try clear hi); (try clear ho0); obtain ⟨Ao9, co9, eo9⟩ := Kd.R_slice HO427.out; subst eo9) | ((with_reducible refine gate_callee (f := 19) rfl ?_); refine goesL_ (some 43) rfl rfl Try.func19 (by kernel_rfl) rfl #[.slice Ao9 t425.length co9] rfl (by simp only [List.map_toArray, List.map_cons, List.map_nil] <;> rfl) ?_; (with_reducible refine (impl_IndexOf.calls k _ _ t425 t428 t429 _ ?side1 ?side2 A5.out).mono ?_); (case side1 => repeat (first | exact (Kd.R_reads' HO427.out).2.2 | (with_reducible refine Kd.C_alloc ?_ _) | (with_reducible refine Kd.C_drewN ?_ _) | (with_reducible refine Kd.C_drew ?_))); (case side2 => exact (Kd.R_reads' HO427.out).2.1); rintro e w10 ⟨v430, rfl, ho0, hb⟩; refine ⟨_, rfl, ?_⟩; have n0_ := Aside0.mk (Kd.R_below (by (with_reducible repeat (first | apply Kd.R_alloc | apply Kd.R_drewN | apply Kd.R_drew)); exact HO427.out) hb); have n1_ := Aside0.mk (Kd.S_lower ho0 (below_size (by repeat first | (with_reducible first | exact HB.out | apply q4_ | apply q5_ | apply q6_) | exact HB.out))); have n2_ := Aside0.mk (below_step (by repeat first | (with_reducible first | exact HB.out | apply q4_ | apply q5_ | apply q6_) | exact HB.out) hb); clear HO427; clear HB; have HO427 := n0_; have HO431 := n1_; have HB := n2_; clear n0_ n1_ n2_; (try clear hb); (try clear hk); (try clear hi); (try clear ho0)) | ((with_reducible refine gate_callee (f := 17) rfl ?_); refine goesL_ (some 48) rfl rfl Try.func17 (by kernel_rfl) rfl #[.slice Ao9 t425.length co9] rfl (by simp only [List.map_toArray, List.map_cons, List.map_nil] <;> rfl) ?_; (with_reducible refine (spec_IndexOf.calls k _ _ t425 t432 t433 _ ?side1 ?side2 A6.out).mono ?_); (case side1 => repeat (first | exact (Kd.R_reads' HO427.out).2.2 | (with_reducible refine Kd.C_alloc ?_ _) | (with_reducible refine Kd.C_drewN ?_ _) | (with_reducible refine Kd.C_drew ?_))); (case side2 => exact (Kd.R_reads' HO427.out).2.1); rintro e w11 ⟨v434, rfl, ho0, hb⟩; refine ⟨_, rfl, ?_⟩; have n0_ := Aside0.mk (Kd.R_below (by (with_reducible repeat (first | apply Kd.R_alloc | apply Kd.R_drewN | apply Kd.R_drew)); exact HO427.out) hb); have n1_ := Aside0.mk (Kd.S_elder' (by (with_reducible repeat (first | apply Kd.S_alloc | apply Kd.S_drewN | apply Kd.S_drew)); exact HO431.out) (Kd.S_base ho0) hb); have n2_ := Aside0.mk (Kd.S_lower (Kd.S_new' ho0 (Kd.S_lt (by (with_reducible repeat (first | apply Kd.S_alloc | apply Kd.S_drewN | apply Kd.S_drew)); exact HO431.out))) (below_size (by repeat first | (with_reducible first | exact HB.out | apply q4_ | apply q5_ | apply q6_) | exact HB.out))); have n3_ := Aside0.mk (below_step (by repeat first | (with_reducible first | exact HB.out | apply q4_ | apply q5_ | apply q6_) | exact HB.out) hb); clear HO427; clear HO431; clear HB; have HO427 := n0_; have HO431 := n1_; have HO435 := n2_; have HB := n3_; clear n0_ n1_ n2_ n3_; (try clear hb); (try clear hk); (try clear hi); (try clear ho0)))
  (try simp only [Act.put, List.setIfInBounds_toArray, List.set_cons_zero, List.set_cons_succ])
  go_cut [65] (fun v65 wc => ∃ (kq : Nat) (x65_6 : Bool), v65 = .bool x65_6 ∧ Aside0 (laws_FnIndex.j0 kq l1 t425 t428 t429 x65_6 = some r) ∧ Aside0 (kq ≤ k) ∧ Aside0 (Kd.R k51 51 wc w.heap.size (fun _ => True) (.slice Ao9 t425.length co9) t425) ∧ Aside0 (Kd.S k74 74 wc w.heap.size (fun _ => True) v430 t428) ∧ Aside0 (Below w.heap.size w wc))
  case first =>
   have H := HC7.out
   clear HC7
   by_cases c12 : (t429 != t433) = true
   ·rw [if_pos c12] at H
    have c12b0 : (t429 != t433) = true := c12
    (try (have c12b1 : decide (t429 = t433) = false := by simpa using c12))
    (try (have c12b2 : (t429 == t433) = false := by simpa using c12))
    (try (have c12b3 : ¬ (t429 = t433) := by simpa using c12))
    clear c12
    (first | rw [c12b0] | (simp only [i64_w, i32_w]; rw [c12b0]) | skip)
    exfalso
    cases k with
    | zero => exact absurd H (by simp [laws_FnIndex.j0])
    | succ kz_ => rw [laws_FnIndex.j0, if_pos rfl] at H; exact absurd ((Option.some.inj H).trans HR_.out) (by decide)
   ·rw [if_neg c12] at H
    have c12b0 : (t429 != t433) = false := by simpa using c12
    (try (have c12b1 : decide (t429 = t433) = true := by simpa using c12))
    (try (have c12b2 : (t429 == t433) = true := by simpa using c12))
    clear c12
    (first | rw [c12b0] | (simp only [i64_w, i32_w]; rw [c12b0]) | skip)
    replace H := Option.bind_eq_some_iff.mp H
    obtain ⟨t436, A130, H⟩ := H
    replace H : (if t436 = true then ((impl_GoodPairs.f k t425).bind fun t437 => (laws_FnIndex.j0 k l1 t425 t428 t429 (t437 != t433))) else (laws_FnIndex.j0 k l1 t425 t428 t429 true)) = some r := H
    have A13 := Aside0.mk A130
    clear A130
    by_cases c14 : t436 = true
    ·subst c14
     have H1 : ((impl_GoodPairs.f k t425).bind fun t437 => (laws_FnIndex.j0 k l1 t425 t428 t429 (t437 != t433))) = some r := by rw [if_pos rfl] at H; exact H
     clear H
     have H := H1
     clear H1
     replace H := Option.bind_eq_some_iff.mp H
     obtain ⟨t437, A150, H⟩ := H
     replace H : (laws_FnIndex.j0 k l1 t425 t428 t429 (t437 != t433)) = some r := H
     have A15 := Aside0.mk A150
     clear A150
     as_aux_lemma =>
      have H' := Aside0.mk H
      clear H
      obtain ⟨Ao16, co16, eo16⟩ := Kd.S_slice HO431.out
      subst eo16
      obtain ⟨Ao17, co17, eo17⟩ := Kd.S_slice HO435.out
      subst eo17
      go_wp2_with (first | (go_at_call 39; (with_reducible refine (laws_sameForks.calls k _ _ t428 _ _ t432 true _ ?side1 ?side2 ?side3 ?side4 A13.out).mono ?_); (case side1 => repeat (first | exact (Kd.S_reads' HO431.out).2.2 | (with_reducible refine Kd.C_alloc ?_ _) | (with_reducible refine Kd.C_drewN ?_ _) | (with_reducible refine Kd.C_drew ?_))); (case side2 => exact (Kd.S_reads' HO431.out).2.1); (case side3 => repeat (first | exact (Kd.S_reads' HO435.out).2.2 | (with_reducible refine Kd.C_alloc ?_ _) | (with_reducible refine Kd.C_drewN ?_ _) | (with_reducible refine Kd.C_drew ?_))); (case side4 => exact (Kd.S_reads' HO435.out).2.1); rintro e w18 ⟨rfl, hb⟩; have n0_ := Aside0.mk (Kd.R_below (by (with_reducible repeat (first | apply Kd.R_alloc | apply Kd.R_drewN | apply Kd.R_drew)); exact HO427.out) hb); have n1_ := Aside0.mk (Kd.S_below (by (with_reducible repeat (first | apply Kd.S_alloc | apply Kd.S_drewN | apply Kd.S_drew)); exact HO431.out) hb); have n2_ := Aside0.mk (Kd.S_below (by (with_reducible repeat (first | apply Kd.S_alloc | apply Kd.S_drewN | apply Kd.S_drew)); exact HO435.out) hb); have n3_ := Aside0.mk (below_step (by repeat first | (with_reducible first | exact HB.out | apply q4_ | apply q5_ | apply q6_) | exact HB.out) hb); clear HO427; clear HO431; clear HO435; clear HB; have HO427 := n0_; have HO431 := n1_; have HO435 := n2_; have HB := n3_; clear n0_ n1_ n2_ n3_; (try clear hb); (try clear hk); (try clear hi)) | (go_at_call 40; (with_reducible refine (impl_GoodPairs.calls k _ _ t425 t437 _ ?side1 ?side2 A15.out).mono ?_); (case side1 => repeat (first | exact (Kd.R_reads' HO427.out).2.2 | (with_reducible refine Kd.C_alloc ?_ _) | (with_reducible refine Kd.C_drewN ?_ _) | (with_reducible refine Kd.C_drew ?_))); (case side2 => exact (Kd.R_reads' HO427.out).2.1); rintro e w19 ⟨rfl, hb⟩; have n0_ := Aside0.mk (Kd.R_below (by (with_reducible repeat (first | apply Kd.R_alloc | apply Kd.R_drewN | apply Kd.R_drew)); exact HO427.out) hb); have n1_ := Aside0.mk (Kd.S_below (by (with_reducible repeat (first | apply Kd.S_alloc | apply Kd.S_drewN | apply Kd.S_drew)); exact HO431.out) hb); have n2_ := Aside0.mk (Kd.S_below (by (with_reducible repeat (first | apply Kd.S_alloc | apply Kd.S_drewN | apply Kd.S_drew)); exact HO435.out) hb); have n3_ := Aside0.mk (below_step (by repeat first | (with_reducible first | exact HB.out | apply q4_ | apply q5_ | apply q6_) | exact HB.out) hb); clear HO427; clear HO431; clear HO435; clear HB; have HO427 := n0_; have HO431 := n1_; have HO435 := n2_; have HB := n3_; clear n0_ n1_ n2_ n3_; (try clear hb); (try clear hk); (try clear hi)))
      go_meet
      case rel => exact ⟨_, ((t437 != t433)), (by first | rfl | (simp; done) | (simp [*]; done) | (simp; apply Bool.eq_iff_iff.mpr; simp only [bne_iff_ne, ne_eq, beq_iff_eq]; omega)), H', ⟨by first | omega | exact Nat.le_refl _⟩, ⟨by (with_reducible repeat (first | apply Kd.R_alloc | apply Kd.R_drewN | apply Kd.R_drew)); exact HO427.out⟩, ⟨by (with_reducible repeat (first | apply Kd.S_alloc | apply Kd.S_drewN | apply Kd.S_drew)); exact Kd.S_mono HO431.out (fun _ hk => trivial)⟩, ⟨by repeat (first | (with_reducible first | exact HB.out | apply q4_ | apply q5_ | apply q6_) | exact HB.out)⟩⟩
    ·replace c14 := Bool.eq_false_iff.mpr c14
     subst c14
     have H1 : (laws_FnIndex.j0 k l1 t425 t428 t429 true) = some r := by rw [if_neg (show ¬ (false = true) by decide)] at H; exact H
     clear H
     have H := H1
     clear H1
     exfalso
     cases k with
     | zero => exact absurd H (by simp [laws_FnIndex.j0])
     | succ kz_ => rw [laws_FnIndex.j0, if_pos rfl] at H; exact absurd ((Option.some.inj H).trans HR_.out) (by decide)
  case rest =>
   clear HC7
   try clear c1
   try clear p2
   try clear c3
   try clear c3b0
   try clear p6
   try clear c9
   try clear c12
   try clear c12b0
   try clear c12b1
   try clear c12b2
   try clear c14
   try clear c17
   try clear c19
   obtain ⟨kq, x65_6, rfl, HA, HJ6, HO_5, HO_6, HB⟩ := hcut
   cases kq with
   | zero => exact absurd HA.out (by simp [laws_FnIndex.j0])
   | succ kj6 =>
    have H := HA.out
    clear HA
    simp only [laws_FnIndex.j0] at H
    by_cases c20 : x65_6 = true
    ·subst c20
     have H1 : (some false) = some r := by rw [if_pos rfl] at H; exact H
     clear H
     have H := H1
     clear H1
     exact absurd ((Option.some.inj H).trans HR_.out) (by decide)
    ·replace c20 := Bool.eq_false_iff.mpr c20
     subst c20
     have H1 : (if t429 = true then (laws_FnIndex.l0 kj6 l1 t425 t428 ([] : List (S51)) (wrap64 ((t425.length : Int) - 1))) else (laws_FnIndex.j7 kj6 l1)) = some r := by rw [if_neg (show ¬ (false = true) by decide)] at H; exact H
     clear H
     have H := H1
     clear H1
     have HC21 := Aside0.mk H
     clear H
     go_upto_if 66 with (fail)
     go_cut [] (fun wc => ∃ (kq : Nat), Aside0 (laws_FnIndex.j7 kq l1 = some r) ∧ Aside0 (kq ≤ kj6) ∧ Aside0 (Below w.heap.size w wc))
     case first =>
      have H := HC21.out
      clear HC21
      by_cases c22 : t429 = true
      ·subst c22
       have H1 : (laws_FnIndex.l0 kj6 l1 t425 t428 ([] : List (S51)) (wrap64 ((t425.length : Int) - 1))) = some r := by rw [if_pos rfl] at H; exact H
       clear H
       have H := H1
       clear H1
       have H' := Aside0.mk H
       clear H
       go_wp2
       go_loopg [10, 11] kj6 (fun kq v10 v11 w' => ∃ (x10_2 : List (S51)) (x11_2 : Int), v11 = .int .i64 x11_2 ∧ Aside0 (laws_FnIndex.l0 kq l1 t425 t428 x10_2 x11_2 = some r) ∧ Aside0 (kq ≤ kj6) ∧ Aside0 (Kd.R k51 51 w' w.heap.size (fun k_ => some k_ ≠ (v10 : Value).ownBlock) (.slice Ao9 t425.length co9) t425) ∧ Aside0 (Kd.S k74 74 w' w.heap.size (fun _ => True) v430 t428) ∧ Aside0 (Kd.R k51 51 w' w.heap.size (fun k_ => some k_ ≠ ((.slice Ao9 t425.length co9) : Value).ownBlock) v10 x10_2) ∧ Aside0 (Below w.heap.size w w'))
       case atStart => exact ⟨(([] : List (S51))), (wrap64 ((t425.length : Int) - 1)), (by first | rfl | (simp; done) | (simp [*]; done) | (simp; apply Bool.eq_iff_iff.mpr; simp only [bne_iff_ne, ne_eq, beq_iff_eq]; omega)), H', ⟨Nat.le_refl _⟩, ⟨by (with_reducible repeat (first | apply Kd.R_alloc | apply Kd.R_drewN | apply Kd.R_drew)); exact Kd.R_mono HO_5.out (fun _ hk => (by simp [Value.ownBlock]))⟩, ⟨by (with_reducible repeat (first | apply Kd.S_alloc | apply Kd.S_drewN | apply Kd.S_drew)); exact HO_6.out⟩, ⟨by first | exact Kd.R_nil _ _ _ _ _ | exact Kd.N_nil _ _ _ _ _ | exact Kd.V_nil _ _ _ _ _ | exact Kd.Q_nil _ _ _ _ _ | exact Kd.S_nil _ _ _ _ _⟩, ⟨by repeat (first | (with_reducible first | exact HB.out | apply q4_ | apply q5_ | apply q6_) | exact HB.out)⟩⟩
       case round =>
        clear H'
        try clear c1
        try clear c2
        try clear p2
        try clear c3
        try clear c3b0
        try clear p6
        try clear c9
        try clear c12
        try clear c12b0
        try clear c12b1
        try clear c12b2
        try clear c14
        try clear c17
        try clear c19
        try clear c20
        try clear c22
        try clear p2
        try clear p6
        obtain ⟨x10_2, x11_2, rfl, HA, HK2, HO_5, HO_6, HO_10, HB⟩ := hrel
        cases gk with
        | zero => exact absurd HA.out (by simp [laws_FnIndex.l0])
        | succ k2 =>
         have H := HA.out
         clear HA
         simp only [laws_FnIndex.l0] at H
         by_cases c23 : x11_2 ≥ 0
         ·rw [if_pos c23] at H
          have c23b0 : decide (0 ≤ x11_2) = true := decide_eq_true c23
          clear c23
          (first | rw [c23b0] | (simp only [i64_w, i32_w]; rw [c23b0]) | skip)
          by_cases c24 : 0 ≤ x11_2
          ·rw [if_pos c24] at H
           have c24b0 : decide (0 ≤ x11_2) = true := decide_eq_true c24
           clear c24
           by_cases c25 : x11_2 < (t425.length : Int)
           ·rw [if_pos c25] at H
            have c25b0 : decide (x11_2 < (t425.length : Int)) = true := decide_eq_true c25
            clear c25
            by_cases c26 : x10_2.length < 5864062014805
            ·rw [if_pos c26] at H
             have LMc26 := Aside0.mk c26
             clear c26
             obtain ⟨y439, hy439⟩ : ∃ y_ : List (S51), y_ = (x10_2 ++ [(⟨(rd_T51 t425 x11_2).f0, (rd_T51 t425 x11_2).f1⟩ : S51)]) := ⟨_, rfl⟩
             replace H : (laws_FnIndex.l0 k2 l1 t425 t428 y439 (wrap64 (x11_2 - 1))) = some r := by first | (rw [hy439]; with_reducible exact H) | (have H2_ := (Option.bind_some _ _).symm.trans H; rw [hy439]; with_reducible exact H2_) | (have H2_ := (Option.bind_some _ _).symm.trans H; with_reducible exact H2_) | with_reducible exact H | (rw [hy439]; exact H) | exact H
             have Ny439 := Aside0.mk hy439
             clear hy439
             as_aux_lemma =>
              have H' := Aside0.mk H
              clear H
              have p438 : 0 ≤ (x11_2 : Int) := of_decide_eq_true (by first | (with_reducible assumption) | assumption)
              have q438 : x11_2 < (t425.length : Int) := of_decide_eq_true (by first | (with_reducible assumption) | assumption)
              obtain ⟨ad438, e438, hx438_0, hx438_1⟩ := at_T51 (Kd.R_reads' HO_5.out).2.2 x11_2 p438 q438
              cases e438
              replace p438 := eq_true p438
              replace q438 := eq_true q438
              go_wp2_with (first | ((with_reducible refine gate_builtin (b := .append) (xs := #[.tmp 74, .tmp 79]) rfl ?_); at_builtin; refine Kd.R_append k51 (w0 := w) w.heap.size rfl (.tmp 74) (.tmp 79) 33 51 (.agg #[(.string ⟨#[]⟩), (.int .i64 0)]) 24 rfl Try.underlying33 info51 rfl (by decide) (by omega) u10 x10_2 (⟨(rd_T51 t425 x11_2).f0, (rd_T51 t425 x11_2).f1⟩ : S51) [.string ((rd_T51 t425 x11_2).f0), .int .i64 ((rd_T51 t425 x11_2).f1)] (fun k_ => some k_ ≠ (.slice (some ad438) t425.length co9 : Value).ownBlock) (fun _ => False) rfl rfl ?aP (fun _ hk => hk.elim) ?aF ?aO ?aB ?aS ?aL ?_; (case aP => exact k51_mkM _ _ _ (⟨(rd_T51 t425 x11_2).f0, (rd_T51 t425 x11_2).f1⟩ : S51)); (case aB => exact (by repeat first | (with_reducible first | exact HB.out | apply q4_ | apply q5_ | apply q6_) | exact HB.out)); (case aF => exact (fun k_ hk => Kd.fresh' (Kd.R_lt (by (with_reducible repeat (first | apply Kd.R_alloc | apply Kd.R_drewN | apply Kd.R_drew)); exact HO_5.out)) k_ hk)); (case aO => exact (by (with_reducible repeat (first | apply Kd.R_alloc | apply Kd.R_drewN | apply Kd.R_drew)); exact HO_10.out)); (case aS => exact (below_size (by repeat first | (with_reducible first | exact HB.out | apply q4_ | apply q5_ | apply q6_) | exact HB.out))); (case aL => have := LMc26.out; omega); intro v440 w27 ho hb hg hat; rw [← Ny439.out] at ho; have n0_ := Aside0.mk (Kd.R_after (ok := (fun _ => True)) (by (with_reducible repeat (first | apply Kd.R_alloc | apply Kd.R_drewN | apply Kd.R_drew)); exact Kd.R_mono HO_5.out (fun _ hk => ⟨trivial, hk⟩)) hg hat); have n1_ := Aside0.mk (Kd.S_over' (by (with_reducible repeat (first | apply Kd.S_alloc | apply Kd.S_drewN | apply Kd.S_drew)); exact HO_6.out) (Kd.R_typed (by (with_reducible repeat (first | apply Kd.R_alloc | apply Kd.R_drewN | apply Kd.R_drew)); exact HO_10.out)) (by decide) hg); have n2_ := Aside0.mk (hb); have n3_ := Aside0.mk (ho); clear HO_5; clear HO_6; clear HB; clear HO_10; have HO_5 := n0_; have HO_6 := n1_; have HB := n2_; have HO441 := n3_; clear n0_ n1_ n2_ n3_; clear ho hb hg hat))
              go_roundg k2
              case measure => have := HJ6.out; have := HK2.out; omega
              case rel => exact ⟨(y439), (wrap64 (x11_2 - 1)), (by first | rfl | (simp; done) | (simp [*]; done) | (simp; apply Bool.eq_iff_iff.mpr; simp only [bne_iff_ne, ne_eq, beq_iff_eq]; omega)), H', ⟨by have := HJ6.out; have := HK2.out; omega⟩, ⟨by (with_reducible repeat (first | apply Kd.R_alloc | apply Kd.R_drewN | apply Kd.R_drew)); exact Kd.R_mono HO_5.out (fun _ hk => hk.2)⟩, ⟨by (with_reducible repeat (first | apply Kd.S_alloc | apply Kd.S_drewN | apply Kd.S_drew)); exact HO_6.out⟩, ⟨by (with_reducible repeat (first | apply Kd.R_alloc | apply Kd.R_drewN | apply Kd.R_drew)); exact HO441.out⟩, ⟨by repeat (first | (with_reducible first | exact HB.out | apply q4_ | apply q5_ | apply q6_) | exact HB.out)⟩⟩
            ·rw [if_neg c26] at H
             exact absurd H (by simp)
           ·rw [if_neg c25] at H
            exact absurd H (by simp)
          ·rw [if_neg c24] at H
           exact absurd H (by simp)
         ·rw [if_neg c23] at H
          have c23b0 : decide (0 ≤ x11_2) = false := decide_eq_false c23
          clear c23
          (first | rw [c23b0] | (simp only [i64_w, i32_w]; rw [c23b0]) | skip)
          replace H := Option.bind_eq_some_iff.mp H
          obtain ⟨⟨t442, t443⟩, A280, H⟩ := H
          replace H : ((impl_GoodIndex.f k2 t428).bind fun t446 => (if t446 = true then (if t443 = true then ((laws_sameForks.f k2 t442 t428).bind fun t447 => (laws_FnIndex.j2 k2 l1 t425 t428 (!t447))) else (laws_FnIndex.j2 k2 l1 t425 t428 true)) else (laws_FnIndex.j2 k2 l1 t425 t428 true))) = some r := H
          have A28 := Aside0.mk A280
          clear A280
          have HC29 := Aside0.mk H
          clear H
          obtain ⟨Ao30, co30, eo30⟩ := Kd.R_slice HO_10.out
          subst eo30
          go_upto_region 15 with (first | ((with_reducible refine gate_callee (f := 19) rfl ?_); refine goesL_ (some 83) rfl rfl Try.func19 (by kernel_rfl) rfl #[.slice Ao30 x10_2.length co30] rfl (by simp only [List.map_toArray, List.map_cons, List.map_nil] <;> rfl) ?_; (with_reducible refine (impl_IndexOf.calls k2 _ _ x10_2 t442 t443 _ ?side1 ?side2 A28.out).mono ?_); (case side1 => repeat (first | exact (Kd.R_reads' HO_10.out).2.2 | (with_reducible refine Kd.C_alloc ?_ _) | (with_reducible refine Kd.C_drewN ?_ _) | (with_reducible refine Kd.C_drew ?_))); (case side2 => exact (Kd.R_reads' HO_10.out).2.1); rintro e w31 ⟨v444, rfl, ho0, hb⟩; refine ⟨_, rfl, ?_⟩; have n0_ := Aside0.mk (Kd.R_below (by (with_reducible repeat (first | apply Kd.R_alloc | apply Kd.R_drewN | apply Kd.R_drew)); exact HO_5.out) hb); have n1_ := Aside0.mk (Kd.S_elder' (by (with_reducible repeat (first | apply Kd.S_alloc | apply Kd.S_drewN | apply Kd.S_drew)); exact HO_6.out) (Kd.S_base ho0) hb); have n2_ := Aside0.mk (Kd.R_below (by (with_reducible repeat (first | apply Kd.R_alloc | apply Kd.R_drewN | apply Kd.R_drew)); exact HO_10.out) hb); have n3_ := Aside0.mk (Kd.S_lower (Kd.S_new' ho0 (Kd.S_lt (by (with_reducible repeat (first | apply Kd.S_alloc | apply Kd.S_drewN | apply Kd.S_drew)); exact HO_6.out))) (below_size (by repeat first | (with_reducible first | exact HB.out | apply q4_ | apply q5_ | apply q6_) | exact HB.out))); have n4_ := Aside0.mk (below_step (by repeat first | (with_reducible first | exact HB.out | apply q4_ | apply q5_ | apply q6_) | exact HB.out) hb); clear HO_5; clear HO_6; clear HO_10; clear HB; have HO_5 := n0_; have HO_6 := n1_; have HO_10 := n2_; have HO445 := n3_; have HB := n4_; clear n0_ n1_ n2_ n3_ n4_; (try clear hb); (try clear hk); (try clear hi); (try clear ho0)))
          (try simp only [Act.put, List.setIfInBounds_toArray, List.set_cons_zero, List.set_cons_succ])
          go_cut [98] (fun v98 wc => ∃ (kq : Nat) (x98_28 : Bool), v98 = .bool x98_28 ∧ Aside0 (laws_FnIndex.j2 kq l1 t425 t428 x98_28 = some r) ∧ Aside0 (kq ≤ k2) ∧ Aside0 (Kd.R k51 51 wc w.heap.size (fun _ => True) (.slice Ao9 t425.length co9) t425) ∧ Aside0 (Kd.S k74 74 wc w.heap.size (fun _ => True) v430 t428) ∧ Aside0 (Below w.heap.size w wc))
          case first =>
           have H := HC29.out
           clear HC29
           replace H := Option.bind_eq_some_iff.mp H
           obtain ⟨t446, A320, H⟩ := H
           replace H : (if t446 = true then (if t443 = true then ((laws_sameForks.f k2 t442 t428).bind fun t447 => (laws_FnIndex.j2 k2 l1 t425 t428 (!t447))) else (laws_FnIndex.j2 k2 l1 t425 t428 true)) else (laws_FnIndex.j2 k2 l1 t425 t428 true)) = some r := H
           have A32 := Aside0.mk A320
           clear A320
           by_cases c33 : t446 = true
           ·subst c33
            have H1 : (if t443 = true then ((laws_sameForks.f k2 t442 t428).bind fun t447 => (laws_FnIndex.j2 k2 l1 t425 t428 (!t447))) else (laws_FnIndex.j2 k2 l1 t425 t428 true)) = some r := by rw [if_pos rfl] at H; exact H
            clear H
            have H := H1
            clear H1
            by_cases c34 : t443 = true
            ·subst c34
             have H1 : ((laws_sameForks.f k2 t442 t428).bind fun t447 => (laws_FnIndex.j2 k2 l1 t425 t428 (!t447))) = some r := by rw [if_pos rfl] at H; exact H
             clear H
             have H := H1
             clear H1
             replace H := Option.bind_eq_some_iff.mp H
             obtain ⟨t447, A350, H⟩ := H
             replace H : (laws_FnIndex.j2 k2 l1 t425 t428 (!t447)) = some r := H
             have A35 := Aside0.mk A350
             clear A350
             as_aux_lemma =>
              have H' := Aside0.mk H
              clear H
              obtain ⟨Ao36, co36, eo36⟩ := Kd.S_slice HO_6.out
              subst eo36
              go_wp2_with (first | ((with_reducible refine gate_callee (f := 14) rfl ?_); refine goesL_ (some 87) rfl rfl Try.func14 (by kernel_rfl) rfl #[.slice Ao36 t428.length co36] rfl (by simp only [List.map_toArray, List.map_cons, List.map_nil] <;> rfl) ?_; (with_reducible refine (impl_GoodIndex.calls k2 _ _ t428 true _ ?side1 ?side2 A32.out).mono ?_); (case side1 => repeat (first | exact (Kd.S_reads' HO_6.out).2.2 | (with_reducible refine Kd.C_alloc ?_ _) | (with_reducible refine Kd.C_drewN ?_ _) | (with_reducible refine Kd.C_drew ?_))); (case side2 => exact (Kd.S_reads' HO_6.out).2.1); rintro e w37 ⟨rfl, hb⟩; refine ⟨_, rfl, ?_⟩; have n0_ := Aside0.mk (Kd.R_below (by (with_reducible repeat (first | apply Kd.R_alloc | apply Kd.R_drewN | apply Kd.R_drew)); exact HO_5.out) hb); have n1_ := Aside0.mk (Kd.S_below (by (with_reducible repeat (first | apply Kd.S_alloc | apply Kd.S_drewN | apply Kd.S_drew)); exact HO_6.out) hb); have n2_ := Aside0.mk (Kd.R_below (by (with_reducible repeat (first | apply Kd.R_alloc | apply Kd.R_drewN | apply Kd.R_drew)); exact HO_10.out) hb); have n3_ := Aside0.mk (Kd.S_below (by (with_reducible repeat (first | apply Kd.S_alloc | apply Kd.S_drewN | apply Kd.S_drew)); exact HO445.out) hb); have n4_ := Aside0.mk (below_step (by repeat first | (with_reducible first | exact HB.out | apply q4_ | apply q5_ | apply q6_) | exact HB.out) hb); clear HO_5; clear HO_6; clear HO_10; clear HO445; clear HB; have HO_5 := n0_; have HO_6 := n1_; have HO_10 := n2_; have HO445 := n3_; have HB := n4_; clear n0_ n1_ n2_ n3_ n4_; (try clear hb); (try clear hk); (try clear hi); obtain ⟨Ao38, co38, eo38⟩ := Kd.S_slice HO445.out; subst eo38) | (go_at_call 39; (with_reducible refine (laws_sameForks.calls k2 _ _ t442 _ _ t428 t447 _ ?side1 ?side2 ?side3 ?side4 A35.out).mono ?_); (case side1 => repeat (first | exact (Kd.S_reads' HO445.out).2.2 | (with_reducible refine Kd.C_alloc ?_ _) | (with_reducible refine Kd.C_drewN ?_ _) | (with_reducible refine Kd.C_drew ?_))); (case side2 => exact (Kd.S_reads' HO445.out).2.1); (case side3 => repeat (first | exact (Kd.S_reads' HO_6.out).2.2 | (with_reducible refine Kd.C_alloc ?_ _) | (with_reducible refine Kd.C_drewN ?_ _) | (with_reducible refine Kd.C_drew ?_))); (case side4 => exact (Kd.S_reads' HO_6.out).2.1); rintro e w39 ⟨rfl, hb⟩; have n0_ := Aside0.mk (Kd.R_below (by (with_reducible repeat (first | apply Kd.R_alloc | apply Kd.R_drewN | apply Kd.R_drew)); exact HO_5.out) hb); have n1_ := Aside0.mk (Kd.S_below (by (with_reducible repeat (first | apply Kd.S_alloc | apply Kd.S_drewN | apply Kd.S_drew)); exact HO_6.out) hb); have n2_ := Aside0.mk (Kd.R_below (by (with_reducible repeat (first | apply Kd.R_alloc | apply Kd.R_drewN | apply Kd.R_drew)); exact HO_10.out) hb); have n3_ := Aside0.mk (Kd.S_below (by (with_reducible repeat (first | apply Kd.S_alloc | apply Kd.S_drewN | apply Kd.S_drew)); exact HO445.out) hb); have n4_ := Aside0.mk (below_step (by repeat first | (with_reducible first | exact HB.out | apply q4_ | apply q5_ | apply q6_) | exact HB.out) hb); clear HO_5; clear HO_6; clear HO_10; clear HO445; clear HB; have HO_5 := n0_; have HO_6 := n1_; have HO_10 := n2_; have HO445 := n3_; have HB := n4_; clear n0_ n1_ n2_ n3_ n4_; (try clear hb); (try clear hk); (try clear hi)))
              go_meet
              case rel => exact ⟨_, (!t447), (by first | rfl | (simp; done) | (simp [*]; done) | (simp; apply Bool.eq_iff_iff.mpr; simp only [bne_iff_ne, ne_eq, beq_iff_eq]; omega)), H', ⟨by have := HJ6.out; have := HK2.out; first | omega | exact Nat.le_refl _⟩, ⟨by (with_reducible repeat (first | apply Kd.R_alloc | apply Kd.R_drewN | apply Kd.R_drew)); exact Kd.R_mono HO_5.out (fun _ hk => trivial)⟩, ⟨by (with_reducible repeat (first | apply Kd.S_alloc | apply Kd.S_drewN | apply Kd.S_drew)); exact Kd.S_mono HO_6.out (fun _ hk => trivial)⟩, ⟨by repeat (first | (with_reducible first | exact HB.out | apply q4_ | apply q5_ | apply q6_) | exact HB.out)⟩⟩
            ·replace c34 := Bool.eq_false_iff.mpr c34
             subst c34
             have H1 : (laws_FnIndex.j2 k2 l1 t425 t428 true) = some r := by rw [if_neg (show ¬ (false = true) by decide)] at H; exact H
             clear H
             have H := H1
             clear H1
             exfalso
             cases k2 with
             | zero => exact absurd H (by simp [laws_FnIndex.j2])
             | succ kz_ => rw [laws_FnIndex.j2, if_pos rfl] at H; exact absurd ((Option.some.inj H).trans HR_.out) (by decide)
           ·replace c33 := Bool.eq_false_iff.mpr c33
            subst c33
            have H1 : (laws_FnIndex.j2 k2 l1 t425 t428 true) = some r := by rw [if_neg (show ¬ (false = true) by decide)] at H; exact H
            clear H
            have H := H1
            clear H1
            exfalso
            cases k2 with
            | zero => exact absurd H (by simp [laws_FnIndex.j2])
            | succ kz_ => rw [laws_FnIndex.j2, if_pos rfl] at H; exact absurd ((Option.some.inj H).trans HR_.out) (by decide)
          case rest =>
           clear HC29
           try clear c1
           try clear c2
           try clear p2
           try clear c3
           try clear c3b0
           try clear p4
           try clear q4
           try clear hx4
           try clear p6
           try clear c9
           try clear c12
           try clear c12b0
           try clear c12b1
           try clear c12b2
           try clear c14
           try clear c17
           try clear c19
           try clear c20
           try clear c22
           try clear c23
           try clear c23b0
           try clear c24
           try clear c24b0
           try clear c25
           try clear c25b0
           try clear c26
           try clear c33
           try clear c34
           try clear c38
           try clear hx438_0
           try clear hx438_1
           try clear p2
           try clear p438
           try clear p6
           try clear q438
           obtain ⟨kq, x98_28, rfl, HA, HJ28, HO_5, HO_6, HB⟩ := hcut
           cases kq with
           | zero => exact absurd HA.out (by simp [laws_FnIndex.j2])
           | succ kj28 =>
            have H := HA.out
            clear HA
            simp only [laws_FnIndex.j2] at H
            by_cases c40 : x98_28 = true
            ·subst c40
             have H1 : (some false) = some r := by rw [if_pos rfl] at H; exact H
             clear H
             have H := H1
             clear H1
             exact absurd ((Option.some.inj H).trans HR_.out) (by decide)
            ·replace c40 := Bool.eq_false_iff.mpr c40
             subst c40
             have H1 : (laws_FnIndex.l1 kj28 l1 t425 t428 t425 (t425.length : Int) 0) = some r := by rw [if_neg (show ¬ (false = true) by decide)] at H; exact H
             clear H
             have H := H1
             clear H1
             have H' := Aside0.mk H
             clear H
             go_wp2
             go_loopg [101] kj28 (fun kq v101 w' => ∃ (x101_4 : Int), v101 = .int .i64 x101_4 ∧ Aside0 (laws_FnIndex.l1 kq l1 t425 t428 t425 (t425.length : Int) x101_4 = some r) ∧ Aside0 (kq ≤ kj28) ∧ Aside0 (Kd.R k51 51 w' w.heap.size (fun _ => True) (.slice Ao9 t425.length co9) t425) ∧ Aside0 (Kd.S k74 74 w' w.heap.size (fun _ => True) v430 t428) ∧ Aside0 (Kd.R k51 51 w' w.heap.size (fun _ => True) (.slice Ao9 t425.length co9) t425) ∧ Aside0 (Below w.heap.size w w'))
             case atStart => exact ⟨(0), (by first | rfl | (simp; done) | (simp [*]; done) | (simp; apply Bool.eq_iff_iff.mpr; simp only [bne_iff_ne, ne_eq, beq_iff_eq]; omega)), H', ⟨Nat.le_refl _⟩, ⟨by (with_reducible repeat (first | apply Kd.R_alloc | apply Kd.R_drewN | apply Kd.R_drew)); exact HO_5.out⟩, ⟨by (with_reducible repeat (first | apply Kd.S_alloc | apply Kd.S_drewN | apply Kd.S_drew)); exact HO_6.out⟩, ⟨by (with_reducible repeat (first | apply Kd.R_alloc | apply Kd.R_drewN | apply Kd.R_drew)); exact HO_5.out⟩, ⟨by repeat (first | (with_reducible first | exact HB.out | apply q4_ | apply q5_ | apply q6_) | exact HB.out)⟩⟩
             case round =>
              clear H'
              try clear c1
              try clear c2
              try clear p2
              try clear c3
              try clear c3b0
              try clear c4
              try clear p4
              try clear q4
              try clear hx4
              try clear p6
              try clear c9
              try clear c12
              try clear c12b0
              try clear c12b1
              try clear c12b2
              try clear c14
              try clear c17
              try clear c19
              try clear c20
              try clear c22
              try clear c23
              try clear c23b0
              try clear c24
              try clear c24b0
              try clear c25
              try clear c25b0
              try clear c26
              try clear c33
              try clear c34
              try clear c38
              try clear c40
              try clear hx438_0
              try clear hx438_1
              try clear p2
              try clear p4
              try clear p438
              try clear p6
              try clear q4
              try clear q438
              obtain ⟨x101_4, rfl, HA, HK4, HO_5, HO_6, HO_99, HB⟩ := hrel
              cases gk with
              | zero => exact absurd HA.out (by simp [laws_FnIndex.l1])
              | succ k4 =>
               have H := HA.out
               clear HA
               simp only [laws_FnIndex.l1] at H
               by_cases c41 : x101_4 < (t425.length : Int)
               ·rw [if_pos c41] at H
                have c41b0 : decide (x101_4 < (t425.length : Int)) = true := decide_eq_true c41
                clear c41
                by_cases c42 : 0 ≤ x101_4
                ·rw [if_pos c42] at H
                 have c42b0 : decide (0 ≤ x101_4) = true := decide_eq_true c42
                 clear c42
                 by_cases c43 : x101_4 < (t425.length : Int)
                 ·rw [if_pos c43] at H
                  have c43b0 : decide (x101_4 < (t425.length : Int)) = true := decide_eq_true c43
                  clear c43
                  replace H := Option.bind_eq_some_iff.mp H
                  obtain ⟨⟨t450, t451, t452⟩, A440, H⟩ := H
                  replace H : (if t452 = true then ((laws_has.f k4 t450 ((rd_T51 t425 x101_4).f1)).bind fun t455 => (if t455 = true then (laws_FnIndex.j4 k4 l1 t425 t428 t450 t425 (t425.length : Int) x101_4 (decide (t451 > 32)) ((rd_T51 t425 x101_4).f0) ((rd_T51 t425 x101_4).f1)) else (laws_FnIndex.j4 k4 l1 t425 t428 t450 t425 (t425.length : Int) x101_4 true ((rd_T51 t425 x101_4).f0) ((rd_T51 t425 x101_4).f1)))) else (laws_FnIndex.j4 k4 l1 t425 t428 t450 t425 (t425.length : Int) x101_4 true ((rd_T51 t425 x101_4).f0) ((rd_T51 t425 x101_4).f1))) = some r := H
                  have A44 := Aside0.mk A440
                  clear A440
                  have HC45 := Aside0.mk H
                  clear H
                  have p448 : 0 ≤ (x101_4 : Int) := of_decide_eq_true (by first | (with_reducible assumption) | assumption)
                  have q448 : x101_4 < (t425.length : Int) := of_decide_eq_true (by first | (with_reducible assumption) | assumption)
                  obtain ⟨ad448, e448, hx448_0, hx448_1⟩ := at_T51 (Kd.R_reads' HO_99.out).2.2 x101_4 p448 q448
                  cases e448
                  replace p448 := eq_true p448
                  replace q448 := eq_true q448
                  go_upto_region 21 with (first | ((with_reducible refine gate_dst (N := 15) rfl ?_); refine box_event ?hg (N := 15) ?hd (cs := #[.string (⟨#[]⟩ : ByteArray), .int .i64 0]) (t := 51) ?hr ?_; (case hd => rfl); (case hg => rfl); (case hr => first | (go_simp; done) | (go_simp; rfl)); intro gb449 hg w46 hbox hb; have n0_ := Aside0.mk (Kd.R_below (Kd.R_elderB (by (with_reducible repeat (first | apply Kd.R_alloc | apply Kd.R_drewN | apply Kd.R_drew)); exact HO_5.out) gb449 (Nat.le_of_eq hg.symm)) hb); have n1_ := Aside0.mk (Kd.S_below (by (with_reducible repeat (first | apply Kd.S_alloc | apply Kd.S_drewN | apply Kd.S_drew)); exact HO_6.out) hb); have n2_ := Aside0.mk (Kd.R_below (Kd.R_elderB (by (with_reducible repeat (first | apply Kd.R_alloc | apply Kd.R_drewN | apply Kd.R_drew)); exact HO_99.out) gb449 (Nat.le_of_eq hg.symm)) hb); have n3_ := Aside0.mk (below_step (by repeat first | (with_reducible first | exact HB.out | apply q4_ | apply q5_ | apply q6_) | exact HB.out) hb); have n4_ := Aside0.mk (hbox); have n5_ := Aside0.mk ((by rw [hg]; exact (below_size (by repeat first | (with_reducible first | exact HB.out | apply q4_ | apply q5_ | apply q6_) | exact HB.out)) : w.heap.size ≤ gb449)); have n6_ := Aside0.mk ((by rw [hg]; exact (below_size (by repeat first | (with_reducible first | exact HB.out | apply q4_ | apply q5_ | apply q6_) | exact HB.out)) : w.heap.size ≤ gb449)); clear HO_5; clear HO_6; clear HO_99; clear HB; have HO_5 := n0_; have HO_6 := n1_; have HO_99 := n2_; have HB := n3_; have BK449 := n4_; have GW449 := n5_; have GE449 := n6_; clear n0_ n1_ n2_ n3_ n4_ n5_ n6_; clear hb hbox hg; have hcz47_0 : w46.cell? ⟨gb449, 0, none⟩ = some (.string (⟨#[]⟩ : ByteArray)) := (blk_cell BK449.out 0).trans rfl; have hcz47_1 : w46.cell? ⟨gb449, 1, none⟩ = some (.int .i64 0) := (blk_cell BK449.out 1).trans rfl; have hfz47_0 := blk_frozen BK449.out 0; have hfz47_1 := blk_frozen BK449.out 1; obtain ⟨Ao48, co48, eo48⟩ := Kd.S_slice HO_6.out; subst eo48) | ((with_reducible refine gate_callee (f := 25) rfl ?_); refine goesL_ (some 109) rfl rfl Try.func25 (by kernel_rfl) rfl #[.slice Ao48 t428.length co48, .string ((rd_T51 t425 x101_4).f0)] rfl (by simp only [List.map_toArray, List.map_cons, List.map_nil] <;> rfl) ?_; (with_reducible refine (impl_FindKey.calls k4 _ _ t428 ((rd_T51 t425 x101_4).f0) t450 t451 t452 _ ?side1 ?side2 A44.out).mono ?_); (case side1 => refine (Kd.S_reads' (e := 74) (base := w.heap.size) (ok := fun k_ => True) (n := t428.length) (c := co48) ?_).2.2; exact (by (with_reducible repeat (first | apply Kd.S_alloc | apply Kd.S_drewN | apply Kd.S_drew)); exact (Kd.S_mono (Kd.S_far (p := ⟨gb449, 1, none⟩) (Kd.S_far (p := ⟨gb449, 0, none⟩) (Kd.S_types HO_6.out BK449.out (by decide)) (fun _ hk => hk.2) (.string ((rd_T51 t425 x101_4).f0))) (fun _ hk => hk.2) (.int .i64 ((rd_T51 t425 x101_4).f1))) (fun _ h_ => h_.1)))); (case side2 => exact (Kd.S_reads' HO_6.out).2.1); rintro e w49 ⟨v453, rfl, ho0, hb⟩; refine ⟨_, rfl, ?_⟩; have n0_ := Aside0.mk (Kd.R_below (by (with_reducible repeat (first | apply Kd.R_alloc | apply Kd.R_drewN | apply Kd.R_drew)); exact (Kd.R_mono (Kd.R_far (p := ⟨gb449, 1, none⟩) (Kd.R_far (p := ⟨gb449, 0, none⟩) (Kd.R_mono HO_5.out (fun k_ hk => (⟨hk, hk.2⟩ : _ ∧ k_ ≠ gb449))) (fun _ hk => hk.2) (.string ((rd_T51 t425 x101_4).f0))) (fun _ hk => hk.2) (.int .i64 ((rd_T51 t425 x101_4).f1))) (fun _ h_ => h_.1))) hb); have n1_ := Aside0.mk (Kd.S_elder' (by (with_reducible repeat (first | apply Kd.S_alloc | apply Kd.S_drewN | apply Kd.S_drew)); exact (Kd.S_mono (Kd.S_far (p := ⟨gb449, 1, none⟩) (Kd.S_far (p := ⟨gb449, 0, none⟩) (Kd.S_types HO_6.out BK449.out (by decide)) (fun _ hk => hk.2) (.string ((rd_T51 t425 x101_4).f0))) (fun _ hk => hk.2) (.int .i64 ((rd_T51 t425 x101_4).f1))) (fun _ h_ => h_.1))) (Kd.R_base ho0) hb); have n2_ := Aside0.mk (Kd.R_below (by (with_reducible repeat (first | apply Kd.R_alloc | apply Kd.R_drewN | apply Kd.R_drew)); exact (Kd.R_mono (Kd.R_far (p := ⟨gb449, 1, none⟩) (Kd.R_far (p := ⟨gb449, 0, none⟩) (Kd.R_mono HO_99.out (fun k_ hk => (⟨hk, hk.2⟩ : _ ∧ k_ ≠ gb449))) (fun _ hk => hk.2) (.string ((rd_T51 t425 x101_4).f0))) (fun _ hk => hk.2) (.int .i64 ((rd_T51 t425 x101_4).f1))) (fun _ h_ => h_.1))) hb); have n3_ := Aside0.mk (Kd.R_lower ho0 (below_size (by repeat (first | (with_reducible first | exact HB.out | apply q4_ | apply q5_ | apply q6_ | refine below_set ?_ GE449.out) | exact HB.out)))); have n4_ := Aside0.mk (blk_below (g := gb449) (o := .cells #[.string ((rd_T51 t425 x101_4).f0), .int .i64 ((rd_T51 t425 x101_4).f1)] 51 (0, 0)) (by (with_reducible repeat first | apply q1_ | apply q2_ | apply q3_); refine blk_put (cs := #[.string ((rd_T51 t425 x101_4).f0), .int .i64 0]) ?_ 1 _ rfl; (with_reducible repeat first | apply q1_ | apply q2_ | apply q3_); refine blk_put (cs := #[.string (⟨#[]⟩ : ByteArray), .int .i64 0]) ?_ 0 _ rfl; (with_reducible repeat first | apply q1_ | apply q2_ | apply q3_); exact BK449.out) hb); have n5_ := Aside0.mk (below_step (by repeat (first | (with_reducible first | exact HB.out | apply q4_ | apply q5_ | apply q6_ | refine below_set ?_ GE449.out) | exact HB.out)) hb); clear HO_5; clear HO_6; clear HO_99; clear BK449; clear HB; have HO_5 := n0_; have HO_6 := n1_; have HO_99 := n2_; have HO454 := n3_; have BK449 := n4_; have HB := n5_; clear n0_ n1_ n2_ n3_ n4_ n5_; (try clear hb); (try clear hk); (try clear hi); (try clear ho0)))
                  (try simp only [Act.put, List.setIfInBounds_toArray, List.set_cons_zero, List.set_cons_succ])
                  go_cut [125] (fun v125 wc => ∃ (kq : Nat) (x125_44 : Bool), v125 = .bool x125_44 ∧ Aside0 (laws_FnIndex.j4 kq l1 t425 t428 t450 t425 (t425.length : Int) x101_4 x125_44 ((rd_T51 t425 x101_4).f0) ((rd_T51 t425 x101_4).f1) = some r) ∧ Aside0 (kq ≤ k4) ∧ Aside0 (Kd.R k51 51 wc w.heap.size (fun k_ => k_ ≠ gb449) (.slice (some ad448) t425.length co9) t425) ∧ Aside0 (Kd.S k74 74 wc w.heap.size (fun k_ => some k_ ≠ (v453 : Value).ownBlock) (.slice Ao48 t428.length co48) t428) ∧ Aside0 (Kd.R (Kd.int .i64) 3 wc w.heap.size (fun _ => True) v453 t450) ∧ Aside0 (Kd.R k51 51 wc w.heap.size (fun k_ => k_ ≠ gb449) (.slice (some ad448) t425.length co9) t425) ∧ Aside0 (wc.heap[gb449]? = some (.cells #[.string ((rd_T51 t425 x101_4).f0), .int .i64 ((rd_T51 t425 x101_4).f1)] 51 (0, 0))) ∧ Aside0 (Below w.heap.size w wc))
                  case first =>
                   have H := HC45.out
                   clear HC45
                   by_cases c50 : t452 = true
                   ·subst c50
                    have H1 : ((laws_has.f k4 t450 ((rd_T51 t425 x101_4).f1)).bind fun t455 => (if t455 = true then (laws_FnIndex.j4 k4 l1 t425 t428 t450 t425 (t425.length : Int) x101_4 (decide (t451 > 32)) ((rd_T51 t425 x101_4).f0) ((rd_T51 t425 x101_4).f1)) else (laws_FnIndex.j4 k4 l1 t425 t428 t450 t425 (t425.length : Int) x101_4 true ((rd_T51 t425 x101_4).f0) ((rd_T51 t425 x101_4).f1)))) = some r := by rw [if_pos rfl] at H; exact H
                    clear H
                    have H := H1
                    clear H1
                    replace H := Option.bind_eq_some_iff.mp H
                    obtain ⟨t455, A510, H⟩ := H
                    replace H : (if t455 = true then (laws_FnIndex.j4 k4 l1 t425 t428 t450 t425 (t425.length : Int) x101_4 (decide (t451 > 32)) ((rd_T51 t425 x101_4).f0) ((rd_T51 t425 x101_4).f1)) else (laws_FnIndex.j4 k4 l1 t425 t428 t450 t425 (t425.length : Int) x101_4 true ((rd_T51 t425 x101_4).f0) ((rd_T51 t425 x101_4).f1))) = some r := H
                    have A51 := Aside0.mk A510
                    clear A510
                    by_cases c52 : t455 = true
                    ·subst c52
                     have H1 : (laws_FnIndex.j4 k4 l1 t425 t428 t450 t425 (t425.length : Int) x101_4 (decide (t451 > 32)) ((rd_T51 t425 x101_4).f0) ((rd_T51 t425 x101_4).f1)) = some r := by rw [if_pos rfl] at H; exact H
                     clear H
                     have H := H1
                     clear H1
                     as_aux_lemma =>
                      have H' := Aside0.mk H
                      clear H
                      have hcz53_0 : w49.cell? ⟨gb449, 0, none⟩ = some (.string ((rd_T51 t425 x101_4).f0)) := (blk_cell BK449.out 0).trans rfl
                      have hcz53_1 : w49.cell? ⟨gb449, 1, none⟩ = some (.int .i64 ((rd_T51 t425 x101_4).f1)) := (blk_cell BK449.out 1).trans rfl
                      have hfz53_0 := blk_frozen BK449.out 0
                      have hfz53_1 := blk_frozen BK449.out 1
                      obtain ⟨Ao54, co54, eo54⟩ := Kd.R_slice HO454.out
                      subst eo54
                      go_wp2_with (first | (go_at_call 41; (with_reducible refine (laws_has.calls k4 _ _ t450 ((rd_T51 t425 x101_4).f1) true _ ?side1 ?side2 A51.out).mono ?_); (case side1 => repeat (first | exact (Kd.R_reads' HO454.out).2.2 | (with_reducible refine Kd.C_alloc ?_ _) | (with_reducible refine Kd.C_drewN ?_ _) | (with_reducible refine Kd.C_drew ?_))); (case side2 => exact (Kd.R_reads' HO454.out).2.1); rintro e w' ⟨rfl, ⟨nd, rfl⟩⟩))
                      go_meet
                      case rel => exact ⟨_, (decide (t451 > 32)), (by first | rfl | (simp; done) | (simp [*]; done) | (simp; apply Bool.eq_iff_iff.mpr; simp only [bne_iff_ne, ne_eq, beq_iff_eq]; omega)), H', ⟨by have := HJ6.out; have := HK2.out; have := HJ28.out; have := HK4.out; first | omega | exact Nat.le_refl _⟩, ⟨by (with_reducible repeat (first | apply Kd.R_alloc | apply Kd.R_drewN | apply Kd.R_drew)); exact Kd.R_mono HO_5.out (fun _ hk => hk.2)⟩, ⟨by (with_reducible repeat (first | apply Kd.S_alloc | apply Kd.S_drewN | apply Kd.S_drew)); exact Kd.S_mono HO_6.out (fun _ hk => hk.2)⟩, ⟨by (with_reducible repeat (first | apply Kd.R_alloc | apply Kd.R_drewN | apply Kd.R_drew)); exact HO454.out⟩, ⟨by (with_reducible repeat (first | apply Kd.R_alloc | apply Kd.R_drewN | apply Kd.R_drew)); exact Kd.R_mono HO_99.out (fun _ hk => hk.2)⟩, ⟨by (with_reducible repeat first | apply q1_ | apply q2_ | apply q3_); exact BK449.out⟩, ⟨by repeat (first | (with_reducible first | exact HB.out | apply q4_ | apply q5_ | apply q6_ | refine below_set ?_ GE449.out) | exact HB.out)⟩⟩
                    ·replace c52 := Bool.eq_false_iff.mpr c52
                     subst c52
                     have H1 : (laws_FnIndex.j4 k4 l1 t425 t428 t450 t425 (t425.length : Int) x101_4 true ((rd_T51 t425 x101_4).f0) ((rd_T51 t425 x101_4).f1)) = some r := by rw [if_neg (show ¬ (false = true) by decide)] at H; exact H
                     clear H
                     have H := H1
                     clear H1
                     exfalso
                     cases k4 with
                     | zero => exact absurd H (by simp [laws_FnIndex.j4])
                     | succ kz_ => rw [laws_FnIndex.j4, if_pos rfl] at H; exact absurd ((Option.some.inj H).trans HR_.out) (by decide)
                   ·replace c50 := Bool.eq_false_iff.mpr c50
                    subst c50
                    have H1 : (laws_FnIndex.j4 k4 l1 t425 t428 t450 t425 (t425.length : Int) x101_4 true ((rd_T51 t425 x101_4).f0) ((rd_T51 t425 x101_4).f1)) = some r := by rw [if_neg (show ¬ (false = true) by decide)] at H; exact H
                    clear H
                    have H := H1
                    clear H1
                    exfalso
                    cases k4 with
                    | zero => exact absurd H (by simp [laws_FnIndex.j4])
                    | succ kz_ => rw [laws_FnIndex.j4, if_pos rfl] at H; exact absurd ((Option.some.inj H).trans HR_.out) (by decide)
                  case rest =>
                   clear HC45
                   try clear c1
                   try clear c2
                   try clear p2
                   try clear c3
                   try clear c3b0
                   try clear c4
                   try clear p4
                   try clear q4
                   try clear hx4
                   try clear c5
                   try clear p6
                   try clear c9
                   try clear c12
                   try clear c12b0
                   try clear c12b1
                   try clear c12b2
                   try clear c14
                   try clear c17
                   try clear c19
                   try clear c20
                   try clear c22
                   try clear c23
                   try clear c23b0
                   try clear c24
                   try clear c24b0
                   try clear c25
                   try clear c25b0
                   try clear c26
                   try clear c33
                   try clear c34
                   try clear c38
                   try clear c40
                   try clear c41
                   try clear c41b0
                   try clear c42
                   try clear c42b0
                   try clear c43
                   try clear c43b0
                   try clear p43
                   try clear q43
                   try clear hx43
                   try clear p44
                   try clear q44
                   try clear hx44
                   try clear c50
                   try clear c52
                   try clear hcz47_0
                   try clear hcz47_1
                   try clear hcz53_0
                   try clear hcz53_1
                   try clear hfz47_0
                   try clear hfz47_1
                   try clear hfz53_0
                   try clear hfz53_1
                   try clear hx438_0
                   try clear hx438_1
                   try clear hx448_0
                   try clear hx448_1
                   try clear p2
                   try clear p4
                   try clear p438
                   try clear p448
                   try clear p6
                   try clear q4
                   try clear q438
                   try clear q448
                   obtain ⟨kq, x125_44, rfl, HA, HJ44, HO_5, HO_6, HO_16, HO_99, BK449, HB⟩ := hcut
                   cases kq with
                   | zero => exact absurd HA.out (by simp [laws_FnIndex.j4])
                   | succ kj44 =>
                    have H := HA.out
                    clear HA
                    simp only [laws_FnIndex.j4] at H
                    by_cases c55 : x125_44 = true
                    ·subst c55
                     have H1 : (some false) = some r := by rw [if_pos rfl] at H; exact H
                     clear H
                     have H := H1
                     clear H1
                     exact absurd ((Option.some.inj H).trans HR_.out) (by decide)
                    ·replace c55 := Bool.eq_false_iff.mpr c55
                     subst c55
                     have H1 : (laws_FnIndex.l2 kj44 l1 t425 t428 t450 t425 (t425.length : Int) x101_4 t450 (t450.length : Int) 0 ((rd_T51 t425 x101_4).f0) ((rd_T51 t425 x101_4).f1)) = some r := by rw [if_neg (show ¬ (false = true) by decide)] at H; exact H
                     clear H
                     have H := H1
                     clear H1
                     have H' := Aside0.mk H
                     clear H
                     obtain ⟨Ao56, co56, eo56⟩ := Kd.R_slice HO_16.out
                     subst eo56
                     go_wp2
                     go_loopg [128] kj44 (fun kq v128 w' => ∃ (x128_6 : Int), v128 = .int .i64 x128_6 ∧ Aside0 (laws_FnIndex.l2 kq l1 t425 t428 t450 t425 (t425.length : Int) x101_4 t450 (t450.length : Int) x128_6 ((rd_T51 t425 x101_4).f0) ((rd_T51 t425 x101_4).f1) = some r) ∧ Aside0 (kq ≤ kj44) ∧ Aside0 (Kd.R k51 51 w' w.heap.size (fun k_ => k_ ≠ gb449) (.slice (some ad448) t425.length co9) t425) ∧ Aside0 (Kd.S k74 74 w' w.heap.size (fun k_ => some k_ ≠ ((.slice Ao56 t450.length co56) : Value).ownBlock ∧ some k_ ≠ ((.slice Ao56 t450.length co56) : Value).ownBlock) (.slice Ao48 t428.length co48) t428) ∧ Aside0 (Kd.R (Kd.int .i64) 3 w' w.heap.size (fun _ => True) (.slice Ao56 t450.length co56) t450) ∧ Aside0 (Kd.R k51 51 w' w.heap.size (fun k_ => k_ ≠ gb449) (.slice (some ad448) t425.length co9) t425) ∧ Aside0 (Kd.R (Kd.int .i64) 3 w' w.heap.size (fun _ => True) (.slice Ao56 t450.length co56) t450) ∧ Aside0 (w'.heap[gb449]? = some (.cells #[.string ((rd_T51 t425 x101_4).f0), .int .i64 ((rd_T51 t425 x101_4).f1)] 51 (0, 0))) ∧ Aside0 (Below w.heap.size w w'))
                     case atStart => exact ⟨(0), (by first | rfl | (simp; done) | (simp [*]; done) | (simp; apply Bool.eq_iff_iff.mpr; simp only [bne_iff_ne, ne_eq, beq_iff_eq]; omega)), H', ⟨Nat.le_refl _⟩, ⟨by (with_reducible repeat (first | apply Kd.R_alloc | apply Kd.R_drewN | apply Kd.R_drew)); exact HO_5.out⟩, ⟨by (with_reducible repeat (first | apply Kd.S_alloc | apply Kd.S_drewN | apply Kd.S_drew)); exact Kd.S_mono HO_6.out (fun _ hk => ⟨hk, hk⟩)⟩, ⟨by (with_reducible repeat (first | apply Kd.R_alloc | apply Kd.R_drewN | apply Kd.R_drew)); exact HO_16.out⟩, ⟨by (with_reducible repeat (first | apply Kd.R_alloc | apply Kd.R_drewN | apply Kd.R_drew)); exact HO_99.out⟩, ⟨by (with_reducible repeat (first | apply Kd.R_alloc | apply Kd.R_drewN | apply Kd.R_drew)); exact HO_16.out⟩, ⟨by (with_reducible repeat first | apply q1_ | apply q2_ | apply q3_); exact BK449.out⟩, ⟨by repeat (first | (with_reducible first | exact HB.out | apply q4_ | apply q5_ | apply q6_ | refine below_set ?_ GE449.out) | exact HB.out)⟩⟩
                     case round =>
                      clear H'
                      try clear c1
                      try clear c2
                      try clear p2
                      try clear c3
                      try clear c3b0
                      try clear c4
                      try clear p4
                      try clear q4
                      try clear hx4
                      try clear c5
                      try clear p6
                      try clear c9
                      try clear c12
                      try clear c12b0
                      try clear c12b1
                      try clear c12b2
                      try clear c14
                      try clear c17
                      try clear c19
                      try clear c20
                      try clear c22
                      try clear c23
                      try clear c23b0
                      try clear c24
                      try clear c24b0
                      try clear c25
                      try clear c25b0
                      try clear c26
                      try clear c33
                      try clear c34
                      try clear c38
                      try clear c40
                      try clear c41
                      try clear c41b0
                      try clear c42
                      try clear c42b0
                      try clear c43
                      try clear c43b0
                      try clear p43
                      try clear q43
                      try clear hx43
                      try clear p44
                      try clear q44
                      try clear hx44
                      try clear c50
                      try clear c52
                      try clear c55
                      try clear hcz47_0
                      try clear hcz47_1
                      try clear hcz53_0
                      try clear hcz53_1
                      try clear hfz47_0
                      try clear hfz47_1
                      try clear hfz53_0
                      try clear hfz53_1
                      try clear hx438_0
                      try clear hx438_1
                      try clear hx448_0
                      try clear hx448_1
                      try clear p2
                      try clear p4
                      try clear p43
                      try clear p438
                      try clear p44
                      try clear p448
                      try clear p6
                      try clear q4
                      try clear q43
                      try clear q438
                      try clear q44
                      try clear q448
                      obtain ⟨x128_6, rfl, HA, HK6, HO_5, HO_6, HO_16, HO_99, HO_126, BK449, HB⟩ := hrel
                      cases gk with
                      | zero => exact absurd HA.out (by simp [laws_FnIndex.l2])
                      | succ k6 =>
                       have H := HA.out
                       clear HA
                       simp only [laws_FnIndex.l2] at H
                       by_cases c57 : x128_6 < (t450.length : Int)
                       ·rw [if_pos c57] at H
                        have c57b0 : decide (x128_6 < (t450.length : Int)) = true := decide_eq_true c57
                        clear c57
                        by_cases c58 : 0 ≤ x128_6
                        ·rw [if_pos c58] at H
                         have c58b0 : decide (0 ≤ x128_6) = true := decide_eq_true c58
                         clear c58
                         by_cases c59 : x128_6 < (t450.length : Int)
                         ·rw [if_pos c59] at H
                          have c59b0 : decide (x128_6 < (t450.length : Int)) = true := decide_eq_true c59
                          clear c59
                          have H' := Aside0.mk H
                          clear H
                          have p456 : 0 ≤ (x128_6 : Int) := of_decide_eq_true (by first | (with_reducible assumption) | assumption)
                          have q456 : x128_6 < (t450.length : Int) := of_decide_eq_true (by first | (with_reducible assumption) | assumption)
                          obtain ⟨ad456, e456, hx456_0⟩ := Kd.at_int (Kd.R_reads' HO_126.out).2.2 x128_6 p456 q456
                          cases e456
                          replace p456 := eq_true p456
                          replace q456 := eq_true q456
                          go_wp2
                          go_loopg [21, 135] k6 (fun kq v21 v135 w' => ∃ (x21_7 : Bool) (x135_7 : Int), v21 = .bool x21_7 ∧ v135 = .int .i64 x135_7 ∧ Aside0 (laws_FnIndex.l3 kq l1 t425 t428 t450 x128_6 (rd t450 x128_6) x21_7 t425 (t425.length : Int) x101_4 t450 (t450.length : Int) x128_6 t425 (t425.length : Int) x135_7 ((rd_T51 t425 x101_4).f0) ((rd_T51 t425 x101_4).f1) = some r) ∧ Aside0 (kq ≤ k6) ∧ Aside0 (Kd.R k51 51 w' w.heap.size (fun k_ => k_ ≠ gb449) (.slice (some ad448) t425.length co9) t425) ∧ Aside0 (Kd.S k74 74 w' w.heap.size (fun k_ => some k_ ≠ ((.slice (some ad456) t450.length co56) : Value).ownBlock ∧ some k_ ≠ ((.slice (some ad456) t450.length co56) : Value).ownBlock) (.slice Ao48 t428.length co48) t428) ∧ Aside0 (Kd.R (Kd.int .i64) 3 w' w.heap.size (fun _ => True) (.slice (some ad456) t450.length co56) t450) ∧ Aside0 (Kd.R k51 51 w' w.heap.size (fun k_ => k_ ≠ gb449) (.slice (some ad448) t425.length co9) t425) ∧ Aside0 (Kd.R (Kd.int .i64) 3 w' w.heap.size (fun _ => True) (.slice (some ad456) t450.length co56) t450) ∧ Aside0 (Kd.R k51 51 w' w.heap.size (fun k_ => k_ ≠ gb449) (.slice (some ad448) t425.length co9) t425) ∧ Aside0 (w'.heap[gb449]? = some (.cells #[.string ((rd_T51 t425 x101_4).f0), .int .i64 ((rd_T51 t425 x101_4).f1)] 51 (0, 0))) ∧ Aside0 (Below w.heap.size w w'))
                          case atStart => exact ⟨(false), (0), (by first | rfl | (simp; done) | (simp [*]; done) | (simp; apply Bool.eq_iff_iff.mpr; simp only [bne_iff_ne, ne_eq, beq_iff_eq]; omega)), (by first | rfl | (simp; done) | (simp [*]; done) | (simp; apply Bool.eq_iff_iff.mpr; simp only [bne_iff_ne, ne_eq, beq_iff_eq]; omega)), H', ⟨Nat.le_refl _⟩, ⟨by (with_reducible repeat (first | apply Kd.R_alloc | apply Kd.R_drewN | apply Kd.R_drew)); exact HO_5.out⟩, ⟨by (with_reducible repeat (first | apply Kd.S_alloc | apply Kd.S_drewN | apply Kd.S_drew)); exact HO_6.out⟩, ⟨by (with_reducible repeat (first | apply Kd.R_alloc | apply Kd.R_drewN | apply Kd.R_drew)); exact HO_16.out⟩, ⟨by (with_reducible repeat (first | apply Kd.R_alloc | apply Kd.R_drewN | apply Kd.R_drew)); exact HO_99.out⟩, ⟨by (with_reducible repeat (first | apply Kd.R_alloc | apply Kd.R_drewN | apply Kd.R_drew)); exact HO_126.out⟩, ⟨by (with_reducible repeat (first | apply Kd.R_alloc | apply Kd.R_drewN | apply Kd.R_drew)); exact HO_5.out⟩, ⟨by (with_reducible repeat first | apply q1_ | apply q2_ | apply q3_); exact BK449.out⟩, ⟨by repeat (first | (with_reducible first | exact HB.out | apply q4_ | apply q5_ | apply q6_ | refine below_set ?_ GE449.out) | exact HB.out)⟩⟩
                          case round =>
                           clear H'
                           try clear c1
                           try clear c2
                           try clear p2
                           try clear c3
                           try clear c3b0
                           try clear c4
                           try clear p4
                           try clear q4
                           try clear hx4
                           try clear c5
                           try clear p6
                           try clear c9
                           try clear c12
                           try clear c12b0
                           try clear c12b1
                           try clear c12b2
                           try clear c14
                           try clear c17
                           try clear c19
                           try clear c20
                           try clear c22
                           try clear c23
                           try clear c23b0
                           try clear c24
                           try clear c24b0
                           try clear c25
                           try clear c25b0
                           try clear c26
                           try clear c33
                           try clear c34
                           try clear c38
                           try clear c40
                           try clear c41
                           try clear c41b0
                           try clear c42
                           try clear c42b0
                           try clear c43
                           try clear c43b0
                           try clear p43
                           try clear q43
                           try clear hx43
                           try clear p44
                           try clear q44
                           try clear hx44
                           try clear p45
                           try clear q45
                           try clear hx45
                           try clear c50
                           try clear c52
                           try clear c55
                           try clear c57
                           try clear c57b0
                           try clear c58
                           try clear c58b0
                           try clear c59
                           try clear c59b0
                           try clear hcz47_0
                           try clear hcz47_1
                           try clear hcz53_0
                           try clear hcz53_1
                           try clear hfz47_0
                           try clear hfz47_1
                           try clear hfz53_0
                           try clear hfz53_1
                           try clear hx438_0
                           try clear hx438_1
                           try clear hx448_0
                           try clear hx448_1
                           try clear hx456_0
                           try clear p2
                           try clear p4
                           try clear p43
                           try clear p438
                           try clear p44
                           try clear p448
                           try clear p456
                           try clear p6
                           try clear q4
                           try clear q43
                           try clear q438
                           try clear q44
                           try clear q448
                           try clear q456
                           obtain ⟨x21_7, x135_7, rfl, rfl, HA, HK7, HO_5, HO_6, HO_16, HO_99, HO_126, HO_133, BK449, HB⟩ := hrel
                           cases gk with
                           | zero => exact absurd HA.out (by simp [laws_FnIndex.l3])
                           | succ k7 =>
                            have H := HA.out
                            clear HA
                            simp only [laws_FnIndex.l3] at H
                            by_cases c60 : x135_7 < (t425.length : Int)
                            ·rw [if_pos c60] at H
                             have c60b0 : decide (x135_7 < (t425.length : Int)) = true := decide_eq_true c60
                             clear c60
                             by_cases c61 : 0 ≤ x135_7
                             ·rw [if_pos c61] at H
                              have c61b0 : decide (0 ≤ x135_7) = true := decide_eq_true c61
                              clear c61
                              by_cases c62 : x135_7 < (t425.length : Int)
                              ·rw [if_pos c62] at H
                               have c62b0 : decide (x135_7 < (t425.length : Int)) = true := decide_eq_true c62
                               clear c62
                               by_cases c63 : x21_7 = true
                               ·subst c63
                                have H1 : (laws_FnIndex.l3 k7 l1 t425 t428 t450 x128_6 (rd t450 x128_6) true t425 (t425.length : Int) x101_4 t450 (t450.length : Int) x128_6 t425 (t425.length : Int) (wrap64 (x135_7 + 1)) ((rd_T51 t425 x101_4).f0) ((rd_T51 t425 x101_4).f1)) = some r := by rw [if_pos rfl] at H; exact H
                                clear H
                                have H := H1
                                clear H1
                                as_aux_lemma =>
                                 have H' := Aside0.mk H
                                 clear H
                                 have p457 : 0 ≤ (x135_7 : Int) := of_decide_eq_true (by first | (with_reducible assumption) | assumption)
                                 have q457 : x135_7 < (t425.length : Int) := of_decide_eq_true (by first | (with_reducible assumption) | assumption)
                                 obtain ⟨ad457, e457, hx457_0, hx457_1⟩ := at_T51 (Kd.R_reads' HO_133.out).2.2 x135_7 p457 q457
                                 obtain rfl : ad448 = ad457 := (by injection e457)
                                 replace p457 := eq_true p457
                                 replace q457 := eq_true q457
                                 go_wp2_with (first | ((with_reducible refine gate_dst (N := 23) rfl ?_); refine box_event ?hg (N := 23) ?hd (cs := #[.string (⟨#[]⟩ : ByteArray), .int .i64 0]) (t := 51) ?hr ?_; (case hd => rfl); (case hg => rfl); (case hr => first | (go_simp; done) | (go_simp; rfl)); intro gb458 hg w64 hbox hb; have n0_ := Aside0.mk (Kd.R_below (Kd.R_elderB (by (with_reducible repeat (first | apply Kd.R_alloc | apply Kd.R_drewN | apply Kd.R_drew)); exact HO_5.out) gb458 (Nat.le_of_eq hg.symm)) hb); have n1_ := Aside0.mk (Kd.S_below (by (with_reducible repeat (first | apply Kd.S_alloc | apply Kd.S_drewN | apply Kd.S_drew)); exact HO_6.out) hb); have n2_ := Aside0.mk (Kd.R_below (by (with_reducible repeat (first | apply Kd.R_alloc | apply Kd.R_drewN | apply Kd.R_drew)); exact HO_16.out) hb); have n3_ := Aside0.mk (Kd.R_below (Kd.R_elderB (by (with_reducible repeat (first | apply Kd.R_alloc | apply Kd.R_drewN | apply Kd.R_drew)); exact HO_99.out) gb458 (Nat.le_of_eq hg.symm)) hb); have n4_ := Aside0.mk (Kd.R_below (by (with_reducible repeat (first | apply Kd.R_alloc | apply Kd.R_drewN | apply Kd.R_drew)); exact HO_126.out) hb); have n5_ := Aside0.mk (Kd.R_below (Kd.R_elderB (by (with_reducible repeat (first | apply Kd.R_alloc | apply Kd.R_drewN | apply Kd.R_drew)); exact HO_133.out) gb458 (Nat.le_of_eq hg.symm)) hb); have n6_ := Aside0.mk (blk_below (g := gb449) (o := .cells #[.string ((rd_T51 t425 x101_4).f0), .int .i64 ((rd_T51 t425 x101_4).f1)] 51 (0, 0)) (by (with_reducible repeat first | apply q1_ | apply q2_ | apply q3_); exact BK449.out) hb); have n7_ := Aside0.mk (below_step (by repeat (first | (with_reducible first | exact HB.out | apply q4_ | apply q5_ | apply q6_ | refine below_set ?_ GE449.out) | exact HB.out)) hb); have n8_ := Aside0.mk (hbox); have n9_ := Aside0.mk ((by rw [hg]; exact (below_size (by repeat (first | (with_reducible first | exact HB.out | apply q4_ | apply q5_ | apply q6_ | refine below_set ?_ GE449.out) | exact HB.out))) : w.heap.size ≤ gb458)); have n10_ := Aside0.mk ((by rw [hg]; exact (below_size (by repeat (first | (with_reducible first | exact HB.out | apply q4_ | apply q5_ | apply q6_ | refine below_set ?_ GE449.out) | exact HB.out))) : w.heap.size ≤ gb458)); have n11_ := Aside0.mk ((by rw [hg]; exact Nat.ne_of_lt (blk_lt (g := gb449) (o := .cells #[.string ((rd_T51 t425 x101_4).f0), .int .i64 ((rd_T51 t425 x101_4).f1)] 51 (0, 0)) (by (with_reducible repeat first | apply q1_ | apply q2_ | apply q3_); exact BK449.out)) : gb449 ≠ gb458)); have n12_ := Aside0.mk ((by rw [hg]; exact Nat.ne_of_gt (blk_lt (g := gb449) (o := .cells #[.string ((rd_T51 t425 x101_4).f0), .int .i64 ((rd_T51 t425 x101_4).f1)] 51 (0, 0)) (by (with_reducible repeat first | apply q1_ | apply q2_ | apply q3_); exact BK449.out)) : gb458 ≠ gb449)); clear HO_5; clear HO_6; clear HO_16; clear HO_99; clear HO_126; clear HO_133; clear BK449; clear HB; have HO_5 := n0_; have HO_6 := n1_; have HO_16 := n2_; have HO_99 := n3_; have HO_126 := n4_; have HO_133 := n5_; have BK449 := n6_; have HB := n7_; have BK458 := n8_; have GW458 := n9_; have GE458 := n10_; have NB449_458 := n11_; have NB458_449 := n12_; clear n0_ n1_ n2_ n3_ n4_ n5_ n6_ n7_ n8_ n9_ n10_ n11_ n12_; clear hb hbox hg; have hnb65 := NB458_449.out; have hnc65 := NB449_458.out; have hcz66_0 : w64.cell? ⟨gb458, 0, none⟩ = some (.string (⟨#[]⟩ : ByteArray)) := (blk_cell BK458.out 0).trans rfl; have hcz66_1 : w64.cell? ⟨gb458, 1, none⟩ = some (.int .i64 0) := (blk_cell BK458.out 1).trans rfl; have hfz66_0 := blk_frozen BK458.out 0; have hfz66_1 := blk_frozen BK458.out 1))
                                 go_roundg k7
                                 case measure => have := HJ6.out; have := HK2.out; have := HJ28.out; have := HK4.out; have := HJ44.out; have := HK6.out; have := HK7.out; omega
                                 case rel => exact ⟨(true), (wrap64 (x135_7 + 1)), (by first | rfl | (simp; done) | (simp [*]; done) | (simp; apply Bool.eq_iff_iff.mpr; simp only [bne_iff_ne, ne_eq, beq_iff_eq]; omega)), (by first | rfl | (simp; done) | (simp [*]; done) | (simp; apply Bool.eq_iff_iff.mpr; simp only [bne_iff_ne, ne_eq, beq_iff_eq]; omega)), H', ⟨by have := HJ6.out; have := HK2.out; have := HJ28.out; have := HK4.out; have := HJ44.out; have := HK6.out; have := HK7.out; omega⟩, ⟨by (with_reducible repeat (first | apply Kd.R_alloc | apply Kd.R_drewN | apply Kd.R_drew)); exact Kd.R_mono (Kd.R_far (p := ⟨gb458, 1, none⟩) (Kd.R_far (p := ⟨gb458, 0, none⟩) (Kd.R_mono HO_5.out (fun k_ hk => (⟨hk, hk.2⟩ : _ ∧ k_ ≠ gb458))) (fun _ hk => hk.2) (.string ((rd_T51 t425 x135_7).f0))) (fun _ hk => hk.2) (.int .i64 ((rd_T51 t425 x135_7).f1))) (fun _ hk => hk.1.1)⟩, ⟨by (with_reducible repeat (first | apply Kd.S_alloc | apply Kd.S_drewN | apply Kd.S_drew)); exact Kd.S_mono (Kd.S_far (p := ⟨gb458, 1, none⟩) (Kd.S_far (p := ⟨gb458, 0, none⟩) (Kd.S_types HO_6.out BK458.out (by decide)) (fun _ hk => hk.2) (.string ((rd_T51 t425 x135_7).f0))) (fun _ hk => hk.2) (.int .i64 ((rd_T51 t425 x135_7).f1))) (fun _ hk => ⟨hk.1.1, hk.1.2⟩)⟩, ⟨by (with_reducible repeat (first | apply Kd.R_alloc | apply Kd.R_drewN | apply Kd.R_drew)); exact Kd.R_mono (Kd.R_far (p := ⟨gb458, 1, none⟩) (Kd.R_far (p := ⟨gb458, 0, none⟩) (Kd.R_types HO_16.out BK458.out (by decide)) (fun _ hk => hk.2) (.string ((rd_T51 t425 x135_7).f0))) (fun _ hk => hk.2) (.int .i64 ((rd_T51 t425 x135_7).f1))) (fun _ hk => trivial)⟩, ⟨by (with_reducible repeat (first | apply Kd.R_alloc | apply Kd.R_drewN | apply Kd.R_drew)); exact Kd.R_mono (Kd.R_far (p := ⟨gb458, 1, none⟩) (Kd.R_far (p := ⟨gb458, 0, none⟩) (Kd.R_mono HO_99.out (fun k_ hk => (⟨hk, hk.2⟩ : _ ∧ k_ ≠ gb458))) (fun _ hk => hk.2) (.string ((rd_T51 t425 x135_7).f0))) (fun _ hk => hk.2) (.int .i64 ((rd_T51 t425 x135_7).f1))) (fun _ hk => hk.1.1)⟩, ⟨by (with_reducible repeat (first | apply Kd.R_alloc | apply Kd.R_drewN | apply Kd.R_drew)); exact Kd.R_mono (Kd.R_far (p := ⟨gb458, 1, none⟩) (Kd.R_far (p := ⟨gb458, 0, none⟩) (Kd.R_types HO_126.out BK458.out (by decide)) (fun _ hk => hk.2) (.string ((rd_T51 t425 x135_7).f0))) (fun _ hk => hk.2) (.int .i64 ((rd_T51 t425 x135_7).f1))) (fun _ hk => trivial)⟩, ⟨by (with_reducible repeat (first | apply Kd.R_alloc | apply Kd.R_drewN | apply Kd.R_drew)); exact Kd.R_mono (Kd.R_far (p := ⟨gb458, 1, none⟩) (Kd.R_far (p := ⟨gb458, 0, none⟩) (Kd.R_mono HO_133.out (fun k_ hk => (⟨hk, hk.2⟩ : _ ∧ k_ ≠ gb458))) (fun _ hk => hk.2) (.string ((rd_T51 t425 x135_7).f0))) (fun _ hk => hk.2) (.int .i64 ((rd_T51 t425 x135_7).f1))) (fun _ hk => hk.1.1)⟩, ⟨by (with_reducible repeat first | apply q1_ | apply q2_ | apply q3_); refine blk_far ?_ NB449_458.out _; (with_reducible repeat first | apply q1_ | apply q2_ | apply q3_); refine blk_far ?_ NB449_458.out _; (with_reducible repeat first | apply q1_ | apply q2_ | apply q3_); exact BK449.out⟩, ⟨by repeat (first | (with_reducible first | exact HB.out | apply q4_ | apply q5_ | apply q6_ | refine below_set ?_ GE449.out | refine below_set ?_ GE458.out) | exact HB.out)⟩⟩
                               ·replace c63 := Bool.eq_false_iff.mpr c63
                                subst c63
                                have H1 : (if ((rd_T51 t425 x135_7).f0).toList = ((rd_T51 t425 x101_4).f0).toList then (laws_FnIndex.l3 k7 l1 t425 t428 t450 x128_6 (rd t450 x128_6) (((rd_T51 t425 x135_7).f1) == (rd t450 x128_6)) t425 (t425.length : Int) x101_4 t450 (t450.length : Int) x128_6 t425 (t425.length : Int) (wrap64 (x135_7 + 1)) ((rd_T51 t425 x101_4).f0) ((rd_T51 t425 x101_4).f1)) else (laws_FnIndex.l3 k7 l1 t425 t428 t450 x128_6 (rd t450 x128_6) false t425 (t425.length : Int) x101_4 t450 (t450.length : Int) x128_6 t425 (t425.length : Int) (wrap64 (x135_7 + 1)) ((rd_T51 t425 x101_4).f0) ((rd_T51 t425 x101_4).f1))) = some r := by rw [if_neg (show ¬ (false = true) by decide)] at H; exact H
                                clear H
                                have H := H1
                                clear H1
                                by_cases c67 : ((rd_T51 t425 x135_7).f0).toList = ((rd_T51 t425 x101_4).f0).toList
                                ·rw [if_pos c67] at H
                                 have c67b0 : (((rd_T51 t425 x135_7).f0).toList == ((rd_T51 t425 x101_4).f0).toList) = true := beq_iff_eq.mpr c67
                                 have c67b1 : (((rd_T51 t425 x135_7).f0).toList != ((rd_T51 t425 x101_4).f0).toList) = false := bne_eq_false_iff_eq.mpr c67
                                 clear c67
                                 as_aux_lemma =>
                                  have H' := Aside0.mk H
                                  clear H
                                  have p457 : 0 ≤ (x135_7 : Int) := of_decide_eq_true (by first | (with_reducible assumption) | assumption)
                                  have q457 : x135_7 < (t425.length : Int) := of_decide_eq_true (by first | (with_reducible assumption) | assumption)
                                  obtain ⟨ad457, e457, hx457_0, hx457_1⟩ := at_T51 (Kd.R_reads' HO_133.out).2.2 x135_7 p457 q457
                                  obtain rfl : ad448 = ad457 := (by injection e457)
                                  replace p457 := eq_true p457
                                  replace q457 := eq_true q457
                                  go_wp2_with (first | ((with_reducible refine gate_dst (N := 23) rfl ?_); refine box_event ?hg (N := 23) ?hd (cs := #[.string (⟨#[]⟩ : ByteArray), .int .i64 0]) (t := 51) ?hr ?_; (case hd => rfl); (case hg => rfl); (case hr => first | (go_simp; done) | (go_simp; rfl)); intro gb458 hg w68 hbox hb; have n0_ := Aside0.mk (Kd.R_below (Kd.R_elderB (by (with_reducible repeat (first | apply Kd.R_alloc | apply Kd.R_drewN | apply Kd.R_drew)); exact HO_5.out) gb458 (Nat.le_of_eq hg.symm)) hb); have n1_ := Aside0.mk (Kd.S_below (by (with_reducible repeat (first | apply Kd.S_alloc | apply Kd.S_drewN | apply Kd.S_drew)); exact HO_6.out) hb); have n2_ := Aside0.mk (Kd.R_below (by (with_reducible repeat (first | apply Kd.R_alloc | apply Kd.R_drewN | apply Kd.R_drew)); exact HO_16.out) hb); have n3_ := Aside0.mk (Kd.R_below (Kd.R_elderB (by (with_reducible repeat (first | apply Kd.R_alloc | apply Kd.R_drewN | apply Kd.R_drew)); exact HO_99.out) gb458 (Nat.le_of_eq hg.symm)) hb); have n4_ := Aside0.mk (Kd.R_below (by (with_reducible repeat (first | apply Kd.R_alloc | apply Kd.R_drewN | apply Kd.R_drew)); exact HO_126.out) hb); have n5_ := Aside0.mk (Kd.R_below (Kd.R_elderB (by (with_reducible repeat (first | apply Kd.R_alloc | apply Kd.R_drewN | apply Kd.R_drew)); exact HO_133.out) gb458 (Nat.le_of_eq hg.symm)) hb); have n6_ := Aside0.mk (blk_below (g := gb449) (o := .cells #[.string ((rd_T51 t425 x101_4).f0), .int .i64 ((rd_T51 t425 x101_4).f1)] 51 (0, 0)) (by (with_reducible repeat first | apply q1_ | apply q2_ | apply q3_); exact BK449.out) hb); have n7_ := Aside0.mk (below_step (by repeat (first | (with_reducible first | exact HB.out | apply q4_ | apply q5_ | apply q6_ | refine below_set ?_ GE449.out) | exact HB.out)) hb); have n8_ := Aside0.mk (hbox); have n9_ := Aside0.mk ((by rw [hg]; exact (below_size (by repeat (first | (with_reducible first | exact HB.out | apply q4_ | apply q5_ | apply q6_ | refine below_set ?_ GE449.out) | exact HB.out))) : w.heap.size ≤ gb458)); have n10_ := Aside0.mk ((by rw [hg]; exact (below_size (by repeat (first | (with_reducible first | exact HB.out | apply q4_ | apply q5_ | apply q6_ | refine below_set ?_ GE449.out) | exact HB.out))) : w.heap.size ≤ gb458)); have n11_ := Aside0.mk ((by rw [hg]; exact Nat.ne_of_lt (blk_lt (g := gb449) (o := .cells #[.string ((rd_T51 t425 x101_4).f0), .int .i64 ((rd_T51 t425 x101_4).f1)] 51 (0, 0)) (by (with_reducible repeat first | apply q1_ | apply q2_ | apply q3_); exact BK449.out)) : gb449 ≠ gb458)); have n12_ := Aside0.mk ((by rw [hg]; exact Nat.ne_of_gt (blk_lt (g := gb449) (o := .cells #[.string ((rd_T51 t425 x101_4).f0), .int .i64 ((rd_T51 t425 x101_4).f1)] 51 (0, 0)) (by (with_reducible repeat first | apply q1_ | apply q2_ | apply q3_); exact BK449.out)) : gb458 ≠ gb449)); clear HO_5; clear HO_6; clear HO_16; clear HO_99; clear HO_126; clear HO_133; clear BK449; clear HB; have HO_5 := n0_; have HO_6 := n1_; have HO_16 := n2_; have HO_99 := n3_; have HO_126 := n4_; have HO_133 := n5_; have BK449 := n6_; have HB := n7_; have BK458 := n8_; have GW458 := n9_; have GE458 := n10_; have NB449_458 := n11_; have NB458_449 := n12_; clear n0_ n1_ n2_ n3_ n4_ n5_ n6_ n7_ n8_ n9_ n10_ n11_ n12_; clear hb hbox hg; have hnb69 := NB458_449.out; have hnc69 := NB449_458.out; have hcz70_0 : w68.cell? ⟨gb458, 0, none⟩ = some (.string (⟨#[]⟩ : ByteArray)) := (blk_cell BK458.out 0).trans rfl; have hcz70_1 : w68.cell? ⟨gb458, 1, none⟩ = some (.int .i64 0) := (blk_cell BK458.out 1).trans rfl; have hfz70_0 := blk_frozen BK458.out 0; have hfz70_1 := blk_frozen BK458.out 1; have hcz71_0 : w68.cell? ⟨gb449, 0, none⟩ = some (.string ((rd_T51 t425 x101_4).f0)) := (blk_cell BK449.out 0).trans rfl; have hcz71_1 : w68.cell? ⟨gb449, 1, none⟩ = some (.int .i64 ((rd_T51 t425 x101_4).f1)) := (blk_cell BK449.out 1).trans rfl; have hfz71_0 := blk_frozen BK449.out 0; have hfz71_1 := blk_frozen BK449.out 1))
                                  go_roundg k7
                                  case measure => have := HJ6.out; have := HK2.out; have := HJ28.out; have := HK4.out; have := HJ44.out; have := HK6.out; have := HK7.out; omega
                                  case rel => exact ⟨((((rd_T51 t425 x135_7).f1) == (rd t450 x128_6))), (wrap64 (x135_7 + 1)), (by first | rfl | (simp; done) | (simp [*]; done) | (simp; apply Bool.eq_iff_iff.mpr; simp only [bne_iff_ne, ne_eq, beq_iff_eq]; omega)), (by first | rfl | (simp; done) | (simp [*]; done) | (simp; apply Bool.eq_iff_iff.mpr; simp only [bne_iff_ne, ne_eq, beq_iff_eq]; omega)), H', ⟨by have := HJ6.out; have := HK2.out; have := HJ28.out; have := HK4.out; have := HJ44.out; have := HK6.out; have := HK7.out; omega⟩, ⟨by (with_reducible repeat (first | apply Kd.R_alloc | apply Kd.R_drewN | apply Kd.R_drew)); exact Kd.R_mono (Kd.R_far (p := ⟨gb458, 1, none⟩) (Kd.R_far (p := ⟨gb458, 0, none⟩) (Kd.R_mono HO_5.out (fun k_ hk => (⟨hk, hk.2⟩ : _ ∧ k_ ≠ gb458))) (fun _ hk => hk.2) (.string ((rd_T51 t425 x135_7).f0))) (fun _ hk => hk.2) (.int .i64 ((rd_T51 t425 x135_7).f1))) (fun _ hk => hk.1.1)⟩, ⟨by (with_reducible repeat (first | apply Kd.S_alloc | apply Kd.S_drewN | apply Kd.S_drew)); exact Kd.S_mono (Kd.S_far (p := ⟨gb458, 1, none⟩) (Kd.S_far (p := ⟨gb458, 0, none⟩) (Kd.S_types HO_6.out BK458.out (by decide)) (fun _ hk => hk.2) (.string ((rd_T51 t425 x135_7).f0))) (fun _ hk => hk.2) (.int .i64 ((rd_T51 t425 x135_7).f1))) (fun _ hk => ⟨hk.1.1, hk.1.2⟩)⟩, ⟨by (with_reducible repeat (first | apply Kd.R_alloc | apply Kd.R_drewN | apply Kd.R_drew)); exact Kd.R_mono (Kd.R_far (p := ⟨gb458, 1, none⟩) (Kd.R_far (p := ⟨gb458, 0, none⟩) (Kd.R_types HO_16.out BK458.out (by decide)) (fun _ hk => hk.2) (.string ((rd_T51 t425 x135_7).f0))) (fun _ hk => hk.2) (.int .i64 ((rd_T51 t425 x135_7).f1))) (fun _ hk => trivial)⟩, ⟨by (with_reducible repeat (first | apply Kd.R_alloc | apply Kd.R_drewN | apply Kd.R_drew)); exact Kd.R_mono (Kd.R_far (p := ⟨gb458, 1, none⟩) (Kd.R_far (p := ⟨gb458, 0, none⟩) (Kd.R_mono HO_99.out (fun k_ hk => (⟨hk, hk.2⟩ : _ ∧ k_ ≠ gb458))) (fun _ hk => hk.2) (.string ((rd_T51 t425 x135_7).f0))) (fun _ hk => hk.2) (.int .i64 ((rd_T51 t425 x135_7).f1))) (fun _ hk => hk.1.1)⟩, ⟨by (with_reducible repeat (first | apply Kd.R_alloc | apply Kd.R_drewN | apply Kd.R_drew)); exact Kd.R_mono (Kd.R_far (p := ⟨gb458, 1, none⟩) (Kd.R_far (p := ⟨gb458, 0, none⟩) (Kd.R_types HO_126.out BK458.out (by decide)) (fun _ hk => hk.2) (.string ((rd_T51 t425 x135_7).f0))) (fun _ hk => hk.2) (.int .i64 ((rd_T51 t425 x135_7).f1))) (fun _ hk => trivial)⟩, ⟨by (with_reducible repeat (first | apply Kd.R_alloc | apply Kd.R_drewN | apply Kd.R_drew)); exact Kd.R_mono (Kd.R_far (p := ⟨gb458, 1, none⟩) (Kd.R_far (p := ⟨gb458, 0, none⟩) (Kd.R_mono HO_133.out (fun k_ hk => (⟨hk, hk.2⟩ : _ ∧ k_ ≠ gb458))) (fun _ hk => hk.2) (.string ((rd_T51 t425 x135_7).f0))) (fun _ hk => hk.2) (.int .i64 ((rd_T51 t425 x135_7).f1))) (fun _ hk => hk.1.1)⟩, ⟨by (with_reducible repeat first | apply q1_ | apply q2_ | apply q3_); refine blk_far ?_ NB449_458.out _; (with_reducible repeat first | apply q1_ | apply q2_ | apply q3_); refine blk_far ?_ NB449_458.out _; (with_reducible repeat first | apply q1_ | apply q2_ | apply q3_); exact BK449.out⟩, ⟨by repeat (first | (with_reducible first | exact HB.out | apply q4_ | apply q5_ | apply q6_ | refine below_set ?_ GE449.out | refine below_set ?_ GE458.out) | exact HB.out)⟩⟩
                                ·rw [if_neg c67] at H
                                 have c67b0 : (((rd_T51 t425 x135_7).f0).toList == ((rd_T51 t425 x101_4).f0).toList) = false := beq_eq_false_iff_ne.mpr c67
                                 have c67b1 : (((rd_T51 t425 x135_7).f0).toList != ((rd_T51 t425 x101_4).f0).toList) = true := bne_iff_ne.mpr c67
                                 as_aux_lemma =>
                                  have H' := Aside0.mk H
                                  clear H
                                  have p457 : 0 ≤ (x135_7 : Int) := of_decide_eq_true (by first | (with_reducible assumption) | assumption)
                                  have q457 : x135_7 < (t425.length : Int) := of_decide_eq_true (by first | (with_reducible assumption) | assumption)
                                  obtain ⟨ad457, e457, hx457_0, hx457_1⟩ := at_T51 (Kd.R_reads' HO_133.out).2.2 x135_7 p457 q457
                                  obtain rfl : ad448 = ad457 := (by injection e457)
                                  replace p457 := eq_true p457
                                  replace q457 := eq_true q457
                                  go_wp2_with (first | ((with_reducible refine gate_dst (N := 23) rfl ?_); refine box_event ?hg (N := 23) ?hd (cs := #[.string (⟨#[]⟩ : ByteArray), .int .i64 0]) (t := 51) ?hr ?_; (case hd => rfl); (case hg => rfl); (case hr => first | (go_simp; done) | (go_simp; rfl)); intro gb458 hg w72 hbox hb; have n0_ := Aside0.mk (Kd.R_below (Kd.R_elderB (by (with_reducible repeat (first | apply Kd.R_alloc | apply Kd.R_drewN | apply Kd.R_drew)); exact HO_5.out) gb458 (Nat.le_of_eq hg.symm)) hb); have n1_ := Aside0.mk (Kd.S_below (by (with_reducible repeat (first | apply Kd.S_alloc | apply Kd.S_drewN | apply Kd.S_drew)); exact HO_6.out) hb); have n2_ := Aside0.mk (Kd.R_below (by (with_reducible repeat (first | apply Kd.R_alloc | apply Kd.R_drewN | apply Kd.R_drew)); exact HO_16.out) hb); have n3_ := Aside0.mk (Kd.R_below (Kd.R_elderB (by (with_reducible repeat (first | apply Kd.R_alloc | apply Kd.R_drewN | apply Kd.R_drew)); exact HO_99.out) gb458 (Nat.le_of_eq hg.symm)) hb); have n4_ := Aside0.mk (Kd.R_below (by (with_reducible repeat (first | apply Kd.R_alloc | apply Kd.R_drewN | apply Kd.R_drew)); exact HO_126.out) hb); have n5_ := Aside0.mk (Kd.R_below (Kd.R_elderB (by (with_reducible repeat (first | apply Kd.R_alloc | apply Kd.R_drewN | apply Kd.R_drew)); exact HO_133.out) gb458 (Nat.le_of_eq hg.symm)) hb); have n6_ := Aside0.mk (blk_below (g := gb449) (o := .cells #[.string ((rd_T51 t425 x101_4).f0), .int .i64 ((rd_T51 t425 x101_4).f1)] 51 (0, 0)) (by (with_reducible repeat first | apply q1_ | apply q2_ | apply q3_); exact BK449.out) hb); have n7_ := Aside0.mk (below_step (by repeat (first | (with_reducible first | exact HB.out | apply q4_ | apply q5_ | apply q6_ | refine below_set ?_ GE449.out) | exact HB.out)) hb); have n8_ := Aside0.mk (hbox); have n9_ := Aside0.mk ((by rw [hg]; exact (below_size (by repeat (first | (with_reducible first | exact HB.out | apply q4_ | apply q5_ | apply q6_ | refine below_set ?_ GE449.out) | exact HB.out))) : w.heap.size ≤ gb458)); have n10_ := Aside0.mk ((by rw [hg]; exact (below_size (by repeat (first | (with_reducible first | exact HB.out | apply q4_ | apply q5_ | apply q6_ | refine below_set ?_ GE449.out) | exact HB.out))) : w.heap.size ≤ gb458)); have n11_ := Aside0.mk ((by rw [hg]; exact Nat.ne_of_lt (blk_lt (g := gb449) (o := .cells #[.string ((rd_T51 t425 x101_4).f0), .int .i64 ((rd_T51 t425 x101_4).f1)] 51 (0, 0)) (by (with_reducible repeat first | apply q1_ | apply q2_ | apply q3_); exact BK449.out)) : gb449 ≠ gb458)); have n12_ := Aside0.mk ((by rw [hg]; exact Nat.ne_of_gt (blk_lt (g := gb449) (o := .cells #[.string ((rd_T51 t425 x101_4).f0), .int .i64 ((rd_T51 t425 x101_4).f1)] 51 (0, 0)) (by (with_reducible repeat first | apply q1_ | apply q2_ | apply q3_); exact BK449.out)) : gb458 ≠ gb449)); clear HO_5; clear HO_6; clear HO_16; clear HO_99; clear HO_126; clear HO_133; clear BK449; clear HB; have HO_5 := n0_; have HO_6 := n1_; have HO_16 := n2_; have HO_99 := n3_; have HO_126 := n4_; have HO_133 := n5_; have BK449 := n6_; have HB := n7_; have BK458 := n8_; have GW458 := n9_; have GE458 := n10_; have NB449_458 := n11_; have NB458_449 := n12_; clear n0_ n1_ n2_ n3_ n4_ n5_ n6_ n7_ n8_ n9_ n10_ n11_ n12_; clear hb hbox hg; have hnb73 := NB458_449.out; have hnc73 := NB449_458.out; have hcz74_0 : w72.cell? ⟨gb458, 0, none⟩ = some (.string (⟨#[]⟩ : ByteArray)) := (blk_cell BK458.out 0).trans rfl; have hcz74_1 : w72.cell? ⟨gb458, 1, none⟩ = some (.int .i64 0) := (blk_cell BK458.out 1).trans rfl; have hfz74_0 := blk_frozen BK458.out 0; have hfz74_1 := blk_frozen BK458.out 1; have hcz75_0 : w72.cell? ⟨gb449, 0, none⟩ = some (.string ((rd_T51 t425 x101_4).f0)) := (blk_cell BK449.out 0).trans rfl; have hcz75_1 : w72.cell? ⟨gb449, 1, none⟩ = some (.int .i64 ((rd_T51 t425 x101_4).f1)) := (blk_cell BK449.out 1).trans rfl; have hfz75_0 := blk_frozen BK449.out 0; have hfz75_1 := blk_frozen BK449.out 1))
                                  go_roundg k7
                                  case measure => have := HJ6.out; have := HK2.out; have := HJ28.out; have := HK4.out; have := HJ44.out; have := HK6.out; have := HK7.out; omega
                                  case rel => exact ⟨(false), (wrap64 (x135_7 + 1)), (by first | rfl | (simp; done) | (simp [*]; done) | (simp; apply Bool.eq_iff_iff.mpr; simp only [bne_iff_ne, ne_eq, beq_iff_eq]; omega)), (by first | rfl | (simp; done) | (simp [*]; done) | (simp; apply Bool.eq_iff_iff.mpr; simp only [bne_iff_ne, ne_eq, beq_iff_eq]; omega)), H', ⟨by have := HJ6.out; have := HK2.out; have := HJ28.out; have := HK4.out; have := HJ44.out; have := HK6.out; have := HK7.out; omega⟩, ⟨by (with_reducible repeat (first | apply Kd.R_alloc | apply Kd.R_drewN | apply Kd.R_drew)); exact Kd.R_mono (Kd.R_far (p := ⟨gb458, 1, none⟩) (Kd.R_far (p := ⟨gb458, 0, none⟩) (Kd.R_mono HO_5.out (fun k_ hk => (⟨hk, hk.2⟩ : _ ∧ k_ ≠ gb458))) (fun _ hk => hk.2) (.string ((rd_T51 t425 x135_7).f0))) (fun _ hk => hk.2) (.int .i64 ((rd_T51 t425 x135_7).f1))) (fun _ hk => hk.1.1)⟩, ⟨by (with_reducible repeat (first | apply Kd.S_alloc | apply Kd.S_drewN | apply Kd.S_drew)); exact Kd.S_mono (Kd.S_far (p := ⟨gb458, 1, none⟩) (Kd.S_far (p := ⟨gb458, 0, none⟩) (Kd.S_types HO_6.out BK458.out (by decide)) (fun _ hk => hk.2) (.string ((rd_T51 t425 x135_7).f0))) (fun _ hk => hk.2) (.int .i64 ((rd_T51 t425 x135_7).f1))) (fun _ hk => ⟨hk.1.1, hk.1.2⟩)⟩, ⟨by (with_reducible repeat (first | apply Kd.R_alloc | apply Kd.R_drewN | apply Kd.R_drew)); exact Kd.R_mono (Kd.R_far (p := ⟨gb458, 1, none⟩) (Kd.R_far (p := ⟨gb458, 0, none⟩) (Kd.R_types HO_16.out BK458.out (by decide)) (fun _ hk => hk.2) (.string ((rd_T51 t425 x135_7).f0))) (fun _ hk => hk.2) (.int .i64 ((rd_T51 t425 x135_7).f1))) (fun _ hk => trivial)⟩, ⟨by (with_reducible repeat (first | apply Kd.R_alloc | apply Kd.R_drewN | apply Kd.R_drew)); exact Kd.R_mono (Kd.R_far (p := ⟨gb458, 1, none⟩) (Kd.R_far (p := ⟨gb458, 0, none⟩) (Kd.R_mono HO_99.out (fun k_ hk => (⟨hk, hk.2⟩ : _ ∧ k_ ≠ gb458))) (fun _ hk => hk.2) (.string ((rd_T51 t425 x135_7).f0))) (fun _ hk => hk.2) (.int .i64 ((rd_T51 t425 x135_7).f1))) (fun _ hk => hk.1.1)⟩, ⟨by (with_reducible repeat (first | apply Kd.R_alloc | apply Kd.R_drewN | apply Kd.R_drew)); exact Kd.R_mono (Kd.R_far (p := ⟨gb458, 1, none⟩) (Kd.R_far (p := ⟨gb458, 0, none⟩) (Kd.R_types HO_126.out BK458.out (by decide)) (fun _ hk => hk.2) (.string ((rd_T51 t425 x135_7).f0))) (fun _ hk => hk.2) (.int .i64 ((rd_T51 t425 x135_7).f1))) (fun _ hk => trivial)⟩, ⟨by (with_reducible repeat (first | apply Kd.R_alloc | apply Kd.R_drewN | apply Kd.R_drew)); exact Kd.R_mono (Kd.R_far (p := ⟨gb458, 1, none⟩) (Kd.R_far (p := ⟨gb458, 0, none⟩) (Kd.R_mono HO_133.out (fun k_ hk => (⟨hk, hk.2⟩ : _ ∧ k_ ≠ gb458))) (fun _ hk => hk.2) (.string ((rd_T51 t425 x135_7).f0))) (fun _ hk => hk.2) (.int .i64 ((rd_T51 t425 x135_7).f1))) (fun _ hk => hk.1.1)⟩, ⟨by (with_reducible repeat first | apply q1_ | apply q2_ | apply q3_); refine blk_far ?_ NB449_458.out _; (with_reducible repeat first | apply q1_ | apply q2_ | apply q3_); refine blk_far ?_ NB449_458.out _; (with_reducible repeat first | apply q1_ | apply q2_ | apply q3_); exact BK449.out⟩, ⟨by repeat (first | (with_reducible first | exact HB.out | apply q4_ | apply q5_ | apply q6_ | refine below_set ?_ GE449.out | refine below_set ?_ GE458.out) | exact HB.out)⟩⟩
                              ·rw [if_neg c62] at H
                               exact absurd H (by simp)
                             ·rw [if_neg c61] at H
                              exact absurd H (by simp)
                            ·rw [if_neg c60] at H
                             have c60b0 : decide (x135_7 < (t425.length : Int)) = false := decide_eq_false c60
                             clear c60
                             by_cases c76 : x21_7 = true
                             ·subst c76
                              have H1 : (if x128_6 > 0 then (if 0 ≤ (wrap64 (x128_6 - 1)) then (if (wrap64 (x128_6 - 1)) < (t450.length : Int) then (if (rd t450 (wrap64 (x128_6 - 1))) ≥ (rd t450 x128_6) then (some false) else (laws_FnIndex.l2 k7 l1 t425 t428 t450 t425 (t425.length : Int) x101_4 t450 (t450.length : Int) (wrap64 (x128_6 + 1)) ((rd_T51 t425 x101_4).f0) ((rd_T51 t425 x101_4).f1))) else (none)) else (none)) else (laws_FnIndex.l2 k7 l1 t425 t428 t450 t425 (t425.length : Int) x101_4 t450 (t450.length : Int) (wrap64 (x128_6 + 1)) ((rd_T51 t425 x101_4).f0) ((rd_T51 t425 x101_4).f1))) = some r := by rw [if_pos rfl] at H; exact H
                              clear H
                              have H := H1
                              clear H1
                              by_cases c77 : x128_6 > 0
                              ·rw [if_pos c77] at H
                               have c77b0 : decide (0 < x128_6) = true := decide_eq_true c77
                               clear c77
                               obtain ⟨ji78, hji78⟩ : ∃ j_ : Int, (wrap64 (x128_6 - 1)) = j_ := ⟨_, rfl⟩
                               replace H : (if 0 ≤ (ji78) then (if (ji78) < (t450.length : Int) then (if (rd t450 (ji78)) ≥ (rd t450 x128_6) then (some false) else (laws_FnIndex.l2 k7 l1 t425 t428 t450 t425 (t425.length : Int) x101_4 t450 (t450.length : Int) (wrap64 (x128_6 + 1)) ((rd_T51 t425 x101_4).f0) ((rd_T51 t425 x101_4).f1))) else (none)) else (none)) = some r := by first | (rw [hji78] at H; exact H) | (simp only [hji78] at H ⊢; exact H)
                               have hji78w : (IntKind.i64.wrap (x128_6 - 1)) = ji78 := (i64_w _).trans hji78
                               by_cases c79 : 0 ≤ (ji78)
                               ·rw [if_pos c79] at H
                                have c79b0 : decide (0 ≤ (ji78)) = true := decide_eq_true c79
                                clear c79
                                by_cases c80 : (ji78) < (t450.length : Int)
                                ·rw [if_pos c80] at H
                                 have c80b0 : decide ((ji78) < (t450.length : Int)) = true := decide_eq_true c80
                                 clear c80
                                 by_cases c81 : (rd t450 (ji78)) ≥ (rd t450 x128_6)
                                 ·rw [if_pos c81] at H
                                  have c81b0 : decide ((rd t450 x128_6) ≤ (rd t450 (ji78))) = true := decide_eq_true c81
                                  clear c81
                                  exact absurd ((Option.some.inj H).trans HR_.out) (by decide)
                                 ·rw [if_neg c81] at H
                                  have c81b0 : decide ((rd t450 x128_6) ≤ (rd t450 (ji78))) = false := decide_eq_false c81
                                  clear c81
                                  as_aux_lemma =>
                                   have H' := Aside0.mk H
                                   clear H
                                   have p459 : 0 ≤ ((ji78) : Int) := of_decide_eq_true (by first | (with_reducible assumption) | assumption)
                                   have q459 : (ji78) < (t450.length : Int) := of_decide_eq_true (by first | (with_reducible assumption) | assumption)
                                   obtain ⟨ad459, e459, hx459_0⟩ := Kd.at_int (Kd.R_reads' HO_16.out).2.2 (ji78) p459 q459
                                   obtain rfl : ad456 = ad459 := (by injection e459)
                                   replace p459 := eq_true p459
                                   replace q459 := eq_true q459
                                   go_wp2
                                   go_roundg k7
                                   case measure => have := HJ6.out; have := HK2.out; have := HJ28.out; have := HK4.out; have := HJ44.out; have := HK6.out; have := HK7.out; omega
                                   case rel => exact ⟨(wrap64 (x128_6 + 1)), (by first | rfl | (simp; done) | (simp [*]; done) | (simp; apply Bool.eq_iff_iff.mpr; simp only [bne_iff_ne, ne_eq, beq_iff_eq]; omega)), H', ⟨by have := HJ6.out; have := HK2.out; have := HJ28.out; have := HK4.out; have := HJ44.out; have := HK6.out; have := HK7.out; omega⟩, ⟨by (with_reducible repeat (first | apply Kd.R_alloc | apply Kd.R_drewN | apply Kd.R_drew)); exact HO_5.out⟩, ⟨by (with_reducible repeat (first | apply Kd.S_alloc | apply Kd.S_drewN | apply Kd.S_drew)); exact HO_6.out⟩, ⟨by (with_reducible repeat (first | apply Kd.R_alloc | apply Kd.R_drewN | apply Kd.R_drew)); exact HO_16.out⟩, ⟨by (with_reducible repeat (first | apply Kd.R_alloc | apply Kd.R_drewN | apply Kd.R_drew)); exact HO_99.out⟩, ⟨by (with_reducible repeat (first | apply Kd.R_alloc | apply Kd.R_drewN | apply Kd.R_drew)); exact HO_126.out⟩, ⟨by (with_reducible repeat first | apply q1_ | apply q2_ | apply q3_); exact BK449.out⟩, ⟨by repeat (first | (with_reducible first | exact HB.out | apply q4_ | apply q5_ | apply q6_ | refine below_set ?_ GE449.out) | exact HB.out)⟩⟩
                                ·rw [if_neg c80] at H
                                 exact absurd H (by simp)
                               ·rw [if_neg c79] at H
                                exact absurd H (by simp)
                              ·rw [if_neg c77] at H
                               have c77b0 : decide (0 < x128_6) = false := decide_eq_false c77
                               clear c77
                               as_aux_lemma =>
                                have H' := Aside0.mk H
                                clear H
                                go_wp2
                                go_roundg k7
                                case measure => have := HJ6.out; have := HK2.out; have := HJ28.out; have := HK4.out; have := HJ44.out; have := HK6.out; have := HK7.out; omega
                                case rel => exact ⟨(wrap64 (x128_6 + 1)), (by first | rfl | (simp; done) | (simp [*]; done) | (simp; apply Bool.eq_iff_iff.mpr; simp only [bne_iff_ne, ne_eq, beq_iff_eq]; omega)), H', ⟨by have := HJ6.out; have := HK2.out; have := HJ28.out; have := HK4.out; have := HJ44.out; have := HK6.out; have := HK7.out; omega⟩, ⟨by (with_reducible repeat (first | apply Kd.R_alloc | apply Kd.R_drewN | apply Kd.R_drew)); exact HO_5.out⟩, ⟨by (with_reducible repeat (first | apply Kd.S_alloc | apply Kd.S_drewN | apply Kd.S_drew)); exact HO_6.out⟩, ⟨by (with_reducible repeat (first | apply Kd.R_alloc | apply Kd.R_drewN | apply Kd.R_drew)); exact HO_16.out⟩, ⟨by (with_reducible repeat (first | apply Kd.R_alloc | apply Kd.R_drewN | apply Kd.R_drew)); exact HO_99.out⟩, ⟨by (with_reducible repeat (first | apply Kd.R_alloc | apply Kd.R_drewN | apply Kd.R_drew)); exact HO_126.out⟩, ⟨by (with_reducible repeat first | apply q1_ | apply q2_ | apply q3_); exact BK449.out⟩, ⟨by repeat (first | (with_reducible first | exact HB.out | apply q4_ | apply q5_ | apply q6_ | refine below_set ?_ GE449.out) | exact HB.out)⟩⟩
                             ·replace c76 := Bool.eq_false_iff.mpr c76
                              subst c76
                              have H1 : (some false) = some r := by rw [if_neg (show ¬ (false = true) by decide)] at H; exact H
                              clear H
                              have H := H1
                              clear H1
                              exact absurd ((Option.some.inj H).trans HR_.out) (by decide)
                         ·rw [if_neg c59] at H
                          exact absurd H (by simp)
                        ·rw [if_neg c58] at H
                         exact absurd H (by simp)
                       ·rw [if_neg c57] at H
                        have c57b0 : decide (x128_6 < (t450.length : Int)) = false := decide_eq_false c57
                        clear c57
                        as_aux_lemma =>
                         have H' := Aside0.mk H
                         clear H
                         go_wp2
                         go_roundg k6
                         case measure => have := HJ6.out; have := HK2.out; have := HJ28.out; have := HK4.out; have := HJ44.out; have := HK6.out; omega
                         case rel => exact ⟨(wrap64 (x101_4 + 1)), (by first | rfl | (simp; done) | (simp [*]; done) | (simp; apply Bool.eq_iff_iff.mpr; simp only [bne_iff_ne, ne_eq, beq_iff_eq]; omega)), H', ⟨by have := HJ6.out; have := HK2.out; have := HJ28.out; have := HK4.out; have := HJ44.out; have := HK6.out; omega⟩, ⟨by (with_reducible repeat (first | apply Kd.R_alloc | apply Kd.R_drewN | apply Kd.R_drew)); exact Kd.R_mono HO_5.out (fun _ hk => trivial)⟩, ⟨by (with_reducible repeat (first | apply Kd.S_alloc | apply Kd.S_drewN | apply Kd.S_drew)); exact Kd.S_mono HO_6.out (fun _ hk => trivial)⟩, ⟨by (with_reducible repeat (first | apply Kd.R_alloc | apply Kd.R_drewN | apply Kd.R_drew)); exact Kd.R_mono HO_99.out (fun _ hk => trivial)⟩, ⟨by repeat (first | (with_reducible first | exact HB.out | apply q4_ | apply q5_ | apply q6_ | refine below_set ?_ GE449.out) | exact HB.out)⟩⟩
                 ·rw [if_neg c43] at H
                  exact absurd H (by simp)
                ·rw [if_neg c42] at H
                 exact absurd H (by simp)
               ·rw [if_neg c41] at H
                have c41b0 : decide (x101_4 < (t425.length : Int)) = false := decide_eq_false c41
                clear c41
                as_aux_lemma =>
                 have H' := Aside0.mk H
                 clear H
                 go_wp2
                 go_meet
                 case rel => exact ⟨_, H', ⟨by have := HJ6.out; have := HK2.out; have := HJ28.out; have := HK4.out; first | omega | exact Nat.le_refl _⟩, ⟨by repeat (first | (with_reducible first | exact HB.out | apply q4_ | apply q5_ | apply q6_) | exact HB.out)⟩⟩
      ·replace c22 := Bool.eq_false_iff.mpr c22
       subst c22
       have H1 : (laws_FnIndex.j7 kj6 l1) = some r := by rw [if_neg (show ¬ (false = true) by decide)] at H; exact H
       clear H
       have H := H1
       clear H1
       as_aux_lemma =>
        have H' := Aside0.mk H
        clear H
        go_wp2
        go_meet
        case rel => exact ⟨_, H', ⟨by have := HJ6.out; first | omega | exact Nat.le_refl _⟩, ⟨by repeat (first | (with_reducible first | exact HB.out | apply q4_ | apply q5_ | apply q6_) | exact HB.out)⟩⟩
     case rest =>
      clear HC21
      try clear c1
      try clear c2
      try clear p2
      try clear c3
      try clear c3b0
      try clear c4
      try clear p4
      try clear q4
      try clear hx4
      try clear c5
      try clear c6
      try clear p6
      try clear c7
      try clear c8
      try clear c9
      try clear c12
      try clear c12b0
      try clear c12b1
      try clear c12b2
      try clear c14
      try clear c17
      try clear c19
      try clear c20
      try clear c22
      try clear c23
      try clear c23b0
      try clear c24
      try clear c24b0
      try clear c25
      try clear c25b0
      try clear c26
      try clear c33
      try clear c34
      try clear c38
      try clear c40
      try clear c41
      try clear c41b0
      try clear c42
      try clear c42b0
      try clear c43
      try clear c43b0
      try clear p43
      try clear q43
      try clear hx43
      try clear p44
      try clear q44
      try clear hx44
      try clear p45
      try clear q45
      try clear hx45
      try clear c50
      try clear c52
      try clear c55
      try clear c57
      try clear c57b0
      try clear c58
      try clear c58b0
      try clear c59
      try clear c59b0
      try clear c60
      try clear c60b0
      try clear c61
      try clear c61b0
      try clear c62
      try clear c62b0
      try clear c63
      try clear p64
      try clear c65
      try clear c67
      try clear c67b0
      try clear c67b1
      try clear c69
      try clear c73
      try clear c76
      try clear c77
      try clear c77b0
      try clear c79
      try clear c79b0
      try clear c80
      try clear c80b0
      try clear c81
      try clear c81b0
      try clear hcz47_0
      try clear hcz47_1
      try clear hcz53_0
      try clear hcz53_1
      try clear hcz66_0
      try clear hcz66_1
      try clear hcz70_0
      try clear hcz70_1
      try clear hcz71_0
      try clear hcz71_1
      try clear hcz74_0
      try clear hcz74_1
      try clear hcz75_0
      try clear hcz75_1
      try clear hfz47_0
      try clear hfz47_1
      try clear hfz53_0
      try clear hfz53_1
      try clear hfz66_0
      try clear hfz66_1
      try clear hfz70_0
      try clear hfz70_1
      try clear hfz71_0
      try clear hfz71_1
      try clear hfz74_0
      try clear hfz74_1
      try clear hfz75_0
      try clear hfz75_1
      try clear hx438_0
      try clear hx438_1
      try clear hx448_0
      try clear hx448_1
      try clear hx456_0
      try clear hx457_0
      try clear hx457_1
      try clear hx459_0
      try clear p2
      try clear p4
      try clear p43
      try clear p438
      try clear p44
      try clear p448
      try clear p45
      try clear p456
      try clear p457
      try clear p459
      try clear p6
      try clear q4
      try clear q43
      try clear q438
      try clear q44
      try clear q448
      try clear q45
      try clear q456
      try clear q457
      try clear q459
      obtain ⟨kq, HA, HJ20, HB⟩ := hcut
      cases kq with
      | zero => exact absurd HA.out (by simp [laws_FnIndex.j7])
      | succ kj20 =>
       have H := HA.out
       clear HA
       simp only [laws_FnIndex.j7] at H
       replace H := Option.bind_eq_some_iff.mp H
       obtain ⟨⟨t460, t463, t464⟩, A820, H⟩ := H
       replace H : ((impl_PutPair.f kj20 t460 t463 t464).bind fun bt466 => ((spec_PutPair.f kj20 t460 t463 t464).bind fun bt470 => (if (bt466.2 != bt470.2) = true then (laws_FnIndex.j8 kj20 bt466.1 bt466.2 true t463 t464) else ((laws_sameForks.f kj20 bt466.1 bt470.1).bind fun t474 => (if t474 = true then ((impl_GoodIndex.f kj20 t460).bind fun t475 => ((spec_GoodIndex.f kj20 t460).bind fun t476 => (laws_FnIndex.j8 kj20 bt466.1 bt466.2 (t475 != t476) t463 t464))) else (laws_FnIndex.j8 kj20 bt466.1 bt466.2 true t463 t464)))))) = some r := H
       have A82 := Aside0.mk A820
       clear A820
       replace H := Option.bind_eq_some_iff.mp H
       obtain ⟨⟨t466, t469⟩, A830, H⟩ := H
       replace H : ((spec_PutPair.f kj20 t460 t463 t464).bind fun bt470 => (if (t469 != bt470.2) = true then (laws_FnIndex.j8 kj20 t466 t469 true t463 t464) else ((laws_sameForks.f kj20 t466 bt470.1).bind fun t474 => (if t474 = true then ((impl_GoodIndex.f kj20 t460).bind fun t475 => ((spec_GoodIndex.f kj20 t460).bind fun t476 => (laws_FnIndex.j8 kj20 t466 t469 (t475 != t476) t463 t464))) else (laws_FnIndex.j8 kj20 t466 t469 true t463 t464))))) = some r := H
       have A83 := Aside0.mk A830
       clear A830
       replace H := Option.bind_eq_some_iff.mp H
       obtain ⟨⟨t470, t473⟩, A840, H⟩ := H
       replace H : (if (t469 != t473) = true then (laws_FnIndex.j8 kj20 t466 t469 true t463 t464) else ((laws_sameForks.f kj20 t466 t470).bind fun t474 => (if t474 = true then ((impl_GoodIndex.f kj20 t460).bind fun t475 => ((spec_GoodIndex.f kj20 t460).bind fun t476 => (laws_FnIndex.j8 kj20 t466 t469 (t475 != t476) t463 t464))) else (laws_FnIndex.j8 kj20 t466 t469 true t463 t464)))) = some r := H
       have A84 := Aside0.mk A840
       clear A840
       have HC85 := Aside0.mk H
       clear H
       go_upto_region 39 with (first | ((with_reducible refine gate_callee (f := 42) rfl ?_); refine goesL_ (some 173) rfl rfl Try.func42 (by kernel_rfl) rfl #[.slice A1 l1.length c1] rfl (by simp only [List.map_toArray, List.map_cons, List.map_nil] <;> rfl) ?_; (with_reducible refine (spec_DrawPutPair.calls kj20 _ _ l1 t460 t463 t464 _ ?side1 ?side2 A82.out).mono ?_); (case side1 => repeat (first | exact (Kd.C_below HR1.out HB.out) | (with_reducible refine Kd.C_alloc ?_ _) | (with_reducible refine Kd.C_drewN ?_ _) | (with_reducible refine Kd.C_drew ?_))); (case side2 => exact HC1.out); rintro e w86 ⟨v461, rfl, ho0, hb⟩; refine ⟨_, rfl, ?_⟩; have n0_ := Aside0.mk (Kd.S_lower ho0 (below_size (by repeat first | (with_reducible first | exact HB.out | apply q4_ | apply q5_ | apply q6_) | exact HB.out))); have n1_ := Aside0.mk (below_step (by repeat first | (with_reducible first | exact HB.out | apply q4_ | apply q5_ | apply q6_) | exact HB.out) hb); clear HB; have HO462 := n0_; have HB := n1_; clear n0_ n1_; (try clear hb); (try clear hk); (try clear hi); (try clear ho0)) | ((with_reducible refine gate_dst (N := 25) rfl ?_); refine box_event ?hg (N := 25) ?hd (cs := #[.string (⟨#[]⟩ : ByteArray), .int .i64 0]) (t := 51) ?hr ?_; (case hd => rfl); (case hg => rfl); (case hr => first | (go_simp; done) | (go_simp; rfl)); intro gb465 hg w87 hbox hb; have n0_ := Aside0.mk (Kd.S_below (by (with_reducible repeat (first | apply Kd.S_alloc | apply Kd.S_drewN | apply Kd.S_drew)); exact HO462.out) hb); have n1_ := Aside0.mk (below_step (by repeat first | (with_reducible first | exact HB.out | apply q4_ | apply q5_ | apply q6_) | exact HB.out) hb); have n2_ := Aside0.mk (hbox); have n3_ := Aside0.mk ((by rw [hg]; exact (below_size (by repeat first | (with_reducible first | exact HB.out | apply q4_ | apply q5_ | apply q6_) | exact HB.out)) : w.heap.size ≤ gb465)); have n4_ := Aside0.mk ((by rw [hg]; exact (below_size (by repeat first | (with_reducible first | exact HB.out | apply q4_ | apply q5_ | apply q6_) | exact HB.out)) : w.heap.size ≤ gb465)); clear HO462; clear HB; have HO462 := n0_; have HB := n1_; have BK465 := n2_; have GW465 := n3_; have GE465 := n4_; clear n0_ n1_ n2_ n3_ n4_; clear hb hbox hg; have hcz88_0 : w87.cell? ⟨gb465, 0, none⟩ = some (.string (⟨#[]⟩ : ByteArray)) := (blk_cell BK465.out 0).trans rfl; have hcz88_1 : w87.cell? ⟨gb465, 1, none⟩ = some (.int .i64 0) := (blk_cell BK465.out 1).trans rfl; have hfz88_0 := blk_frozen BK465.out 0; have hfz88_1 := blk_frozen BK465.out 1; obtain ⟨Ao89, co89, eo89⟩ := Kd.S_slice HO462.out; subst eo89) | ((with_reducible refine gate_callee (f := 35) rfl ?_); refine goesL_ (some 179) rfl rfl Try.func35 (by kernel_rfl) rfl #[.slice Ao89 t460.length co89, .agg #[.string t463, .int .i64 t464]] rfl (by simp only [List.map_toArray, List.map_cons, List.map_nil] <;> rfl) ?_; (with_reducible refine (impl_PutPair.calls kj20 _ _ t460 t463 t464 t466 t469 _ ?side1 ?side2 A83.out).mono ?_); (case side1 => refine (Kd.S_reads' (e := 74) (base := w.heap.size) (ok := fun k_ => True) (n := t460.length) (c := co89) ?_).2.2; exact (by (with_reducible repeat (first | apply Kd.S_alloc | apply Kd.S_drewN | apply Kd.S_drew)); exact (Kd.S_mono (Kd.S_far (p := ⟨gb465, 1, none⟩) (Kd.S_far (p := ⟨gb465, 0, none⟩) (Kd.S_types HO462.out BK465.out (by decide)) (fun _ hk => hk.2) (.string t463)) (fun _ hk => hk.2) (.int .i64 t464)) (fun _ h_ => h_.1)))); (case side2 => exact (Kd.S_reads' HO462.out).2.1); rintro e w90 ⟨v467, rfl, ho0, hb⟩; refine ⟨_, rfl, ?_⟩; have n0_ := Aside0.mk (Kd.S_elder' (by (with_reducible repeat (first | apply Kd.S_alloc | apply Kd.S_drewN | apply Kd.S_drew)); exact (Kd.S_mono (Kd.S_far (p := ⟨gb465, 1, none⟩) (Kd.S_far (p := ⟨gb465, 0, none⟩) (Kd.S_types HO462.out BK465.out (by decide)) (fun _ hk => hk.2) (.string t463)) (fun _ hk => hk.2) (.int .i64 t464)) (fun _ h_ => h_.1))) (Kd.S_base ho0) hb); have n1_ := Aside0.mk (Kd.S_lower (Kd.S_new' ho0 (Kd.S_lt (by (with_reducible repeat (first | apply Kd.S_alloc | apply Kd.S_drewN | apply Kd.S_drew)); exact (Kd.S_mono (Kd.S_far (p := ⟨gb465, 1, none⟩) (Kd.S_far (p := ⟨gb465, 0, none⟩) (Kd.S_types HO462.out BK465.out (by decide)) (fun _ hk => hk.2) (.string t463)) (fun _ hk => hk.2) (.int .i64 t464)) (fun _ h_ => h_.1))))) (below_size (by repeat (first | (with_reducible first | exact HB.out | apply q4_ | apply q5_ | apply q6_ | refine below_set ?_ GE465.out) | exact HB.out)))); have n2_ := Aside0.mk (blk_below (g := gb465) (o := .cells #[.string t463, .int .i64 t464] 51 (0, 0)) (by (with_reducible repeat first | apply q1_ | apply q2_ | apply q3_); refine blk_put (cs := #[.string t463, .int .i64 0]) ?_ 1 _ rfl; (with_reducible repeat first | apply q1_ | apply q2_ | apply q3_); refine blk_put (cs := #[.string (⟨#[]⟩ : ByteArray), .int .i64 0]) ?_ 0 _ rfl; (with_reducible repeat first | apply q1_ | apply q2_ | apply q3_); exact BK465.out) hb); have n3_ := Aside0.mk (below_step (by repeat (first | (with_reducible first | exact HB.out | apply q4_ | apply q5_ | apply q6_ | refine below_set ?_ GE465.out) | exact HB.out)) hb); clear HO462; clear BK465; clear HB; have HO462 := n0_; have HO468 := n1_; have BK465 := n2_; have HB := n3_; clear n0_ n1_ n2_ n3_; (try clear hb); (try clear hk); (try clear hi); (try clear ho0); have hcz91_0 : w90.cell? ⟨gb465, 0, none⟩ = some (.string t463) := (blk_cell BK465.out 0).trans rfl; have hcz91_1 : w90.cell? ⟨gb465, 1, none⟩ = some (.int .i64 t464) := (blk_cell BK465.out 1).trans rfl; have hfz91_0 := blk_frozen BK465.out 0; have hfz91_1 := blk_frozen BK465.out 1) | ((with_reducible refine gate_callee (f := 33) rfl ?_); refine goesL_ (some 185) rfl rfl Try.func33 (by kernel_rfl) rfl #[.slice Ao89 t460.length co89, .agg #[.string t463, .int .i64 t464]] rfl (by simp only [List.map_toArray, List.map_cons, List.map_nil] <;> rfl) ?_; (with_reducible refine (spec_PutPair.calls kj20 _ _ t460 t463 t464 t470 t473 _ ?side1 ?side2 A84.out).mono ?_); (case side1 => repeat (first | exact (Kd.S_reads' HO462.out).2.2 | (with_reducible refine Kd.C_alloc ?_ _) | (with_reducible refine Kd.C_drewN ?_ _) | (with_reducible refine Kd.C_drew ?_))); (case side2 => exact (Kd.S_reads' HO462.out).2.1); rintro e w92 ⟨v471, rfl, ho0, hb⟩; refine ⟨_, rfl, ?_⟩; have n0_ := Aside0.mk (Kd.S_elder' (by (with_reducible repeat (first | apply Kd.S_alloc | apply Kd.S_drewN | apply Kd.S_drew)); exact HO462.out) (Kd.S_base ho0) hb); have n1_ := Aside0.mk (Kd.S_elder' (by (with_reducible repeat (first | apply Kd.S_alloc | apply Kd.S_drewN | apply Kd.S_drew)); exact HO468.out) (Kd.S_base ho0) hb); have n2_ := Aside0.mk (Kd.S_lower (Kd.S_new' (Kd.S_new' ho0 (Kd.S_lt (by (with_reducible repeat (first | apply Kd.S_alloc | apply Kd.S_drewN | apply Kd.S_drew)); exact HO462.out))) (Kd.S_lt (by (with_reducible repeat (first | apply Kd.S_alloc | apply Kd.S_drewN | apply Kd.S_drew)); exact HO468.out))) (below_size (by repeat (first | (with_reducible first | exact HB.out | apply q4_ | apply q5_ | apply q6_ | refine below_set ?_ GE465.out) | exact HB.out)))); have n3_ := Aside0.mk (blk_below (g := gb465) (o := .cells #[.string t463, .int .i64 t464] 51 (0, 0)) (by (with_reducible repeat first | apply q1_ | apply q2_ | apply q3_); exact BK465.out) hb); have n4_ := Aside0.mk (below_step (by repeat (first | (with_reducible first | exact HB.out | apply q4_ | apply q5_ | apply q6_ | refine below_set ?_ GE465.out) | exact HB.out)) hb); clear HO462; clear HO468; clear BK465; clear HB; have HO462 := n0_; have HO468 := n1_; have HO472 := n2_; have BK465 := n3_; have HB := n4_; clear n0_ n1_ n2_ n3_ n4_; (try clear hb); (try clear hk); (try clear hi); (try clear ho0)))
       (try simp only [Act.put, List.setIfInBounds_toArray, List.set_cons_zero, List.set_cons_succ])
       go_cut [203] (fun v203 wc => ∃ (kq : Nat) (x203_84 : Bool), v203 = .bool x203_84 ∧ Aside0 (laws_FnIndex.j8 kq t466 t469 x203_84 t463 t464 = some r) ∧ Aside0 (kq ≤ kj20) ∧ Aside0 (Kd.S k74 74 wc w.heap.size (fun _ => True) v467 t466) ∧ Aside0 (wc.heap[gb465]? = some (.cells #[.string t463, .int .i64 t464] 51 (0, 0))) ∧ Aside0 (Below w.heap.size w wc))
       case first =>
        have H := HC85.out
        clear HC85
        by_cases c93 : (t469 != t473) = true
        ·rw [if_pos c93] at H
         have c93b0 : (t469 != t473) = true := c93
         (try (have c93b1 : decide (t469 = t473) = false := by simpa using c93))
         (try (have c93b2 : (t469 == t473) = false := by simpa using c93))
         (try (have c93b3 : ¬ (t469 = t473) := by simpa using c93))
         clear c93
         (first | rw [c93b0] | (simp only [i64_w, i32_w]; rw [c93b0]) | skip)
         exfalso
         cases kj20 with
         | zero => exact absurd H (by simp [laws_FnIndex.j8])
         | succ kz_ => rw [laws_FnIndex.j8, if_pos rfl] at H; exact absurd ((Option.some.inj H).trans HR_.out) (by decide)
        ·rw [if_neg c93] at H
         have c93b0 : (t469 != t473) = false := by simpa using c93
         (try (have c93b1 : decide (t469 = t473) = true := by simpa using c93))
         (try (have c93b2 : (t469 == t473) = true := by simpa using c93))
         clear c93
         (first | rw [c93b0] | (simp only [i64_w, i32_w]; rw [c93b0]) | skip)
         replace H := Option.bind_eq_some_iff.mp H
         obtain ⟨t474, A940, H⟩ := H
         replace H : (if t474 = true then ((impl_GoodIndex.f kj20 t460).bind fun t475 => ((spec_GoodIndex.f kj20 t460).bind fun t476 => (laws_FnIndex.j8 kj20 t466 t469 (t475 != t476) t463 t464))) else (laws_FnIndex.j8 kj20 t466 t469 true t463 t464)) = some r := H
         have A94 := Aside0.mk A940
         clear A940
         by_cases c95 : t474 = true
         ·subst c95
          have H1 : ((impl_GoodIndex.f kj20 t460).bind fun t475 => ((spec_GoodIndex.f kj20 t460).bind fun t476 => (laws_FnIndex.j8 kj20 t466 t469 (t475 != t476) t463 t464))) = some r := by rw [if_pos rfl] at H; exact H
          clear H
          have H := H1
          clear H1
          replace H := Option.bind_eq_some_iff.mp H
          obtain ⟨t475, A960, H⟩ := H
          replace H : ((spec_GoodIndex.f kj20 t460).bind fun t476 => (laws_FnIndex.j8 kj20 t466 t469 (t475 != t476) t463 t464)) = some r := H
          have A96 := Aside0.mk A960
          clear A960
          replace H := Option.bind_eq_some_iff.mp H
          obtain ⟨t476, A970, H⟩ := H
          replace H : (laws_FnIndex.j8 kj20 t466 t469 (t475 != t476) t463 t464) = some r := H
          have A97 := Aside0.mk A970
          clear A970
          as_aux_lemma =>
           have H' := Aside0.mk H
           clear H
           obtain ⟨Ao98, co98, eo98⟩ := Kd.S_slice HO468.out
           subst eo98
           obtain ⟨Ao99, co99, eo99⟩ := Kd.S_slice HO472.out
           subst eo99
           go_wp2_with (first | (go_at_call 39; (with_reducible refine (laws_sameForks.calls kj20 _ _ t466 _ _ t470 true _ ?side1 ?side2 ?side3 ?side4 A94.out).mono ?_); (case side1 => repeat (first | exact (Kd.S_reads' HO468.out).2.2 | (with_reducible refine Kd.C_alloc ?_ _) | (with_reducible refine Kd.C_drewN ?_ _) | (with_reducible refine Kd.C_drew ?_))); (case side2 => exact (Kd.S_reads' HO468.out).2.1); (case side3 => repeat (first | exact (Kd.S_reads' HO472.out).2.2 | (with_reducible refine Kd.C_alloc ?_ _) | (with_reducible refine Kd.C_drewN ?_ _) | (with_reducible refine Kd.C_drew ?_))); (case side4 => exact (Kd.S_reads' HO472.out).2.1); rintro e w100 ⟨rfl, hb⟩; have n0_ := Aside0.mk (Kd.S_below (by (with_reducible repeat (first | apply Kd.S_alloc | apply Kd.S_drewN | apply Kd.S_drew)); exact HO462.out) hb); have n1_ := Aside0.mk (Kd.S_below (by (with_reducible repeat (first | apply Kd.S_alloc | apply Kd.S_drewN | apply Kd.S_drew)); exact HO468.out) hb); have n2_ := Aside0.mk (Kd.S_below (by (with_reducible repeat (first | apply Kd.S_alloc | apply Kd.S_drewN | apply Kd.S_drew)); exact HO472.out) hb); have n3_ := Aside0.mk (blk_below (g := gb465) (o := .cells #[.string t463, .int .i64 t464] 51 (0, 0)) (by (with_reducible repeat first | apply q1_ | apply q2_ | apply q3_); exact BK465.out) hb); have n4_ := Aside0.mk (below_step (by repeat (first | (with_reducible first | exact HB.out | apply q4_ | apply q5_ | apply q6_ | refine below_set ?_ GE465.out) | exact HB.out)) hb); clear HO462; clear HO468; clear HO472; clear BK465; clear HB; have HO462 := n0_; have HO468 := n1_; have HO472 := n2_; have BK465 := n3_; have HB := n4_; clear n0_ n1_ n2_ n3_ n4_; (try clear hb); (try clear hk); (try clear hi)) | (go_at_call 14; (with_reducible refine (impl_GoodIndex.calls kj20 _ _ t460 t475 _ ?side1 ?side2 A96.out).mono ?_); (case side1 => repeat (first | exact (Kd.S_reads' HO462.out).2.2 | (with_reducible refine Kd.C_alloc ?_ _) | (with_reducible refine Kd.C_drewN ?_ _) | (with_reducible refine Kd.C_drew ?_))); (case side2 => exact (Kd.S_reads' HO462.out).2.1); rintro e w101 ⟨rfl, hb⟩; have n0_ := Aside0.mk (Kd.S_below (by (with_reducible repeat (first | apply Kd.S_alloc | apply Kd.S_drewN | apply Kd.S_drew)); exact HO462.out) hb); have n1_ := Aside0.mk (Kd.S_below (by (with_reducible repeat (first | apply Kd.S_alloc | apply Kd.S_drewN | apply Kd.S_drew)); exact HO468.out) hb); have n2_ := Aside0.mk (Kd.S_below (by (with_reducible repeat (first | apply Kd.S_alloc | apply Kd.S_drewN | apply Kd.S_drew)); exact HO472.out) hb); have n3_ := Aside0.mk (blk_below (g := gb465) (o := .cells #[.string t463, .int .i64 t464] 51 (0, 0)) (by (with_reducible repeat first | apply q1_ | apply q2_ | apply q3_); exact BK465.out) hb); have n4_ := Aside0.mk (below_step (by repeat (first | (with_reducible first | exact HB.out | apply q4_ | apply q5_ | apply q6_ | refine below_set ?_ GE465.out) | exact HB.out)) hb); clear HO462; clear HO468; clear HO472; clear BK465; clear HB; have HO462 := n0_; have HO468 := n1_; have HO472 := n2_; have BK465 := n3_; have HB := n4_; clear n0_ n1_ n2_ n3_ n4_; (try clear hb); (try clear hk); (try clear hi)) | (go_at_call 12; (with_reducible refine (spec_GoodIndex.calls kj20 _ _ t460 t476 _ ?side1 ?side2 A97.out).mono ?_); (case side1 => repeat (first | exact (Kd.S_reads' HO462.out).2.2 | (with_reducible refine Kd.C_alloc ?_ _) | (with_reducible refine Kd.C_drewN ?_ _) | (with_reducible refine Kd.C_drew ?_))); (case side2 => exact (Kd.S_reads' HO462.out).2.1); rintro e w102 ⟨rfl, hb⟩; have n0_ := Aside0.mk (Kd.S_below (by (with_reducible repeat (first | apply Kd.S_alloc | apply Kd.S_drewN | apply Kd.S_drew)); exact HO462.out) hb); have n1_ := Aside0.mk (Kd.S_below (by (with_reducible repeat (first | apply Kd.S_alloc | apply Kd.S_drewN | apply Kd.S_drew)); exact HO468.out) hb); have n2_ := Aside0.mk (Kd.S_below (by (with_reducible repeat (first | apply Kd.S_alloc | apply Kd.S_drewN | apply Kd.S_drew)); exact HO472.out) hb); have n3_ := Aside0.mk (blk_below (g := gb465) (o := .cells #[.string t463, .int .i64 t464] 51 (0, 0)) (by (with_reducible repeat first | apply q1_ | apply q2_ | apply q3_); exact BK465.out) hb); have n4_ := Aside0.mk (below_step (by repeat (first | (with_reducible first | exact HB.out | apply q4_ | apply q5_ | apply q6_ | refine below_set ?_ GE465.out) | exact HB.out)) hb); clear HO462; clear HO468; clear HO472; clear BK465; clear HB; have HO462 := n0_; have HO468 := n1_; have HO472 := n2_; have BK465 := n3_; have HB := n4_; clear n0_ n1_ n2_ n3_ n4_; (try clear hb); (try clear hk); (try clear hi)))
           go_meet
           case rel => exact ⟨_, ((t475 != t476)), (by first | rfl | (simp; done) | (simp [*]; done) | (simp; apply Bool.eq_iff_iff.mpr; simp only [bne_iff_ne, ne_eq, beq_iff_eq]; omega)), H', ⟨by have := HJ6.out; have := HJ20.out; first | omega | exact Nat.le_refl _⟩, ⟨by (with_reducible repeat (first | apply Kd.S_alloc | apply Kd.S_drewN | apply Kd.S_drew)); exact Kd.S_mono HO468.out (fun _ hk => trivial)⟩, ⟨by (with_reducible repeat first | apply q1_ | apply q2_ | apply q3_); exact BK465.out⟩, ⟨by repeat (first | (with_reducible first | exact HB.out | apply q4_ | apply q5_ | apply q6_ | refine below_set ?_ GE465.out) | exact HB.out)⟩⟩
         ·replace c95 := Bool.eq_false_iff.mpr c95
          subst c95
          have H1 : (laws_FnIndex.j8 kj20 t466 t469 true t463 t464) = some r := by rw [if_neg (show ¬ (false = true) by decide)] at H; exact H
          clear H
          have H := H1
          clear H1
          exfalso
          cases kj20 with
          | zero => exact absurd H (by simp [laws_FnIndex.j8])
          | succ kz_ => rw [laws_FnIndex.j8, if_pos rfl] at H; exact absurd ((Option.some.inj H).trans HR_.out) (by decide)
       case rest =>
        clear HC85
        try clear c1
        try clear c2
        try clear p2
        try clear c3
        try clear c3b0
        try clear c4
        try clear p4
        try clear q4
        try clear hx4
        try clear c5
        try clear c6
        try clear p6
        try clear c7
        try clear c8
        try clear c9
        try clear c12
        try clear c12b0
        try clear c12b1
        try clear c12b2
        try clear c14
        try clear c17
        try clear c19
        try clear c20
        try clear c22
        try clear c23
        try clear c23b0
        try clear c24
        try clear c24b0
        try clear c25
        try clear c25b0
        try clear c26
        try clear c33
        try clear c34
        try clear c35
        try clear c38
        try clear c40
        try clear c41
        try clear c41b0
        try clear c42
        try clear c42b0
        try clear c43
        try clear c43b0
        try clear p43
        try clear q43
        try clear hx43
        try clear p44
        try clear q44
        try clear hx44
        try clear p45
        try clear q45
        try clear hx45
        try clear c50
        try clear c52
        try clear c55
        try clear c57
        try clear c57b0
        try clear c58
        try clear c58b0
        try clear c59
        try clear c59b0
        try clear c60
        try clear c60b0
        try clear c61
        try clear c61b0
        try clear c62
        try clear c62b0
        try clear c63
        try clear p64
        try clear c65
        try clear c67
        try clear c67b0
        try clear c67b1
        try clear c69
        try clear c73
        try clear c76
        try clear c77
        try clear c77b0
        try clear c79
        try clear c79b0
        try clear c80
        try clear c80b0
        try clear c81
        try clear c81b0
        try clear c93
        try clear c93b0
        try clear c93b1
        try clear c93b2
        try clear c95
        try clear hcz47_0
        try clear hcz47_1
        try clear hcz53_0
        try clear hcz53_1
        try clear hcz66_0
        try clear hcz66_1
        try clear hcz70_0
        try clear hcz70_1
        try clear hcz71_0
        try clear hcz71_1
        try clear hcz74_0
        try clear hcz74_1
        try clear hcz75_0
        try clear hcz75_1
        try clear hcz88_0
        try clear hcz88_1
        try clear hcz91_0
        try clear hcz91_1
        try clear hfz47_0
        try clear hfz47_1
        try clear hfz53_0
        try clear hfz53_1
        try clear hfz66_0
        try clear hfz66_1
        try clear hfz70_0
        try clear hfz70_1
        try clear hfz71_0
        try clear hfz71_1
        try clear hfz74_0
        try clear hfz74_1
        try clear hfz75_0
        try clear hfz75_1
        try clear hfz88_0
        try clear hfz88_1
        try clear hfz91_0
        try clear hfz91_1
        try clear hx438_0
        try clear hx438_1
        try clear hx448_0
        try clear hx448_1
        try clear hx456_0
        try clear hx457_0
        try clear hx457_1
        try clear hx459_0
        try clear p2
        try clear p4
        try clear p43
        try clear p438
        try clear p44
        try clear p448
        try clear p45
        try clear p456
        try clear p457
        try clear p459
        try clear p6
        try clear p64
        try clear q4
        try clear q43
        try clear q438
        try clear q44
        try clear q448
        try clear q45
        try clear q456
        try clear q457
        try clear q459
        obtain ⟨kq, x203_84, rfl, HA, HJ84, HO_26, BK465, HB⟩ := hcut
        cases kq with
        | zero => exact absurd HA.out (by simp [laws_FnIndex.j8])
        | succ kj84 =>
         have H := HA.out
         clear HA
         simp only [laws_FnIndex.j8] at H
         by_cases c103 : x203_84 = true
         ·subst c103
          have H1 : (some false) = some r := by rw [if_pos rfl] at H; exact H
          clear H
          have H := H1
          clear H1
          exact absurd ((Option.some.inj H).trans HR_.out) (by decide)
         ·replace c103 := Bool.eq_false_iff.mpr c103
          subst c103
          have H1 : (if t469 = true then ((impl_FindKey.f kj84 t466 t463).bind fun bt477 => (if bt477.2.2 = true then ((laws_has.f kj84 bt477.1 t464).bind fun t482 => (some t482)) else (some false))) else (some true)) = some r := by rw [if_neg (show ¬ (false = true) by decide)] at H; exact H
          clear H
          have H := H1
          clear H1
          by_cases c104 : t469 = true
          ·subst c104
           have H1 : ((impl_FindKey.f kj84 t466 t463).bind fun bt477 => (if bt477.2.2 = true then ((laws_has.f kj84 bt477.1 t464).bind fun t482 => (some t482)) else (some false))) = some r := by rw [if_pos rfl] at H; exact H
           clear H
           have H := H1
           clear H1
           replace H := Option.bind_eq_some_iff.mp H
           obtain ⟨⟨t477, t478, t479⟩, A1050, H⟩ := H
           replace H : (if t479 = true then ((laws_has.f kj84 t477 t464).bind fun t482 => (some t482)) else (some false)) = some r := H
           have A105 := Aside0.mk A1050
           clear A1050
           by_cases c106 : t479 = true
           ·subst c106
            have H1 : ((laws_has.f kj84 t477 t464).bind fun t482 => (some t482)) = some r := by rw [if_pos rfl] at H; exact H
            clear H
            have H := H1
            clear H1
            replace H := Option.bind_eq_some_iff.mp H
            obtain ⟨t482, A1070, H⟩ := H
            replace H : (some t482) = some r := H
            have A107 := Aside0.mk A1070
            clear A1070
            as_aux_lemma =>
             obtain rfl := Option.some.inj H
             have hcz108_0 : wc.cell? ⟨gb465, 0, none⟩ = some (.string t463) := (blk_cell BK465.out 0).trans rfl
             have hcz108_1 : wc.cell? ⟨gb465, 1, none⟩ = some (.int .i64 t464) := (blk_cell BK465.out 1).trans rfl
             have hfz108_0 := blk_frozen BK465.out 0
             have hfz108_1 := blk_frozen BK465.out 1
             obtain ⟨Ao109, co109, eo109⟩ := Kd.S_slice HO_26.out
             subst eo109
             go_wp2_with (first | ((with_reducible refine gate_callee (f := 25) rfl ?_); refine goesL_ (some 209) rfl rfl Try.func25 (by kernel_rfl) rfl #[.slice Ao109 t466.length co109, .string t463] rfl (by simp only [List.map_toArray, List.map_cons, List.map_nil] <;> rfl) ?_; (with_reducible refine (impl_FindKey.calls kj84 _ _ t466 t463 t477 t478 true _ ?side1 ?side2 A105.out).mono ?_); (case side1 => repeat (first | exact (Kd.S_reads' HO_26.out).2.2 | (with_reducible refine Kd.C_alloc ?_ _) | (with_reducible refine Kd.C_drewN ?_ _) | (with_reducible refine Kd.C_drew ?_))); (case side2 => exact (Kd.S_reads' HO_26.out).2.1); rintro e w110 ⟨v480, rfl, ho0, hb⟩; refine ⟨_, rfl, ?_⟩; have n0_ := Aside0.mk (Kd.S_elder' (by (with_reducible repeat (first | apply Kd.S_alloc | apply Kd.S_drewN | apply Kd.S_drew)); exact HO_26.out) (Kd.R_base ho0) hb); have n1_ := Aside0.mk (Kd.R_lower ho0 (below_size (by repeat (first | (with_reducible first | exact HB.out | apply q4_ | apply q5_ | apply q6_ | refine below_set ?_ GE465.out) | exact HB.out)))); have n2_ := Aside0.mk (blk_below (g := gb465) (o := .cells #[.string t463, .int .i64 t464] 51 (0, 0)) (by (with_reducible repeat first | apply q1_ | apply q2_ | apply q3_); exact BK465.out) hb); have n3_ := Aside0.mk (below_step (by repeat (first | (with_reducible first | exact HB.out | apply q4_ | apply q5_ | apply q6_ | refine below_set ?_ GE465.out) | exact HB.out)) hb); clear HO_26; clear BK465; clear HB; have HO_26 := n0_; have HO481 := n1_; have BK465 := n2_; have HB := n3_; clear n0_ n1_ n2_ n3_; (try clear hb); (try clear hk); (try clear hi); (try clear ho0); have hcz111_0 : w110.cell? ⟨gb465, 0, none⟩ = some (.string t463) := (blk_cell BK465.out 0).trans rfl; have hcz111_1 : w110.cell? ⟨gb465, 1, none⟩ = some (.int .i64 t464) := (blk_cell BK465.out 1).trans rfl; have hfz111_0 := blk_frozen BK465.out 0; have hfz111_1 := blk_frozen BK465.out 1; obtain ⟨Ao112, co112, eo112⟩ := Kd.R_slice HO481.out; subst eo112) | (go_at_call 41; (with_reducible refine (laws_has.calls kj84 _ _ t477 t464 t482 _ ?side1 ?side2 A107.out).mono ?_); (case side1 => repeat (first | exact (Kd.R_reads' HO481.out).2.2 | (with_reducible refine Kd.C_alloc ?_ _) | (with_reducible refine Kd.C_drewN ?_ _) | (with_reducible refine Kd.C_drew ?_))); (case side2 => exact (Kd.R_reads' HO481.out).2.1); rintro e w' ⟨rfl, ⟨nd, rfl⟩⟩))
             go_ret
             exact ⟨by first | rfl | (simp [errW_none, errW_some] <;> rfl) | (simp [*, errW_none, errW_some] <;> rfl), by repeat (first | (with_reducible first | exact HB.out | apply q4_ | apply q5_ | apply q6_ | refine below_set ?_ GE465.out) | exact HB.out)⟩
           ·replace c106 := Bool.eq_false_iff.mpr c106
            subst c106
            have H1 : (some false) = some r := by rw [if_neg (show ¬ (false = true) by decide)] at H; exact H
            clear H
            have H := H1
            clear H1
            exact absurd ((Option.some.inj H).trans HR_.out) (by decide)
          ·replace c104 := Bool.eq_false_iff.mpr c104
           subst c104
           have H1 : (some true) = some r := by rw [if_neg (show ¬ (false = true) by decide)] at H; exact H
           clear H
           have H := H1
           clear H1
           as_aux_lemma =>
            obtain rfl := Option.some.inj H
            go_wp2
            go_ret
            exact ⟨by first | rfl | (simp [errW_none, errW_some] <;> rfl) | (simp [*, errW_none, errW_some] <;> rfl), by repeat (first | (with_reducible first | exact HB.out | apply q4_ | apply q5_ | apply q6_ | refine below_set ?_ GE465.out) | exact HB.out)⟩
/-- THE ONE PURE STATEMENT of laws_FnIndex: yours. -/
def laws_FnIndex.Pure : Prop := ∀ (l0 : List Int) (l1 : List Int), l0.length ≤ maxLen → l0.length * 1 ≤ 140737488351232 → (∀ x ∈ l0, (Lit.int .u8 x).wf = true) → l1.length ≤ maxLen → l1.length * 1 ≤ 140737488351232 → (∀ x ∈ l1, (Lit.int .u8 x).wf = true) → ∃ k, laws_FnIndex.f k l0 l1 = some true
theorem laws_FnIndex.walk (P : laws_FnIndex.Pure) (a0 : Option Addr) (len0 cap0 : Nat) (z0 : List Int) (a1 : Option Addr) (len1 cap1 : Nat) (z1 : List Int) (w : World) (w0 : (a0 = none ∧ len0 = 0 ∧ cap0 = 0 ∧ z0 = []) ∨ ∃ x, a0 = some x ∧ len0 ≤ cap0 ∧ cap0 ≤ maxLen ∧ z0.length = cap0 ∧ (∀ i, i < z0.length → w.cell? (x.add i) = some (.int .u8 (z0.getD i 0))) ∧ ∀ n ∈ z0, (Lit.int .u8 n).wf = true) (y0 : len0 * 1 ≤ 140737488351232) (w1 : (a1 = none ∧ len1 = 0 ∧ cap1 = 0 ∧ z1 = []) ∨ ∃ x, a1 = some x ∧ len1 ≤ cap1 ∧ cap1 ≤ maxLen ∧ z1.length = cap1 ∧ (∀ i, i < z1.length → w.cell? (x.add i) = some (.int .u8 (z1.getD i 0))) ∧ ∀ n ∈ z1, (Lit.int .u8 n).wf = true) (y1 : len1 * 1 ≤ 140737488351232) :
  Calls Try.prog 9 #[.slice a0 len0 cap0, .slice a1 len1 cap1] w fun e w' => e = .returned (.bool true) ∧ Below w.heap.size w w' := by
 obtain ⟨l0, rfl, hr0, hm0, hw0, hc0⟩ := ReadsInt.ofRowC w0
 obtain ⟨l1, rfl, hr1, hm1, hw1, hc1⟩ := ReadsInt.ofRowC w1
 obtain ⟨k, h⟩ := P l0 l1 hm0 y0 hw0 hm1 y1 hw1
 refine (laws_FnIndex.calls k _ _ l0 _ _ l1 true w rfl (Kd.C_of_reads (d := (0 : Int)) (h1 := fun _ => rfl) hr0) hc0 (Kd.C_of_reads (d := (0 : Int)) (h1 := fun _ => rfl) hr1) hc1 h).mono ?_
 rintro e w' ⟨rfl, hd⟩
 exact ⟨rfl, hd⟩
end
end Go.Proofs.Ytkkphbjemnifiaa.PFnIndex
