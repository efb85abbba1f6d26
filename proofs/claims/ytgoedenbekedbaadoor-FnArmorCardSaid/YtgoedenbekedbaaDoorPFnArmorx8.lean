-- Printed for this claim by a changed copy of the kit's printing program (wip/tools/patch_print.py); Lean checks it.
import Derived.Test.YtgoedenbekedbaaDoorPFnArmorx0
import Derived.Test.YtgoedenbekedbaaDoorPFnArmorx1
import Derived.Test.YtgoedenbekedbaaDoorPFnArmorx2
import Derived.Test.YtgoedenbekedbaaDoorPFnArmorx3
import Derived.Test.YtgoedenbekedbaaDoorPFnArmorx4
import Derived.Test.YtgoedenbekedbaaDoorPFnArmorx5
import Derived.Test.YtgoedenbekedbaaDoorPFnArmorx6
import Derived.Test.YtgoedenbekedbaaDoorPFnArmorx7
namespace Go.Proofs.YtgoedenbekedbaaDoor.PFnArmor
open Go.RowKit Go.Proofs.YtgoedenbekedbaaDoorW.PrintWords Go.Proofs.YtgoedenbekedbaaDoorW.PrintLast Go.Proofs.YtgoedenbekedbaaDoorW.PrintMore
attribute [local go_sem] max2_int min2_int max_two min_two max_three min_three max_four min_four   -- for this text's walks alone
set_option linter.unusedVariables false
set_option linter.unusedSimpArgs false

noncomputable section

theorem bU_ {w W V : World} (h : Aside0 (Below w.heap.size w W)) (e : V.os = W.os ∧ V.tape = W.tape ∧ V.output = W.output ∧ V.heap = W.heap := by exact ⟨rfl, rfl, rfl, rfl⟩) : Below w.heap.size w V :=
  ⟨by rw [e.1]; exact h.out.os, by rw [e.2.1]; exact h.out.tape, by rw [e.2.2.1]; exact h.out.output, by rw [e.2.2.2]; exact h.out.size, fun i hi => by rw [e.2.2.2]; exact h.out.block i hi⟩
theorem bS_ {w W V w1 : World} (h : Aside0 (Below w.heap.size w W)) (hb : Below V.heap.size V w1) (e : V.os = W.os ∧ V.tape = W.tape ∧ V.output = W.output ∧ V.heap = W.heap := by exact ⟨rfl, rfl, rfl, rfl⟩) : Aside0 (Below w.heap.size w w1) :=
  ⟨below_step (bU_ h e) hb⟩
/-! ### laws_FnArmor: function 9 -/
mutual
def laws_FnArmor.j0 : Nat → List Int → ByteArray → ByteArray → ByteArray → Bool → Bool → Option (Bool)
  | 0, _, _, _, _, _, _ => none
  | k + 1, x1, x5, x6, x7, x8, x62 => if x62 = true then (some false) else (if x8 = true then (laws_FnArmor.j1 k x1 x5 x6 x7 (decide ((x7.size : Int) ≤ 1000))) else (laws_FnArmor.j1 k x1 x5 x6 x7 false))
def laws_FnArmor.j1 : Nat → List Int → ByteArray → ByteArray → ByteArray → Bool → Option (Bool)
  | 0, _, _, _, _, _ => none
  | k + 1, x1, x5, x6, x7, x68 => if x68 = true then ((impl_OfArmor.f k x7).bind fun bt293 => (if bt293.2.2 = true then (if bt293.1.toList = x5.toList then (if bt293.2.1.toList = x6.toList then (laws_FnArmor.j2 k x1) else (some false)) else (some false)) else (some false))) else (laws_FnArmor.j2 k x1)
def laws_FnArmor.j2 : Nat → List Int → Option (Bool)
  | 0, _ => none
  | k + 1, x1 => (spec_DrawOfArmor.f k x1).bind fun t296 => ((impl_OfArmor.f k t296).bind fun bt297 => ((spec_OfArmor.f k t296).bind fun bt300 => (if (bt297.2.2 != bt300.2.2) = true then (laws_FnArmor.j3 k x1 t296 bt297.1 bt297.2.1 bt297.2.2 true) else (if bt297.1.toList = bt300.1.toList then (laws_FnArmor.j3 k x1 t296 bt297.1 bt297.2.1 bt297.2.2 (bt297.2.1.toList != bt300.2.1.toList)) else (laws_FnArmor.j3 k x1 t296 bt297.1 bt297.2.1 bt297.2.2 true)))))
def laws_FnArmor.j3 : Nat → List Int → ByteArray → ByteArray → ByteArray → Bool → Bool → Option (Bool)
  | 0, _, _, _, _, _, _ => none
  | k + 1, x1, x14, x15, x16, x17, x113 => if x113 = true then (some false) else (if x17 = true then ((impl_ArmorOf.f k x15 x16).bind fun bt303 => (if bt303.2 = true then (if bt303.1.toList = x14.toList then (laws_FnArmor.j4 k x1) else (some false)) else (some false))) else (laws_FnArmor.j4 k x1))
def laws_FnArmor.j4 : Nat → List Int → Option (Bool)
  | 0, _ => none
  | k + 1, x1 => (spec_DrawLinesOf.f k x1).bind fun bt305 => ((impl_LinesOf.f k bt305.1 bt305.2).bind fun bt307 => ((spec_LinesOf.f k bt305.1 bt305.2).bind fun bt311 => (if (bt307.2 != bt311.2) = true then (laws_FnArmor.j5 k bt305.1 bt305.2 bt307.1 bt307.2 true) else ((laws_sameTexts.f k bt307.1 bt311.1).bind fun t315 => (laws_FnArmor.j5 k bt305.1 bt305.2 bt307.1 bt307.2 (!t315))))))
def laws_FnArmor.j5 : Nat → ByteArray → Int → List ByteArray → Bool → Bool → Option (Bool)
  | 0, _, _, _, _, _ => none
  | k + 1, x23, x24, x25, x26, x153 => if x153 = true then (some false) else (if x26 = true then (laws_FnArmor.l0 k x23 x24 x25 (⟨#[]⟩ : ByteArray) x25 (x25.length : Int) 0) else (some true))
def laws_FnArmor.l0 : Nat → ByteArray → Int → List ByteArray → ByteArray → List ByteArray → Int → Int → Option (Bool)
  | 0, _, _, _, _, _, _, _ => none
  | k + 1, x23, x24, x25, x29, x155, x156, x157 => if x157 < x156 then (if 0 ≤ x157 then (if x157 < (x155.length : Int) then (if x157 < (wrap64 ((x25.length : Int) - 1)) then (if ((rdOf ByteArray.empty x155 x157).size : Int) = x24 then (if ((rdOf ByteArray.empty x155 x157).size : Int) = 0 then (some false) else (if ((rdOf ByteArray.empty x155 x157).size : Int) > x24 then (some false) else (if x29.size + (rdOf ByteArray.empty x155 x157).size ≤ 9223372036854775807 then (laws_FnArmor.l0 k x23 x24 x25 (x29 ++ (rdOf ByteArray.empty x155 x157)) x155 x156 (wrap64 (x157 + 1))) else (none)))) else (some false)) else (if ((rdOf ByteArray.empty x155 x157).size : Int) = 0 then (some false) else (if ((rdOf ByteArray.empty x155 x157).size : Int) > x24 then (some false) else (if x29.size + (rdOf ByteArray.empty x155 x157).size ≤ 9223372036854775807 then (laws_FnArmor.l0 k x23 x24 x25 (x29 ++ (rdOf ByteArray.empty x155 x157)) x155 x156 (wrap64 (x157 + 1))) else (none))))) else (none)) else (none)) else (some (x29.toList == x23.toList))
end
def laws_FnArmor.f (k : Nat) (l0 : List Int) (l1 : List Int) : Option (Bool) := if (wrap64 ((l0.length : Int) + (l1.length : Int))) > 1048576 then (some true) else ((spec_DrawArmorOf.f k l0).bind fun bt287 => ((impl_ArmorOf.f k bt287.1 bt287.2).bind fun bt289 => ((spec_ArmorOf.f k bt287.1 bt287.2).bind fun bt291 => (if (bt289.2 != bt291.2) = true then (laws_FnArmor.j0 k l1 bt287.1 bt287.2 bt289.1 bt289.2 true) else (laws_FnArmor.j0 k l1 bt287.1 bt287.2 bt289.1 bt289.2 (bt289.1.toList != bt291.1.toList))))))
theorem laws_FnArmor.mono_l : ∀ k, (∀ y0 y1 y2 y3 y4 y5, LeO (laws_FnArmor.j0 k y0 y1 y2 y3 y4 y5) (laws_FnArmor.j0 (k + 1) y0 y1 y2 y3 y4 y5)) ∧ (∀ y0 y1 y2 y3 y4, LeO (laws_FnArmor.j1 k y0 y1 y2 y3 y4) (laws_FnArmor.j1 (k + 1) y0 y1 y2 y3 y4)) ∧ (∀ y0, LeO (laws_FnArmor.j2 k y0) (laws_FnArmor.j2 (k + 1) y0)) ∧ (∀ y0 y1 y2 y3 y4 y5, LeO (laws_FnArmor.j3 k y0 y1 y2 y3 y4 y5) (laws_FnArmor.j3 (k + 1) y0 y1 y2 y3 y4 y5)) ∧ (∀ y0, LeO (laws_FnArmor.j4 k y0) (laws_FnArmor.j4 (k + 1) y0)) ∧ (∀ y0 y1 y2 y3 y4, LeO (laws_FnArmor.j5 k y0 y1 y2 y3 y4) (laws_FnArmor.j5 (k + 1) y0 y1 y2 y3 y4)) ∧ (∀ y0 y1 y2 y3 y4 y5 y6, LeO (laws_FnArmor.l0 k y0 y1 y2 y3 y4 y5 y6) (laws_FnArmor.l0 (k + 1) y0 y1 y2 y3 y4 y5 y6))
  | 0 => ⟨fun _ _ _ _ _ _ r h => by simp [laws_FnArmor.j0] at h, fun _ _ _ _ _ r h => by simp [laws_FnArmor.j1] at h, fun _ r h => by simp [laws_FnArmor.j2] at h, fun _ _ _ _ _ _ r h => by simp [laws_FnArmor.j3] at h, fun _ r h => by simp [laws_FnArmor.j4] at h, fun _ _ _ _ _ r h => by simp [laws_FnArmor.j5] at h, fun _ _ _ _ _ _ _ r h => by simp [laws_FnArmor.l0] at h⟩
  | k + 1 => by
    obtain ⟨ih0, ih1, ih2, ih3, ih4, ih5, ih6⟩ := laws_FnArmor.mono_l k
    refine ⟨?_, ?_, ?_, ?_, ?_, ?_, ?_⟩
    · intro y0 y1 y2 y3 y4 y5
      unfold laws_FnArmor.j0
      repeat' first
      | (with_reducible exact ih0 _ _ _ _ _ _)
      | (with_reducible exact ih1 _ _ _ _ _)
      | (with_reducible exact ih2 _)
      | (with_reducible exact ih3 _ _ _ _ _ _)
      | (with_reducible exact ih4 _)
      | (with_reducible exact ih5 _ _ _ _ _)
      | (with_reducible exact ih6 _ _ _ _ _ _ _)
      | (with_reducible exact impl_ArmorOf.mono _ _ _)
      | (with_reducible exact impl_LinesOf.mono _ _ _)
      | (with_reducible exact impl_OfArmor.mono _ _)
      | (with_reducible exact laws_sameTexts.mono _ _ _)
      | (with_reducible exact spec_ArmorOf.mono _ _ _)
      | (with_reducible exact spec_DrawArmorOf.mono _ _)
      | (with_reducible exact spec_DrawLinesOf.mono _ _)
      | (with_reducible exact spec_DrawOfArmor.mono _ _)
      | (with_reducible exact spec_LinesOf.mono _ _ _)
      | (with_reducible exact spec_OfArmor.mono _ _)
      | (with_reducible exact LeO.refl _)
      | (with_reducible exact LeO.none _)
      | (with_reducible refine LeO.ite ?_ ?_)
      | (with_reducible refine LeO.bind ?_ (fun _ => ?_))
      | exact ih0 _ _ _ _ _ _
      | exact ih1 _ _ _ _ _
      | exact ih2 _
      | exact ih3 _ _ _ _ _ _
      | exact ih4 _
      | exact ih5 _ _ _ _ _
      | exact ih6 _ _ _ _ _ _ _
      | exact impl_ArmorOf.mono _ _ _
      | exact impl_LinesOf.mono _ _ _
      | exact impl_OfArmor.mono _ _
      | exact laws_sameTexts.mono _ _ _
      | exact spec_ArmorOf.mono _ _ _
      | exact spec_DrawArmorOf.mono _ _
      | exact spec_DrawLinesOf.mono _ _
      | exact spec_DrawOfArmor.mono _ _
      | exact spec_LinesOf.mono _ _ _
      | exact spec_OfArmor.mono _ _
      | exact LeO.none _
      | refine LeO.ite ?_ ?_
      | refine LeO.bind ?_ (fun _ => ?_)
    · intro y0 y1 y2 y3 y4
      unfold laws_FnArmor.j1
      repeat' first
      | (with_reducible exact ih0 _ _ _ _ _ _)
      | (with_reducible exact ih1 _ _ _ _ _)
      | (with_reducible exact ih2 _)
      | (with_reducible exact ih3 _ _ _ _ _ _)
      | (with_reducible exact ih4 _)
      | (with_reducible exact ih5 _ _ _ _ _)
      | (with_reducible exact ih6 _ _ _ _ _ _ _)
      | (with_reducible exact impl_ArmorOf.mono _ _ _)
      | (with_reducible exact impl_LinesOf.mono _ _ _)
      | (with_reducible exact impl_OfArmor.mono _ _)
      | (with_reducible exact laws_sameTexts.mono _ _ _)
      | (with_reducible exact spec_ArmorOf.mono _ _ _)
      | (with_reducible exact spec_DrawArmorOf.mono _ _)
      | (with_reducible exact spec_DrawLinesOf.mono _ _)
      | (with_reducible exact spec_DrawOfArmor.mono _ _)
      | (with_reducible exact spec_LinesOf.mono _ _ _)
      | (with_reducible exact spec_OfArmor.mono _ _)
      | (with_reducible exact LeO.refl _)
      | (with_reducible exact LeO.none _)
      | (with_reducible refine LeO.ite ?_ ?_)
      | (with_reducible refine LeO.bind ?_ (fun _ => ?_))
      | exact ih0 _ _ _ _ _ _
      | exact ih1 _ _ _ _ _
      | exact ih2 _
      | exact ih3 _ _ _ _ _ _
      | exact ih4 _
      | exact ih5 _ _ _ _ _
      | exact ih6 _ _ _ _ _ _ _
      | exact impl_ArmorOf.mono _ _ _
      | exact impl_LinesOf.mono _ _ _
      | exact impl_OfArmor.mono _ _
      | exact laws_sameTexts.mono _ _ _
      | exact spec_ArmorOf.mono _ _ _
      | exact spec_DrawArmorOf.mono _ _
      | exact spec_DrawLinesOf.mono _ _
      | exact spec_DrawOfArmor.mono _ _
      | exact spec_LinesOf.mono _ _ _
      | exact spec_OfArmor.mono _ _
      | exact LeO.none _
      | refine LeO.ite ?_ ?_
      | refine LeO.bind ?_ (fun _ => ?_)
    · intro y0
      unfold laws_FnArmor.j2
      repeat' first
      | (with_reducible exact ih0 _ _ _ _ _ _)
      | (with_reducible exact ih1 _ _ _ _ _)
      | (with_reducible exact ih2 _)
      | (with_reducible exact ih3 _ _ _ _ _ _)
      | (with_reducible exact ih4 _)
      | (with_reducible exact ih5 _ _ _ _ _)
      | (with_reducible exact ih6 _ _ _ _ _ _ _)
      | (with_reducible exact impl_ArmorOf.mono _ _ _)
      | (with_reducible exact impl_LinesOf.mono _ _ _)
      | (with_reducible exact impl_OfArmor.mono _ _)
      | (with_reducible exact laws_sameTexts.mono _ _ _)
      | (with_reducible exact spec_ArmorOf.mono _ _ _)
      | (with_reducible exact spec_DrawArmorOf.mono _ _)
      | (with_reducible exact spec_DrawLinesOf.mono _ _)
      | (with_reducible exact spec_DrawOfArmor.mono _ _)
      | (with_reducible exact spec_LinesOf.mono _ _ _)
      | (with_reducible exact spec_OfArmor.mono _ _)
      | (with_reducible exact LeO.refl _)
      | (with_reducible exact LeO.none _)
      | (with_reducible refine LeO.ite ?_ ?_)
      | (with_reducible refine LeO.bind ?_ (fun _ => ?_))
      | exact ih0 _ _ _ _ _ _
      | exact ih1 _ _ _ _ _
      | exact ih2 _
      | exact ih3 _ _ _ _ _ _
      | exact ih4 _
      | exact ih5 _ _ _ _ _
      | exact ih6 _ _ _ _ _ _ _
      | exact impl_ArmorOf.mono _ _ _
      | exact impl_LinesOf.mono _ _ _
      | exact impl_OfArmor.mono _ _
      | exact laws_sameTexts.mono _ _ _
      | exact spec_ArmorOf.mono _ _ _
      | exact spec_DrawArmorOf.mono _ _
      | exact spec_DrawLinesOf.mono _ _
      | exact spec_DrawOfArmor.mono _ _
      | exact spec_LinesOf.mono _ _ _
      | exact spec_OfArmor.mono _ _
      | exact LeO.none _
      | refine LeO.ite ?_ ?_
      | refine LeO.bind ?_ (fun _ => ?_)
    · intro y0 y1 y2 y3 y4 y5
      unfold laws_FnArmor.j3
      repeat' first
      | (with_reducible exact ih0 _ _ _ _ _ _)
      | (with_reducible exact ih1 _ _ _ _ _)
      | (with_reducible exact ih2 _)
      | (with_reducible exact ih3 _ _ _ _ _ _)
      | (with_reducible exact ih4 _)
      | (with_reducible exact ih5 _ _ _ _ _)
      | (with_reducible exact ih6 _ _ _ _ _ _ _)
      | (with_reducible exact impl_ArmorOf.mono _ _ _)
      | (with_reducible exact impl_LinesOf.mono _ _ _)
      | (with_reducible exact impl_OfArmor.mono _ _)
      | (with_reducible exact laws_sameTexts.mono _ _ _)
      | (with_reducible exact spec_ArmorOf.mono _ _ _)
      | (with_reducible exact spec_DrawArmorOf.mono _ _)
      | (with_reducible exact spec_DrawLinesOf.mono _ _)
      | (with_reducible exact spec_DrawOfArmor.mono _ _)
      | (with_reducible exact spec_LinesOf.mono _ _ _)
      | (with_reducible exact spec_OfArmor.mono _ _)
      | (with_reducible exact LeO.refl _)
      | (with_reducible exact LeO.none _)
      | (with_reducible refine LeO.ite ?_ ?_)
      | (with_reducible refine LeO.bind ?_ (fun _ => ?_))
      | exact ih0 _ _ _ _ _ _
      | exact ih1 _ _ _ _ _
      | exact ih2 _
      | exact ih3 _ _ _ _ _ _
      | exact ih4 _
      | exact ih5 _ _ _ _ _
      | exact ih6 _ _ _ _ _ _ _
      | exact impl_ArmorOf.mono _ _ _
      | exact impl_LinesOf.mono _ _ _
      | exact impl_OfArmor.mono _ _
      | exact laws_sameTexts.mono _ _ _
      | exact spec_ArmorOf.mono _ _ _
      | exact spec_DrawArmorOf.mono _ _
      | exact spec_DrawLinesOf.mono _ _
      | exact spec_DrawOfArmor.mono _ _
      | exact spec_LinesOf.mono _ _ _
      | exact spec_OfArmor.mono _ _
      | exact LeO.none _
      | refine LeO.ite ?_ ?_
      | refine LeO.bind ?_ (fun _ => ?_)
    · intro y0
      unfold laws_FnArmor.j4
      repeat' first
      | (with_reducible exact ih0 _ _ _ _ _ _)
      | (with_reducible exact ih1 _ _ _ _ _)
      | (with_reducible exact ih2 _)
      | (with_reducible exact ih3 _ _ _ _ _ _)
      | (with_reducible exact ih4 _)
      | (with_reducible exact ih5 _ _ _ _ _)
      | (with_reducible exact ih6 _ _ _ _ _ _ _)
      | (with_reducible exact impl_ArmorOf.mono _ _ _)
      | (with_reducible exact impl_LinesOf.mono _ _ _)
      | (with_reducible exact impl_OfArmor.mono _ _)
      | (with_reducible exact laws_sameTexts.mono _ _ _)
      | (with_reducible exact spec_ArmorOf.mono _ _ _)
      | (with_reducible exact spec_DrawArmorOf.mono _ _)
      | (with_reducible exact spec_DrawLinesOf.mono _ _)
      | (with_reducible exact spec_DrawOfArmor.mono _ _)
      | (with_reducible exact spec_LinesOf.mono _ _ _)
      | (with_reducible exact spec_OfArmor.mono _ _)
      | (with_reducible exact LeO.refl _)
      | (with_reducible exact LeO.none _)
      | (with_reducible refine LeO.ite ?_ ?_)
      | (with_reducible refine LeO.bind ?_ (fun _ => ?_))
      | exact ih0 _ _ _ _ _ _
      | exact ih1 _ _ _ _ _
      | exact ih2 _
      | exact ih3 _ _ _ _ _ _
      | exact ih4 _
      | exact ih5 _ _ _ _ _
      | exact ih6 _ _ _ _ _ _ _
      | exact impl_ArmorOf.mono _ _ _
      | exact impl_LinesOf.mono _ _ _
      | exact impl_OfArmor.mono _ _
      | exact laws_sameTexts.mono _ _ _
      | exact spec_ArmorOf.mono _ _ _
      | exact spec_DrawArmorOf.mono _ _
      | exact spec_DrawLinesOf.mono _ _
      | exact spec_DrawOfArmor.mono _ _
      | exact spec_LinesOf.mono _ _ _
      | exact spec_OfArmor.mono _ _
      | exact LeO.none _
      | refine LeO.ite ?_ ?_
      | refine LeO.bind ?_ (fun _ => ?_)
    · intro y0 y1 y2 y3 y4
      unfold laws_FnArmor.j5
      repeat' first
      | (with_reducible exact ih0 _ _ _ _ _ _)
      | (with_reducible exact ih1 _ _ _ _ _)
      | (with_reducible exact ih2 _)
      | (with_reducible exact ih3 _ _ _ _ _ _)
      | (with_reducible exact ih4 _)
      | (with_reducible exact ih5 _ _ _ _ _)
      | (with_reducible exact ih6 _ _ _ _ _ _ _)
      | (with_reducible exact impl_ArmorOf.mono _ _ _)
      | (with_reducible exact impl_LinesOf.mono _ _ _)
      | (with_reducible exact impl_OfArmor.mono _ _)
      | (with_reducible exact laws_sameTexts.mono _ _ _)
      | (with_reducible exact spec_ArmorOf.mono _ _ _)
      | (with_reducible exact spec_DrawArmorOf.mono _ _)
      | (with_reducible exact spec_DrawLinesOf.mono _ _)
      | (with_reducible exact spec_DrawOfArmor.mono _ _)
      | (with_reducible exact spec_LinesOf.mono _ _ _)
      | (with_reducible exact spec_OfArmor.mono _ _)
      | (with_reducible exact LeO.refl _)
      | (with_reducible exact LeO.none _)
      | (with_reducible refine LeO.ite ?_ ?_)
      | (with_reducible refine LeO.bind ?_ (fun _ => ?_))
      | exact ih0 _ _ _ _ _ _
      | exact ih1 _ _ _ _ _
      | exact ih2 _
      | exact ih3 _ _ _ _ _ _
      | exact ih4 _
      | exact ih5 _ _ _ _ _
      | exact ih6 _ _ _ _ _ _ _
      | exact impl_ArmorOf.mono _ _ _
      | exact impl_LinesOf.mono _ _ _
      | exact impl_OfArmor.mono _ _
      | exact laws_sameTexts.mono _ _ _
      | exact spec_ArmorOf.mono _ _ _
      | exact spec_DrawArmorOf.mono _ _
      | exact spec_DrawLinesOf.mono _ _
      | exact spec_DrawOfArmor.mono _ _
      | exact spec_LinesOf.mono _ _ _
      | exact spec_OfArmor.mono _ _
      | exact LeO.none _
      | refine LeO.ite ?_ ?_
      | refine LeO.bind ?_ (fun _ => ?_)
    · intro y0 y1 y2 y3 y4 y5 y6
      unfold laws_FnArmor.l0
      repeat' first
      | (with_reducible exact ih0 _ _ _ _ _ _)
      | (with_reducible exact ih1 _ _ _ _ _)
      | (with_reducible exact ih2 _)
      | (with_reducible exact ih3 _ _ _ _ _ _)
      | (with_reducible exact ih4 _)
      | (with_reducible exact ih5 _ _ _ _ _)
      | (with_reducible exact ih6 _ _ _ _ _ _ _)
      | (with_reducible exact impl_ArmorOf.mono _ _ _)
      | (with_reducible exact impl_LinesOf.mono _ _ _)
      | (with_reducible exact impl_OfArmor.mono _ _)
      | (with_reducible exact laws_sameTexts.mono _ _ _)
      | (with_reducible exact spec_ArmorOf.mono _ _ _)
      | (with_reducible exact spec_DrawArmorOf.mono _ _)
      | (with_reducible exact spec_DrawLinesOf.mono _ _)
      | (with_reducible exact spec_DrawOfArmor.mono _ _)
      | (with_reducible exact spec_LinesOf.mono _ _ _)
      | (with_reducible exact spec_OfArmor.mono _ _)
      | (with_reducible exact LeO.refl _)
      | (with_reducible exact LeO.none _)
      | (with_reducible refine LeO.ite ?_ ?_)
      | (with_reducible refine LeO.bind ?_ (fun _ => ?_))
      | exact ih0 _ _ _ _ _ _
      | exact ih1 _ _ _ _ _
      | exact ih2 _
      | exact ih3 _ _ _ _ _ _
      | exact ih4 _
      | exact ih5 _ _ _ _ _
      | exact ih6 _ _ _ _ _ _ _
      | exact impl_ArmorOf.mono _ _ _
      | exact impl_LinesOf.mono _ _ _
      | exact impl_OfArmor.mono _ _
      | exact laws_sameTexts.mono _ _ _
      | exact spec_ArmorOf.mono _ _ _
      | exact spec_DrawArmorOf.mono _ _
      | exact spec_DrawLinesOf.mono _ _
      | exact spec_DrawOfArmor.mono _ _
      | exact spec_LinesOf.mono _ _ _
      | exact spec_OfArmor.mono _ _
      | exact LeO.none _
      | refine LeO.ite ?_ ?_
      | refine LeO.bind ?_ (fun _ => ?_)
theorem laws_FnArmor.mono : ∀ a0 a1 k, LeO (laws_FnArmor.f k a0 a1) (laws_FnArmor.f (k + 1) a0 a1) := by
  intro a0 a1 k
  obtain ⟨ih0, ih1, ih2, ih3, ih4, ih5, ih6⟩ := laws_FnArmor.mono_l k
  unfold laws_FnArmor.f
  repeat' first
      | (with_reducible exact ih0 _ _ _ _ _ _)
      | (with_reducible exact ih1 _ _ _ _ _)
      | (with_reducible exact ih2 _)
      | (with_reducible exact ih3 _ _ _ _ _ _)
      | (with_reducible exact ih4 _)
      | (with_reducible exact ih5 _ _ _ _ _)
      | (with_reducible exact ih6 _ _ _ _ _ _ _)
      | (with_reducible exact impl_ArmorOf.mono _ _ _)
      | (with_reducible exact impl_LinesOf.mono _ _ _)
      | (with_reducible exact impl_OfArmor.mono _ _)
      | (with_reducible exact laws_sameTexts.mono _ _ _)
      | (with_reducible exact spec_ArmorOf.mono _ _ _)
      | (with_reducible exact spec_DrawArmorOf.mono _ _)
      | (with_reducible exact spec_DrawLinesOf.mono _ _)
      | (with_reducible exact spec_DrawOfArmor.mono _ _)
      | (with_reducible exact spec_LinesOf.mono _ _ _)
      | (with_reducible exact spec_OfArmor.mono _ _)
      | (with_reducible exact LeO.refl _)
      | (with_reducible exact LeO.none _)
      | (with_reducible refine LeO.ite ?_ ?_)
      | (with_reducible refine LeO.bind ?_ (fun _ => ?_))
      | exact ih0 _ _ _ _ _ _
      | exact ih1 _ _ _ _ _
      | exact ih2 _
      | exact ih3 _ _ _ _ _ _
      | exact ih4 _
      | exact ih5 _ _ _ _ _
      | exact ih6 _ _ _ _ _ _ _
      | exact impl_ArmorOf.mono _ _ _
      | exact impl_LinesOf.mono _ _ _
      | exact impl_OfArmor.mono _ _
      | exact laws_sameTexts.mono _ _ _
      | exact spec_ArmorOf.mono _ _ _
      | exact spec_DrawArmorOf.mono _ _
      | exact spec_DrawLinesOf.mono _ _
      | exact spec_DrawOfArmor.mono _ _
      | exact spec_LinesOf.mono _ _ _
      | exact spec_OfArmor.mono _ _
      | exact LeO.none _
      | refine LeO.ite ?_ ?_
      | refine LeO.bind ?_ (fun _ => ?_)
set_option maxHeartbeats 8000000 in
set_option maxRecDepth 100000 in
theorem laws_FnArmor.calls (k : Nat) (A0 : Option Addr) (c0 : Nat) (l0 : List Int) (A1 : Option Addr) (c1 : Nat) (l1 : List Int) (r : Bool) (w : World) (tb : Go.Proofs.YtgoedenbekedbaaDoor.TabsA.Tabs0 w) (hr_ : r = true) (hr0 : Kd.C (Kd.int .u8) w A0 l0.length l0) (hc0 : l0.length ≤ c0) (hr1 : Kd.C (Kd.int .u8) w A1 l1.length l1) (hc1 : l1.length ≤ c1) (h : laws_FnArmor.f k l0 l1 = some r) :
    Calls Tryd.prog 9 #[.slice A0 l0.length c0, .slice A1 l1.length c1] w fun e w' => e = .returned (.bool r) ∧ Below w.heap.size w w' := by
  have HR_ := Aside0.mk hr_
  clear hr_
  have TB := Aside0.mk tb
  clear tb
  have HR0 := Aside0.mk hr0
  have HC0 := Aside0.mk hc0
  clear hr0 hc0
  have HR1 := Aside0.mk hr1
  have HC1 := Aside0.mk hc1
  clear hr1 hc1
  have HB := Aside0.mk (Below.refl w.heap.size w)
  have H : (if (wrap64 ((l0.length : Int) + (l1.length : Int))) > 1048576 then (some true) else ((spec_DrawArmorOf.f k l0).bind fun bt287 => ((impl_ArmorOf.f k bt287.1 bt287.2).bind fun bt289 => ((spec_ArmorOf.f k bt287.1 bt287.2).bind fun bt291 => (if (bt289.2 != bt291.2) = true then (laws_FnArmor.j0 k l1 bt287.1 bt287.2 bt289.1 bt289.2 true) else (laws_FnArmor.j0 k l1 bt287.1 bt287.2 bt289.1 bt289.2 (bt289.1.toList != bt291.1.toList))))))) = some r := h
  clear h
  by_cases c3 : (wrap64 ((l0.length : Int) + (l1.length : Int))) > 1048576
  · rw [if_pos c3] at H
    have c3b0 : decide (1048576 < (wrap64 ((l0.length : Int) + (l1.length : Int)))) = true := decide_eq_true c3
    clear c3
    as_aux_lemma =>
      obtain rfl := Option.some.inj H
      go_enter Tryd.func9, Tryd.ntmps9
      go_wp2
      all_goals (try exact absurd ‹some undef = some (Value.bool _)› (by simp [undef]))
      go_ret
      exact ⟨by first | rfl | (simp [errW_none, errW_some] <;> rfl) | (simp [*, errW_none, errW_some] <;> rfl), by repeat (first | (with_reducible first | exact HB.out | apply below_alloc | apply pw_below_drewN | apply below_drew1) | exact HB.out)⟩
  · rw [if_neg c3] at H
    have c3b0 : decide (1048576 < (wrap64 ((l0.length : Int) + (l1.length : Int)))) = false := decide_eq_false c3
    clear c3
    replace H := Option.bind_eq_some_iff.mp H
    obtain ⟨⟨t287, t288⟩, A40, H⟩ := H
    replace H : ((impl_ArmorOf.f k t287 t288).bind fun bt289 => ((spec_ArmorOf.f k t287 t288).bind fun bt291 => (if (bt289.2 != bt291.2) = true then (laws_FnArmor.j0 k l1 t287 t288 bt289.1 bt289.2 true) else (laws_FnArmor.j0 k l1 t287 t288 bt289.1 bt289.2 (bt289.1.toList != bt291.1.toList))))) = some r := H
    have A4 := Aside0.mk A40
    clear A40
    replace H := Option.bind_eq_some_iff.mp H
    obtain ⟨⟨t289, t290⟩, A50, H⟩ := H
    replace H : ((spec_ArmorOf.f k t287 t288).bind fun bt291 => (if (t290 != bt291.2) = true then (laws_FnArmor.j0 k l1 t287 t288 t289 t290 true) else (laws_FnArmor.j0 k l1 t287 t288 t289 t290 (t289.toList != bt291.1.toList)))) = some r := H
    have A5 := Aside0.mk A50
    clear A50
    replace H := Option.bind_eq_some_iff.mp H
    obtain ⟨⟨t291, t292⟩, A60, H⟩ := H
    replace H : (if (t290 != t292) = true then (laws_FnArmor.j0 k l1 t287 t288 t289 t290 true) else (laws_FnArmor.j0 k l1 t287 t288 t289 t290 (t289.toList != t291.toList))) = some r := H
    have A6 := Aside0.mk A60
    clear A60
    have HC7 := Aside0.mk H
    clear H
    go_enter Tryd.func9, Tryd.ntmps9
    go_upto_region 6 with (first | ((with_reducible refine gate_callee (f := 68) rfl ?_); refine goesL_ (some 40) rfl rfl Tryd.func68 (by kernel_rfl) rfl #[.slice A0 l0.length c0] rfl (by (try simp only [List.map_toArray, List.map_cons, List.map_nil]); first | done | rfl | (simp only [List.length_drop, List.length_take]; rfl)) ?_; (with_reducible refine (spec_DrawArmorOf.calls k _ _ l0 t287 t288 _ ?side1 ?side2 A4.out).mono ?_); (case side1 => repeat (first | exact HR0.out | (with_reducible refine Kd.C_alloc ?_ _) | (with_reducible refine Kd.C_drewN ?_ _) | (with_reducible refine Kd.C_drew ?_))); (case side2 => exact HC0.out); rintro e w8 ⟨rfl, hb⟩; refine ⟨_, rfl, ?_⟩; replace HB := bS_ HB hb; (try clear hb)) | ((with_reducible refine gate_callee (f := 69) rfl ?_); refine goesL_ (some 46) rfl rfl Tryd.func69 (by kernel_rfl) rfl #[.string t287, .string t288] rfl (by (try simp only [List.map_toArray, List.map_cons, List.map_nil]); first | done | rfl | (simp only [List.length_drop, List.length_take]; rfl)) ?_; (with_reducible refine (impl_ArmorOf.calls k t287 t288 t289 t290 _ A5.out).mono ?_); rintro e w9 ⟨rfl, hb⟩; refine ⟨_, rfl, ?_⟩; replace HB := bS_ HB hb; (try clear hb)) | ((with_reducible refine gate_callee (f := 70) rfl ?_); refine goesL_ (some 52) rfl rfl Tryd.func70 (by kernel_rfl) rfl #[.string t287, .string t288] rfl (by (try simp only [List.map_toArray, List.map_cons, List.map_nil]); first | done | rfl | (simp only [List.length_drop, List.length_take]; rfl)) ?_; (with_reducible refine (spec_ArmorOf.calls k t287 t288 t291 t292 _ A6.out).mono ?_); rintro e w10 ⟨rfl, hb⟩; refine ⟨_, rfl, ?_⟩; replace HB := bS_ HB hb; (try clear hb)))
    (try simp only [Act.put, List.setIfInBounds_toArray, List.set_cons_zero, List.set_cons_succ])
    go_cut [62] (fun v62 wc => ∃ (kq : Nat) (x62_6 : Bool), v62 = .bool x62_6 ∧ Aside0 (laws_FnArmor.j0 kq l1 t287 t288 t289 t290 x62_6 = some r) ∧ Aside0 (kq ≤ k) ∧ Aside0 (Below w.heap.size w wc))
    case first =>
      as_aux_lemma =>
        have H := HC7.out
        clear HC7
        by_cases c11 : (t290 != t292) = true
        · rw [if_pos c11] at H
          have c11b0 : (t290 != t292) = true := c11
          (try (have c11b1 : decide (t290 = t292) = false := by simpa using c11))
          (try (have c11b2 : (t290 == t292) = false := by simpa using c11))
          (try (have c11b3 : ¬ (t290 = t292) := by simpa using c11))
          clear c11
          (first | rw [c11b0] | (simp only [i64_w, i32_w]; rw [c11b0]) | skip)
          exfalso
          cases k with
          | zero => exact absurd H (by simp [laws_FnArmor.j0])
          | succ kz_ => rw [laws_FnArmor.j0, if_pos rfl] at H; exact absurd ((Option.some.inj H).trans HR_.out) (by decide)
        · rw [if_neg c11] at H
          have c11b0 : (t290 != t292) = false := by simpa using c11
          (try (have c11b1 : decide (t290 = t292) = true := by simpa using c11))
          (try (have c11b2 : (t290 == t292) = true := by simpa using c11))
          clear c11
          (first | rw [c11b0] | (simp only [i64_w, i32_w]; rw [c11b0]) | skip)
          as_aux_lemma =>
            have H' := Aside0.mk H
            clear H
            go_wp2
            all_goals (try exact absurd ‹some undef = some (Value.bool _)› (by simp [undef]))
            go_meet
            case rel => exact ⟨_, ((t289.toList != t291.toList)), (by first | rfl | (simp; done) | (simp [*]; done)), H', ⟨by first | omega | exact Nat.le_refl _⟩, ⟨by repeat (first | (with_reducible first | exact HB.out | apply below_alloc | apply pw_below_drewN | apply below_drew1) | exact HB.out)⟩⟩
    case rest =>
      as_aux_lemma =>
        clear HC7
        try clear c1
        try clear p2
        try clear c3
        try clear c3b0
        try clear c6
        try clear p6
        try clear c7
        try clear c9
        try clear c11
        try clear c11b0
        try clear c11b1
        try clear c11b2
        obtain ⟨kq, x62_6, rfl, HA, HJ6, HB⟩ := hcut
        cases kq with
        | zero => exact absurd HA.out (by simp [laws_FnArmor.j0])
        | succ kj6 =>
          have H := HA.out
          clear HA
          simp only [laws_FnArmor.j0] at H
          by_cases c12 : x62_6 = true
          · subst c12
            have H1 : (some false) = some r := by rw [if_pos rfl] at H; exact H
            clear H
            have H := H1
            clear H1
            exact absurd ((Option.some.inj H).trans HR_.out) (by decide)
          · replace c12 := Bool.eq_false_iff.mpr c12
            subst c12
            have H1 : (if t290 = true then (laws_FnArmor.j1 kj6 l1 t287 t288 t289 (decide ((t289.size : Int) ≤ 1000))) else (laws_FnArmor.j1 kj6 l1 t287 t288 t289 false)) = some r := by rw [if_neg (show ¬ (false = true) by decide)] at H; exact H
            clear H
            have H := H1
            clear H1
            have HC13 := Aside0.mk H
            clear H
            go_upto_region 8 with (fail)
            go_cut [68] (fun v68 wc => ∃ (kq : Nat) (x68_12 : Bool), v68 = .bool x68_12 ∧ Aside0 (laws_FnArmor.j1 kq l1 t287 t288 t289 x68_12 = some r) ∧ Aside0 (kq ≤ kj6) ∧ Aside0 (Below w.heap.size w wc))
            case first =>
              as_aux_lemma =>
                have H := HC13.out
                clear HC13
                by_cases c14 : t290 = true
                · subst c14
                  have H1 : (laws_FnArmor.j1 kj6 l1 t287 t288 t289 (decide ((t289.size : Int) ≤ 1000))) = some r := by rw [if_pos rfl] at H; exact H
                  clear H
                  have H := H1
                  clear H1
                  as_aux_lemma =>
                    have H' := Aside0.mk H
                    clear H
                    go_wp2
                    all_goals (try exact absurd ‹some undef = some (Value.bool _)› (by simp [undef]))
                    go_meet
                    case rel => exact ⟨_, (decide ((t289.size : Int) ≤ 1000)), (by first | rfl | (simp; done) | (simp [*]; done)), H', ⟨by have := HJ6.out; first | omega | exact Nat.le_refl _⟩, ⟨by repeat (first | (with_reducible first | exact HB.out | apply below_alloc | apply pw_below_drewN | apply below_drew1) | exact HB.out)⟩⟩
                · replace c14 := Bool.eq_false_iff.mpr c14
                  subst c14
                  have H1 : (laws_FnArmor.j1 kj6 l1 t287 t288 t289 false) = some r := by rw [if_neg (show ¬ (false = true) by decide)] at H; exact H
                  clear H
                  have H := H1
                  clear H1
                  as_aux_lemma =>
                    have H' := Aside0.mk H
                    clear H
                    go_wp2
                    all_goals (try exact absurd ‹some undef = some (Value.bool _)› (by simp [undef]))
                    go_meet
                    case rel => exact ⟨_, (false), (by first | rfl | (simp; done) | (simp [*]; done)), H', ⟨by have := HJ6.out; first | omega | exact Nat.le_refl _⟩, ⟨by repeat (first | (with_reducible first | exact HB.out | apply below_alloc | apply pw_below_drewN | apply below_drew1) | exact HB.out)⟩⟩
            case rest =>
              as_aux_lemma =>
                clear HC13
                try clear c1
                try clear p2
                try clear c3
                try clear c3b0
                try clear c6
                try clear p6
                try clear c7
                try clear c9
                try clear c11
                try clear c11b0
                try clear c11b1
                try clear c11b2
                try clear c12
                try clear c14
                try clear p2
                try clear p6
                obtain ⟨kq, x68_12, rfl, HA, HJ12, HB⟩ := hcut
                cases kq with
                | zero => exact absurd HA.out (by simp [laws_FnArmor.j1])
                | succ kj12 =>
                  have H := HA.out
                  clear HA
                  simp only [laws_FnArmor.j1] at H
                  have HC15 := Aside0.mk H
                  clear H
                  go_upto_if 68 with (fail)
                  go_cut [] (fun wc => ∃ (kq : Nat), Aside0 (laws_FnArmor.j2 kq l1 = some r) ∧ Aside0 (kq ≤ kj12) ∧ Aside0 (Below w.heap.size w wc))
                  case first =>
                    as_aux_lemma =>
                      have H := HC15.out
                      clear HC15
                      by_cases c16 : x68_12 = true
                      · subst c16
                        have H1 : ((impl_OfArmor.f kj12 t289).bind fun bt293 => (if bt293.2.2 = true then (if bt293.1.toList = t287.toList then (if bt293.2.1.toList = t288.toList then (laws_FnArmor.j2 kj12 l1) else (some false)) else (some false)) else (some false))) = some r := by rw [if_pos rfl] at H; exact H
                        clear H
                        have H := H1
                        clear H1
                        replace H := Option.bind_eq_some_iff.mp H
                        obtain ⟨⟨t293, t294, t295⟩, A170, H⟩ := H
                        replace H : (if t295 = true then (if t293.toList = t287.toList then (if t294.toList = t288.toList then (laws_FnArmor.j2 kj12 l1) else (some false)) else (some false)) else (some false)) = some r := H
                        have A17 := Aside0.mk A170
                        clear A170
                        by_cases c18 : t295 = true
                        · subst c18
                          have H1 : (if t293.toList = t287.toList then (if t294.toList = t288.toList then (laws_FnArmor.j2 kj12 l1) else (some false)) else (some false)) = some r := by rw [if_pos rfl] at H; exact H
                          clear H
                          have H := H1
                          clear H1
                          by_cases c19 : t293.toList = t287.toList
                          · rw [if_pos c19] at H
                            have c19b0 : (t293.toList == t287.toList) = true := beq_iff_eq.mpr c19
                            have c19b1 : (t293.toList != t287.toList) = false := bne_eq_false_iff_eq.mpr c19
                            clear c19
                            (first | rw [c19b0] | (simp only [i64_w, i32_w]; rw [c19b0]) | skip)
                            by_cases c20 : t294.toList = t288.toList
                            · rw [if_pos c20] at H
                              have c20b0 : (t294.toList == t288.toList) = true := beq_iff_eq.mpr c20
                              have c20b1 : (t294.toList != t288.toList) = false := bne_eq_false_iff_eq.mpr c20
                              clear c20
                              as_aux_lemma =>
                                have H' := Aside0.mk H
                                clear H
                                go_wp2_with (first | ((with_reducible refine gate_callee (f := 71) rfl ?_); refine goesL_ (some 71) rfl rfl Tryd.func71 (by kernel_rfl) rfl #[.string t289] rfl (by (try simp only [List.map_toArray, List.map_cons, List.map_nil]); first | done | rfl | (simp only [List.length_drop, List.length_take]; rfl)) ?_; (with_reducible refine (impl_OfArmor.calls kj12 t289 t293 t294 true _ ?side1 A17.out).mono ?_); (case side1 => exact Go.Proofs.YtgoedenbekedbaaDoor.TabsA.Tabs0.of_below TB.out (bU_ HB)); rintro e w21 ⟨rfl, hb⟩; refine ⟨_, rfl, ?_⟩; replace HB := bS_ HB hb; (try clear hb)))
                                all_goals (try exact absurd ‹some undef = some (Value.bool _)› (by simp [undef]))
                                go_meet
                                case rel => exact ⟨_, H', ⟨by have := HJ6.out; have := HJ12.out; first | omega | exact Nat.le_refl _⟩, ⟨by repeat (first | (with_reducible first | exact HB.out | apply below_alloc | apply pw_below_drewN | apply below_drew1) | exact HB.out)⟩⟩
                            · rw [if_neg c20] at H
                              have c20b0 : (t294.toList == t288.toList) = false := beq_eq_false_iff_ne.mpr c20
                              have c20b1 : (t294.toList != t288.toList) = true := bne_iff_ne.mpr c20
                              exact absurd ((Option.some.inj H).trans HR_.out) (by decide)
                          · rw [if_neg c19] at H
                            have c19b0 : (t293.toList == t287.toList) = false := beq_eq_false_iff_ne.mpr c19
                            have c19b1 : (t293.toList != t287.toList) = true := bne_iff_ne.mpr c19
                            (first | rw [c19b0] | (simp only [i64_w, i32_w]; rw [c19b0]) | skip)
                            exact absurd ((Option.some.inj H).trans HR_.out) (by decide)
                        · replace c18 := Bool.eq_false_iff.mpr c18
                          subst c18
                          have H1 : (some false) = some r := by rw [if_neg (show ¬ (false = true) by decide)] at H; exact H
                          clear H
                          have H := H1
                          clear H1
                          exact absurd ((Option.some.inj H).trans HR_.out) (by decide)
                      · replace c16 := Bool.eq_false_iff.mpr c16
                        subst c16
                        have H1 : (laws_FnArmor.j2 kj12 l1) = some r := by rw [if_neg (show ¬ (false = true) by decide)] at H; exact H
                        clear H
                        have H := H1
                        clear H1
                        as_aux_lemma =>
                          have H' := Aside0.mk H
                          clear H
                          go_wp2
                          all_goals (try exact absurd ‹some undef = some (Value.bool _)› (by simp [undef]))
                          go_meet
                          case rel => exact ⟨_, H', ⟨by have := HJ6.out; have := HJ12.out; first | omega | exact Nat.le_refl _⟩, ⟨by repeat (first | (with_reducible first | exact HB.out | apply below_alloc | apply pw_below_drewN | apply below_drew1) | exact HB.out)⟩⟩
                  case rest =>
                    as_aux_lemma =>
                      clear HC15
                      try clear c1
                      try clear c2
                      try clear p2
                      try clear c3
                      try clear c3b0
                      try clear c6
                      try clear p6
                      try clear c7
                      try clear c9
                      try clear c11
                      try clear c11b0
                      try clear c11b1
                      try clear c11b2
                      try clear c12
                      try clear c14
                      try clear c16
                      try clear c18
                      try clear c19
                      try clear c19b0
                      try clear c19b1
                      try clear c20
                      try clear c20b0
                      try clear c20b1
                      try clear p2
                      try clear p6
                      obtain ⟨kq, HA, HJ14, HB⟩ := hcut
                      cases kq with
                      | zero => exact absurd HA.out (by simp [laws_FnArmor.j2])
                      | succ kj14 =>
                        have H := HA.out
                        clear HA
                        simp only [laws_FnArmor.j2] at H
                        replace H := Option.bind_eq_some_iff.mp H
                        obtain ⟨t296, A220, H⟩ := H
                        replace H : ((impl_OfArmor.f kj14 t296).bind fun bt297 => ((spec_OfArmor.f kj14 t296).bind fun bt300 => (if (bt297.2.2 != bt300.2.2) = true then (laws_FnArmor.j3 kj14 l1 t296 bt297.1 bt297.2.1 bt297.2.2 true) else (if bt297.1.toList = bt300.1.toList then (laws_FnArmor.j3 kj14 l1 t296 bt297.1 bt297.2.1 bt297.2.2 (bt297.2.1.toList != bt300.2.1.toList)) else (laws_FnArmor.j3 kj14 l1 t296 bt297.1 bt297.2.1 bt297.2.2 true))))) = some r := H
                        have A22 := Aside0.mk A220
                        clear A220
                        replace H := Option.bind_eq_some_iff.mp H
                        obtain ⟨⟨t297, t298, t299⟩, A230, H⟩ := H
                        replace H : ((spec_OfArmor.f kj14 t296).bind fun bt300 => (if (t299 != bt300.2.2) = true then (laws_FnArmor.j3 kj14 l1 t296 t297 t298 t299 true) else (if t297.toList = bt300.1.toList then (laws_FnArmor.j3 kj14 l1 t296 t297 t298 t299 (t298.toList != bt300.2.1.toList)) else (laws_FnArmor.j3 kj14 l1 t296 t297 t298 t299 true)))) = some r := H
                        have A23 := Aside0.mk A230
                        clear A230
                        replace H := Option.bind_eq_some_iff.mp H
                        obtain ⟨⟨t300, t301, t302⟩, A240, H⟩ := H
                        replace H : (if (t299 != t302) = true then (laws_FnArmor.j3 kj14 l1 t296 t297 t298 t299 true) else (if t297.toList = t300.toList then (laws_FnArmor.j3 kj14 l1 t296 t297 t298 t299 (t298.toList != t301.toList)) else (laws_FnArmor.j3 kj14 l1 t296 t297 t298 t299 true))) = some r := H
                        have A24 := Aside0.mk A240
                        clear A240
                        have HC25 := Aside0.mk H
                        clear H
                        go_upto_region 15 with (first | ((with_reducible refine gate_callee (f := 72) rfl ?_); refine goesL_ (some 88) rfl rfl Tryd.func72 (by kernel_rfl) rfl #[.slice A1 l1.length c1] rfl (by (try simp only [List.map_toArray, List.map_cons, List.map_nil]); first | done | rfl | (simp only [List.length_drop, List.length_take]; rfl)) ?_; (with_reducible refine (spec_DrawOfArmor.calls kj14 _ _ l1 t296 _ ?side1 ?side2 A22.out).mono ?_); (case side1 => repeat (first | exact (Kd.C_below HR1.out HB.out) | (with_reducible refine Kd.C_alloc ?_ _) | (with_reducible refine Kd.C_drewN ?_ _) | (with_reducible refine Kd.C_drew ?_))); (case side2 => exact HC1.out); rintro e w26 ⟨rfl, hb⟩; refine ⟨_, rfl, ?_⟩; replace HB := bS_ HB hb; (try clear hb)) | ((with_reducible refine gate_callee (f := 71) rfl ?_); refine goesL_ (some 91) rfl rfl Tryd.func71 (by kernel_rfl) rfl #[.string t296] rfl (by (try simp only [List.map_toArray, List.map_cons, List.map_nil]); first | done | rfl | (simp only [List.length_drop, List.length_take]; rfl)) ?_; (with_reducible refine (impl_OfArmor.calls kj14 t296 t297 t298 t299 _ ?side1 A23.out).mono ?_); (case side1 => exact Go.Proofs.YtgoedenbekedbaaDoor.TabsA.Tabs0.of_below TB.out (bU_ HB)); rintro e w27 ⟨rfl, hb⟩; refine ⟨_, rfl, ?_⟩; replace HB := bS_ HB hb; (try clear hb)) | ((with_reducible refine gate_callee (f := 73) rfl ?_); refine goesL_ (some 97) rfl rfl Tryd.func73 (by kernel_rfl) rfl #[.string t296] rfl (by (try simp only [List.map_toArray, List.map_cons, List.map_nil]); first | done | rfl | (simp only [List.length_drop, List.length_take]; rfl)) ?_; (with_reducible refine (spec_OfArmor.calls kj14 t296 t300 t301 t302 _ A24.out).mono ?_); rintro e w28 ⟨rfl, hb⟩; refine ⟨_, rfl, ?_⟩; replace HB := bS_ HB hb; (try clear hb)))
                        (try simp only [Act.put, List.setIfInBounds_toArray, List.set_cons_zero, List.set_cons_succ])
                        go_cut [113] (fun v113 wc => ∃ (kq : Nat) (x113_24 : Bool), v113 = .bool x113_24 ∧ Aside0 (laws_FnArmor.j3 kq l1 t296 t297 t298 t299 x113_24 = some r) ∧ Aside0 (kq ≤ kj14) ∧ Aside0 (Below w.heap.size w wc))
                        case first =>
                          as_aux_lemma =>
                            have H := HC25.out
                            clear HC25
                            by_cases c29 : (t299 != t302) = true
                            · rw [if_pos c29] at H
                              have c29b0 : (t299 != t302) = true := c29
                              (try (have c29b1 : decide (t299 = t302) = false := by simpa using c29))
                              (try (have c29b2 : (t299 == t302) = false := by simpa using c29))
                              (try (have c29b3 : ¬ (t299 = t302) := by simpa using c29))
                              clear c29
                              (first | rw [c29b0] | (simp only [i64_w, i32_w]; rw [c29b0]) | skip)
                              exfalso
                              cases kj14 with
                              | zero => exact absurd H (by simp [laws_FnArmor.j3])
                              | succ kz_ => rw [laws_FnArmor.j3, if_pos rfl] at H; exact absurd ((Option.some.inj H).trans HR_.out) (by decide)
                            · rw [if_neg c29] at H
                              have c29b0 : (t299 != t302) = false := by simpa using c29
                              (try (have c29b1 : decide (t299 = t302) = true := by simpa using c29))
                              (try (have c29b2 : (t299 == t302) = true := by simpa using c29))
                              clear c29
                              (first | rw [c29b0] | (simp only [i64_w, i32_w]; rw [c29b0]) | skip)
                              by_cases c30 : t297.toList = t300.toList
                              · rw [if_pos c30] at H
                                have c30b0 : (t297.toList == t300.toList) = true := beq_iff_eq.mpr c30
                                have c30b1 : (t297.toList != t300.toList) = false := bne_eq_false_iff_eq.mpr c30
                                clear c30
                                as_aux_lemma =>
                                  have H' := Aside0.mk H
                                  clear H
                                  go_wp2
                                  all_goals (try exact absurd ‹some undef = some (Value.bool _)› (by simp [undef]))
                                  go_meet
                                  case rel => exact ⟨_, ((t298.toList != t301.toList)), (by first | rfl | (simp; done) | (simp [*]; done)), H', ⟨by have := HJ6.out; have := HJ12.out; have := HJ14.out; first | omega | exact Nat.le_refl _⟩, ⟨by repeat (first | (with_reducible first | exact HB.out | apply below_alloc | apply pw_below_drewN | apply below_drew1) | exact HB.out)⟩⟩
                              · rw [if_neg c30] at H
                                have c30b0 : (t297.toList == t300.toList) = false := beq_eq_false_iff_ne.mpr c30
                                have c30b1 : (t297.toList != t300.toList) = true := bne_iff_ne.mpr c30
                                exfalso
                                cases kj14 with
                                | zero => exact absurd H (by simp [laws_FnArmor.j3])
                                | succ kz_ => rw [laws_FnArmor.j3, if_pos rfl] at H; exact absurd ((Option.some.inj H).trans HR_.out) (by decide)
                        case rest =>
                          as_aux_lemma =>
                            clear HC25
                            try clear c1
                            try clear c2
                            try clear p2
                            try clear c3
                            try clear c3b0
                            try clear c6
                            try clear p6
                            try clear c7
                            try clear c9
                            try clear c11
                            try clear c11b0
                            try clear c11b1
                            try clear c11b2
                            try clear c12
                            try clear c14
                            try clear c16
                            try clear c18
                            try clear c19
                            try clear c19b0
                            try clear c19b1
                            try clear c20
                            try clear c20b0
                            try clear c20b1
                            try clear c29
                            try clear c29b0
                            try clear c29b1
                            try clear c29b2
                            try clear c30
                            try clear c30b0
                            try clear c30b1
                            try clear p2
                            try clear p6
                            obtain ⟨kq, x113_24, rfl, HA, HJ24, HB⟩ := hcut
                            cases kq with
                            | zero => exact absurd HA.out (by simp [laws_FnArmor.j3])
                            | succ kj24 =>
                              have H := HA.out
                              clear HA
                              simp only [laws_FnArmor.j3] at H
                              by_cases c31 : x113_24 = true
                              · subst c31
                                have H1 : (some false) = some r := by rw [if_pos rfl] at H; exact H
                                clear H
                                have H := H1
                                clear H1
                                exact absurd ((Option.some.inj H).trans HR_.out) (by decide)
                              · replace c31 := Bool.eq_false_iff.mpr c31
                                subst c31
                                have H1 : (if t299 = true then ((impl_ArmorOf.f kj24 t297 t298).bind fun bt303 => (if bt303.2 = true then (if bt303.1.toList = t296.toList then (laws_FnArmor.j4 kj24 l1) else (some false)) else (some false))) else (laws_FnArmor.j4 kj24 l1)) = some r := by rw [if_neg (show ¬ (false = true) by decide)] at H; exact H
                                clear H
                                have H := H1
                                clear H1
                                have HC32 := Aside0.mk H
                                clear H
                                go_upto_if 114 with (fail)
                                go_cut [] (fun wc => ∃ (kq : Nat), Aside0 (laws_FnArmor.j4 kq l1 = some r) ∧ Aside0 (kq ≤ kj24) ∧ Aside0 (Below w.heap.size w wc))
                                case first =>
                                  as_aux_lemma =>
                                    have H := HC32.out
                                    clear HC32
                                    by_cases c33 : t299 = true
                                    · subst c33
                                      have H1 : ((impl_ArmorOf.f kj24 t297 t298).bind fun bt303 => (if bt303.2 = true then (if bt303.1.toList = t296.toList then (laws_FnArmor.j4 kj24 l1) else (some false)) else (some false))) = some r := by rw [if_pos rfl] at H; exact H
                                      clear H
                                      have H := H1
                                      clear H1
                                      replace H := Option.bind_eq_some_iff.mp H
                                      obtain ⟨⟨t303, t304⟩, A340, H⟩ := H
                                      replace H : (if t304 = true then (if t303.toList = t296.toList then (laws_FnArmor.j4 kj24 l1) else (some false)) else (some false)) = some r := H
                                      have A34 := Aside0.mk A340
                                      clear A340
                                      by_cases c35 : t304 = true
                                      · subst c35
                                        have H1 : (if t303.toList = t296.toList then (laws_FnArmor.j4 kj24 l1) else (some false)) = some r := by rw [if_pos rfl] at H; exact H
                                        clear H
                                        have H := H1
                                        clear H1
                                        by_cases c36 : t303.toList = t296.toList
                                        · rw [if_pos c36] at H
                                          have c36b0 : (t303.toList == t296.toList) = true := beq_iff_eq.mpr c36
                                          have c36b1 : (t303.toList != t296.toList) = false := bne_eq_false_iff_eq.mpr c36
                                          clear c36
                                          (first | rw [c36b0] | (simp only [i64_w, i32_w]; rw [c36b0]) | skip)
                                          as_aux_lemma =>
                                            have H' := Aside0.mk H
                                            clear H
                                            go_wp2_with (first | ((with_reducible refine gate_callee (f := 69) rfl ?_); refine goesL_ (some 118) rfl rfl Tryd.func69 (by kernel_rfl) rfl #[.string t297, .string t298] rfl (by (try simp only [List.map_toArray, List.map_cons, List.map_nil]); first | done | rfl | (simp only [List.length_drop, List.length_take]; rfl)) ?_; (with_reducible refine (impl_ArmorOf.calls kj24 t297 t298 t303 true _ A34.out).mono ?_); rintro e w37 ⟨rfl, hb⟩; refine ⟨_, rfl, ?_⟩; replace HB := bS_ HB hb; (try clear hb)))
                                            all_goals (try exact absurd ‹some undef = some (Value.bool _)› (by simp [undef]))
                                            go_meet
                                            case rel => exact ⟨_, H', ⟨by have := HJ6.out; have := HJ12.out; have := HJ14.out; have := HJ24.out; first | omega | exact Nat.le_refl _⟩, ⟨by repeat (first | (with_reducible first | exact HB.out | apply below_alloc | apply pw_below_drewN | apply below_drew1) | exact HB.out)⟩⟩
                                        · rw [if_neg c36] at H
                                          have c36b0 : (t303.toList == t296.toList) = false := beq_eq_false_iff_ne.mpr c36
                                          have c36b1 : (t303.toList != t296.toList) = true := bne_iff_ne.mpr c36
                                          (first | rw [c36b0] | (simp only [i64_w, i32_w]; rw [c36b0]) | skip)
                                          exact absurd ((Option.some.inj H).trans HR_.out) (by decide)
                                      · replace c35 := Bool.eq_false_iff.mpr c35
                                        subst c35
                                        have H1 : (some false) = some r := by rw [if_neg (show ¬ (false = true) by decide)] at H; exact H
                                        clear H
                                        have H := H1
                                        clear H1
                                        exact absurd ((Option.some.inj H).trans HR_.out) (by decide)
                                    · replace c33 := Bool.eq_false_iff.mpr c33
                                      subst c33
                                      have H1 : (laws_FnArmor.j4 kj24 l1) = some r := by rw [if_neg (show ¬ (false = true) by decide)] at H; exact H
                                      clear H
                                      have H := H1
                                      clear H1
                                      as_aux_lemma =>
                                        have H' := Aside0.mk H
                                        clear H
                                        go_wp2
                                        all_goals (try exact absurd ‹some undef = some (Value.bool _)› (by simp [undef]))
                                        go_meet
                                        case rel => exact ⟨_, H', ⟨by have := HJ6.out; have := HJ12.out; have := HJ14.out; have := HJ24.out; first | omega | exact Nat.le_refl _⟩, ⟨by repeat (first | (with_reducible first | exact HB.out | apply below_alloc | apply pw_below_drewN | apply below_drew1) | exact HB.out)⟩⟩
                                case rest =>
                                  as_aux_lemma =>
                                    clear HC32
                                    try clear c1
                                    try clear c2
                                    try clear p2
                                    try clear c3
                                    try clear c3b0
                                    try clear c6
                                    try clear p6
                                    try clear c7
                                    try clear c9
                                    try clear c11
                                    try clear c11b0
                                    try clear c11b1
                                    try clear c11b2
                                    try clear c12
                                    try clear c14
                                    try clear c16
                                    try clear c18
                                    try clear c19
                                    try clear c19b0
                                    try clear c19b1
                                    try clear c20
                                    try clear c20b0
                                    try clear c20b1
                                    try clear c29
                                    try clear c29b0
                                    try clear c29b1
                                    try clear c29b2
                                    try clear c30
                                    try clear c30b0
                                    try clear c30b1
                                    try clear c31
                                    try clear c33
                                    try clear c35
                                    try clear c36
                                    try clear c36b0
                                    try clear c36b1
                                    try clear p2
                                    try clear p6
                                    obtain ⟨kq, HA, HJ31, HB⟩ := hcut
                                    cases kq with
                                    | zero => exact absurd HA.out (by simp [laws_FnArmor.j4])
                                    | succ kj31 =>
                                      have H := HA.out
                                      clear HA
                                      simp only [laws_FnArmor.j4] at H
                                      replace H := Option.bind_eq_some_iff.mp H
                                      obtain ⟨⟨t305, t306⟩, A380, H⟩ := H
                                      replace H : ((impl_LinesOf.f kj31 t305 t306).bind fun bt307 => ((spec_LinesOf.f kj31 t305 t306).bind fun bt311 => (if (bt307.2 != bt311.2) = true then (laws_FnArmor.j5 kj31 t305 t306 bt307.1 bt307.2 true) else ((laws_sameTexts.f kj31 bt307.1 bt311.1).bind fun t315 => (laws_FnArmor.j5 kj31 t305 t306 bt307.1 bt307.2 (!t315)))))) = some r := H
                                      have A38 := Aside0.mk A380
                                      clear A380
                                      replace H := Option.bind_eq_some_iff.mp H
                                      obtain ⟨⟨t307, t308⟩, A390, H⟩ := H
                                      replace H : ((spec_LinesOf.f kj31 t305 t306).bind fun bt311 => (if (t308 != bt311.2) = true then (laws_FnArmor.j5 kj31 t305 t306 t307 t308 true) else ((laws_sameTexts.f kj31 t307 bt311.1).bind fun t315 => (laws_FnArmor.j5 kj31 t305 t306 t307 t308 (!t315))))) = some r := H
                                      have A39 := Aside0.mk A390
                                      clear A390
                                      replace H := Option.bind_eq_some_iff.mp H
                                      obtain ⟨⟨t311, t312⟩, A400, H⟩ := H
                                      replace H : (if (t308 != t312) = true then (laws_FnArmor.j5 kj31 t305 t306 t307 t308 true) else ((laws_sameTexts.f kj31 t307 t311).bind fun t315 => (laws_FnArmor.j5 kj31 t305 t306 t307 t308 (!t315)))) = some r := H
                                      have A40 := Aside0.mk A400
                                      clear A400
                                      have HC41 := Aside0.mk H
                                      clear H
                                      go_upto_region 24 with (first | ((with_reducible refine gate_callee (f := 74) rfl ?_); refine goesL_ (some 130) rfl rfl Tryd.func74 (by kernel_rfl) rfl #[.slice A1 l1.length c1] rfl (by (try simp only [List.map_toArray, List.map_cons, List.map_nil]); first | done | rfl | (simp only [List.length_drop, List.length_take]; rfl)) ?_; (with_reducible refine (spec_DrawLinesOf.calls kj31 _ _ l1 t305 t306 _ ?side1 ?side2 A38.out).mono ?_); (case side1 => repeat (first | exact (Kd.C_below HR1.out HB.out) | (with_reducible refine Kd.C_alloc ?_ _) | (with_reducible refine Kd.C_drewN ?_ _) | (with_reducible refine Kd.C_drew ?_))); (case side2 => exact HC1.out); rintro e w42 ⟨rfl, hb⟩; refine ⟨_, rfl, ?_⟩; replace HB := bS_ HB hb; (try clear hb)) | ((with_reducible refine gate_callee (f := 75) rfl ?_); refine goesL_ (some 136) rfl rfl Tryd.func75 (by kernel_rfl) rfl #[.string t305, .int .i64 t306] rfl (by (try simp only [List.map_toArray, List.map_cons, List.map_nil]); first | done | rfl | (simp only [List.length_drop, List.length_take]; rfl)) ?_; (with_reducible refine (impl_LinesOf.calls kj31 t305 t306 t307 t308 _ A39.out).mono ?_); rintro e w43 ⟨v309, rfl, ho0, hb⟩; refine ⟨_, rfl, ?_⟩; have HO310 := Aside0.mk (Kd.R_lower ho0 (below_size (bU_ HB))); replace HB := bS_ HB hb; (try clear hb); (try clear ho0)) | ((with_reducible refine gate_callee (f := 76) rfl ?_); refine goesL_ (some 142) rfl rfl Tryd.func76 (by kernel_rfl) rfl #[.string t305, .int .i64 t306] rfl (by (try simp only [List.map_toArray, List.map_cons, List.map_nil]); first | done | rfl | (simp only [List.length_drop, List.length_take]; rfl)) ?_; (with_reducible refine (spec_LinesOf.calls kj31 t305 t306 t311 t312 _ A40.out).mono ?_); rintro e w44 ⟨v313, rfl, ho0, hb⟩; refine ⟨_, rfl, ?_⟩; have HO314 := Aside0.mk (Kd.R_lower (Kd.R_new' ho0 (Kd.R_lt (by (with_reducible repeat (first | apply Kd.R_alloc | apply Kd.R_drewN | apply Kd.R_drew)); exact HO310.out))) (below_size (bU_ HB))); replace HO310 := Aside0.mk (Kd.R_elder' (by (with_reducible repeat (first | apply Kd.R_alloc | apply Kd.R_drewN | apply Kd.R_drew)); exact HO310.out) (Kd.R_base ho0) hb); replace HB := bS_ HB hb; (try clear hb); (try clear ho0)))
                                      (try simp only [Act.put, List.setIfInBounds_toArray, List.set_cons_zero, List.set_cons_succ])
                                      go_cut [153] (fun v153 wc => ∃ (kq : Nat) (x153_40 : Bool), v153 = .bool x153_40 ∧ Aside0 (laws_FnArmor.j5 kq t305 t306 t307 t308 x153_40 = some r) ∧ Aside0 (kq ≤ kj31) ∧ Aside0 (Kd.R Kd.string 9 wc w.heap.size (fun _ => True) v309 t307) ∧ Aside0 (Below w.heap.size w wc))
                                      case first =>
                                        as_aux_lemma =>
                                          have H := HC41.out
                                          clear HC41
                                          by_cases c45 : (t308 != t312) = true
                                          · rw [if_pos c45] at H
                                            have c45b0 : (t308 != t312) = true := c45
                                            (try (have c45b1 : decide (t308 = t312) = false := by simpa using c45))
                                            (try (have c45b2 : (t308 == t312) = false := by simpa using c45))
                                            (try (have c45b3 : ¬ (t308 = t312) := by simpa using c45))
                                            clear c45
                                            (first | rw [c45b0] | (simp only [i64_w, i32_w]; rw [c45b0]) | skip)
                                            exfalso
                                            cases kj31 with
                                            | zero => exact absurd H (by simp [laws_FnArmor.j5])
                                            | succ kz_ => rw [laws_FnArmor.j5, if_pos rfl] at H; exact absurd ((Option.some.inj H).trans HR_.out) (by decide)
                                          · rw [if_neg c45] at H
                                            have c45b0 : (t308 != t312) = false := by simpa using c45
                                            (try (have c45b1 : decide (t308 = t312) = true := by simpa using c45))
                                            (try (have c45b2 : (t308 == t312) = true := by simpa using c45))
                                            clear c45
                                            (first | rw [c45b0] | (simp only [i64_w, i32_w]; rw [c45b0]) | skip)
                                            replace H := Option.bind_eq_some_iff.mp H
                                            obtain ⟨t315, A460, H⟩ := H
                                            replace H : (laws_FnArmor.j5 kj31 t305 t306 t307 t308 (!t315)) = some r := H
                                            have A46 := Aside0.mk A460
                                            clear A460
                                            as_aux_lemma =>
                                              have H' := Aside0.mk H
                                              clear H
                                              obtain ⟨Ao47, co47, eo47⟩ := Kd.R_slice HO310.out
                                              subst eo47
                                              obtain ⟨Ao48, co48, eo48⟩ := Kd.R_slice HO314.out
                                              subst eo48
                                              go_wp2_with (first | (go_at_call 77; (with_reducible refine (laws_sameTexts.calls kj31 _ _ t307 _ _ t311 t315 _ ?side1 ?side2 ?side3 ?side4 A46.out).mono ?_); (case side1 => repeat (first | exact (Kd.R_reads' HO310.out).2.2 | (with_reducible refine Kd.C_alloc ?_ _) | (with_reducible refine Kd.C_drewN ?_ _) | (with_reducible refine Kd.C_drew ?_))); (case side2 => exact (Kd.R_reads' HO310.out).2.1); (case side3 => repeat (first | exact (Kd.R_reads' HO314.out).2.2 | (with_reducible refine Kd.C_alloc ?_ _) | (with_reducible refine Kd.C_drewN ?_ _) | (with_reducible refine Kd.C_drew ?_))); (case side4 => exact (Kd.R_reads' HO314.out).2.1); rintro e w' ⟨rfl, ⟨nd, rfl⟩⟩))
                                              all_goals (try exact absurd ‹some undef = some (Value.bool _)› (by simp [undef]))
                                              go_meet
                                              case rel => exact ⟨_, (!t315), (by first | rfl | (simp; done) | (simp [*]; done)), H', ⟨by have := HJ6.out; have := HJ12.out; have := HJ14.out; have := HJ24.out; have := HJ31.out; first | omega | exact Nat.le_refl _⟩, ⟨by (with_reducible repeat (first | apply Kd.R_alloc | apply Kd.R_drewN | apply Kd.R_drew)); exact Kd.R_mono HO310.out (fun _ hk => trivial)⟩, ⟨by repeat (first | (with_reducible first | exact HB.out | apply below_alloc | apply pw_below_drewN | apply below_drew1) | exact HB.out)⟩⟩
                                      case rest =>
                                        as_aux_lemma =>
                                          clear HC41
                                          try clear c1
                                          try clear c2
                                          try clear p2
                                          try clear c3
                                          try clear c3b0
                                          try clear c4
                                          try clear c6
                                          try clear p6
                                          try clear c7
                                          try clear c9
                                          try clear c11
                                          try clear c11b0
                                          try clear c11b1
                                          try clear c11b2
                                          try clear c12
                                          try clear c14
                                          try clear c16
                                          try clear c18
                                          try clear c19
                                          try clear c19b0
                                          try clear c19b1
                                          try clear c20
                                          try clear c20b0
                                          try clear c20b1
                                          try clear c29
                                          try clear c29b0
                                          try clear c29b1
                                          try clear c29b2
                                          try clear c30
                                          try clear c30b0
                                          try clear c30b1
                                          try clear c31
                                          try clear c33
                                          try clear c35
                                          try clear c36
                                          try clear c36b0
                                          try clear c36b1
                                          try clear c45
                                          try clear c45b0
                                          try clear c45b1
                                          try clear c45b2
                                          try clear p2
                                          try clear p6
                                          obtain ⟨kq, x153_40, rfl, HA, HJ40, HO_25, HB⟩ := hcut
                                          cases kq with
                                          | zero => exact absurd HA.out (by simp [laws_FnArmor.j5])
                                          | succ kj40 =>
                                            have H := HA.out
                                            clear HA
                                            simp only [laws_FnArmor.j5] at H
                                            by_cases c49 : x153_40 = true
                                            · subst c49
                                              have H1 : (some false) = some r := by rw [if_pos rfl] at H; exact H
                                              clear H
                                              have H := H1
                                              clear H1
                                              exact absurd ((Option.some.inj H).trans HR_.out) (by decide)
                                            · replace c49 := Bool.eq_false_iff.mpr c49
                                              subst c49
                                              have H1 : (if t308 = true then (laws_FnArmor.l0 kj40 t305 t306 t307 (⟨#[]⟩ : ByteArray) t307 (t307.length : Int) 0) else (some true)) = some r := by rw [if_neg (show ¬ (false = true) by decide)] at H; exact H
                                              clear H
                                              have H := H1
                                              clear H1
                                              by_cases c50 : t308 = true
                                              · subst c50
                                                have H1 : (laws_FnArmor.l0 kj40 t305 t306 t307 (⟨#[]⟩ : ByteArray) t307 (t307.length : Int) 0) = some r := by rw [if_pos rfl] at H; exact H
                                                clear H
                                                have H := H1
                                                clear H1
                                                have H' := Aside0.mk H
                                                clear H
                                                obtain ⟨Ao51, co51, eo51⟩ := Kd.R_slice HO_25.out
                                                subst eo51
                                                go_wp2
                                                go_loopg [29, 157] kj40 (fun kq v29 v157 w' => ∃ (x29_7 : ByteArray) (x157_7 : Int), v29 = .string x29_7 ∧ v157 = .int .i64 x157_7 ∧ Aside0 (laws_FnArmor.l0 kq t305 t306 t307 x29_7 t307 (t307.length : Int) x157_7 = some r) ∧ Aside0 (kq ≤ kj40) ∧ Aside0 (Kd.R Kd.string 9 w' w.heap.size (fun _ => True) (.slice Ao51 t307.length co51) t307) ∧ Aside0 (Kd.R Kd.string 9 w' w.heap.size (fun _ => True) (.slice Ao51 t307.length co51) t307) ∧ Aside0 (Below w.heap.size w w'))
                                                case atStart => exact ⟨((⟨#[]⟩ : ByteArray)), (0), (by first | rfl | (simp; done) | (simp [*]; done)), (by first | rfl | (simp; done) | (simp [*]; done)), H', ⟨Nat.le_refl _⟩, ⟨by (with_reducible repeat (first | apply Kd.R_alloc | apply Kd.R_drewN | apply Kd.R_drew)); exact HO_25.out⟩, ⟨by (with_reducible repeat (first | apply Kd.R_alloc | apply Kd.R_drewN | apply Kd.R_drew)); exact HO_25.out⟩, ⟨by repeat (first | (with_reducible first | exact HB.out | apply below_alloc | apply pw_below_drewN | apply below_drew1) | exact HB.out)⟩⟩
                                                case round =>
                                                  as_aux_lemma =>
                                                    clear H'
                                                    try clear c1
                                                    try clear c2
                                                    try clear p2
                                                    try clear c3
                                                    try clear c3b0
                                                    try clear c4
                                                    try clear c5
                                                    try clear c6
                                                    try clear p6
                                                    try clear c7
                                                    try clear c9
                                                    try clear c11
                                                    try clear c11b0
                                                    try clear c11b1
                                                    try clear c11b2
                                                    try clear c12
                                                    try clear c14
                                                    try clear c16
                                                    try clear c18
                                                    try clear c19
                                                    try clear c19b0
                                                    try clear c19b1
                                                    try clear c20
                                                    try clear c20b0
                                                    try clear c20b1
                                                    try clear c29
                                                    try clear c29b0
                                                    try clear c29b1
                                                    try clear c29b2
                                                    try clear c30
                                                    try clear c30b0
                                                    try clear c30b1
                                                    try clear c31
                                                    try clear c33
                                                    try clear c35
                                                    try clear c36
                                                    try clear c36b0
                                                    try clear c36b1
                                                    try clear c45
                                                    try clear c45b0
                                                    try clear c45b1
                                                    try clear c45b2
                                                    try clear c49
                                                    try clear c50
                                                    try clear p2
                                                    try clear p6
                                                    obtain ⟨x29_7, x157_7, rfl, rfl, HA, HK7, HO_25, HO_155, HB⟩ := hrel
                                                    cases gk with
                                                    | zero => exact absurd HA.out (by simp [laws_FnArmor.l0])
                                                    | succ k7 =>
                                                      have H := HA.out
                                                      clear HA
                                                      simp only [laws_FnArmor.l0] at H
                                                      by_cases c52 : x157_7 < (t307.length : Int)
                                                      · rw [if_pos c52] at H
                                                        have c52b0 : decide (x157_7 < (t307.length : Int)) = true := decide_eq_true c52
                                                        clear c52
                                                        by_cases c53 : 0 ≤ x157_7
                                                        · rw [if_pos c53] at H
                                                          have c53b0 : decide (0 ≤ x157_7) = true := decide_eq_true c53
                                                          clear c53
                                                          by_cases c54 : x157_7 < (t307.length : Int)
                                                          · rw [if_pos c54] at H
                                                            have c54b0 : decide (x157_7 < (t307.length : Int)) = true := decide_eq_true c54
                                                            clear c54
                                                            by_cases c55 : x157_7 < (wrap64 ((t307.length : Int) - 1))
                                                            · rw [if_pos c55] at H
                                                              have c55b0 : decide (x157_7 < (wrap64 ((t307.length : Int) - 1))) = true := decide_eq_true c55
                                                              clear c55
                                                              by_cases c56 : ((rdOf ByteArray.empty t307 x157_7).size : Int) = t306
                                                              · rw [if_pos c56] at H
                                                                have c56b0 : (((rdOf ByteArray.empty t307 x157_7).size : Int) == t306) = true := beq_iff_eq.mpr c56
                                                                have c56b1 : (((rdOf ByteArray.empty t307 x157_7).size : Int) != t306) = false := bne_eq_false_iff_eq.mpr c56
                                                                clear c56
                                                                by_cases c57 : ((rdOf ByteArray.empty t307 x157_7).size : Int) = 0
                                                                · rw [if_pos c57] at H
                                                                  have c57b0 : (((rdOf ByteArray.empty t307 x157_7).size : Int) == 0) = true := beq_iff_eq.mpr c57
                                                                  have c57b1 : (((rdOf ByteArray.empty t307 x157_7).size : Int) != 0) = false := bne_eq_false_iff_eq.mpr c57
                                                                  clear c57
                                                                  exact absurd ((Option.some.inj H).trans HR_.out) (by decide)
                                                                · rw [if_neg c57] at H
                                                                  have c57b0 : (((rdOf ByteArray.empty t307 x157_7).size : Int) == 0) = false := beq_eq_false_iff_ne.mpr c57
                                                                  have c57b1 : (((rdOf ByteArray.empty t307 x157_7).size : Int) != 0) = true := bne_iff_ne.mpr c57
                                                                  by_cases c58 : ((rdOf ByteArray.empty t307 x157_7).size : Int) > t306
                                                                  · rw [if_pos c58] at H
                                                                    have c58b0 : decide (t306 < ((rdOf ByteArray.empty t307 x157_7).size : Int)) = true := decide_eq_true c58
                                                                    clear c58
                                                                    exact absurd ((Option.some.inj H).trans HR_.out) (by decide)
                                                                  · rw [if_neg c58] at H
                                                                    have c58b0 : decide (t306 < ((rdOf ByteArray.empty t307 x157_7).size : Int)) = false := decide_eq_false c58
                                                                    clear c58
                                                                    by_cases c59 : x29_7.size + (rdOf ByteArray.empty t307 x157_7).size ≤ 9223372036854775807
                                                                    · rw [if_pos c59] at H
                                                                      have c59b0 := eq_true c59
                                                                      have c59b1 : decide (x29_7.size + (rdOf ByteArray.empty t307 x157_7).size ≤ 9223372036854775807) = true := decide_eq_true c59
                                                                      try have c59b2 : (9223372036854775807 < x29_7.size + (rdOf ByteArray.empty t307 x157_7).size) = False := eq_false (Nat.not_lt.2 c59)
                                                                      as_aux_lemma =>
                                                                        have H' := Aside0.mk H
                                                                        clear H
                                                                        have p316 : 0 ≤ (x157_7 : Int) := of_decide_eq_true (by first | (with_reducible assumption) | assumption)
                                                                        have q316 : x157_7 < (t307.length : Int) := of_decide_eq_true (by first | (with_reducible assumption) | assumption)
                                                                        obtain ⟨ad316, e316, hx316_0⟩ := Kd.at_string (Kd.R_reads' HO_155.out).2.2 x157_7 p316 q316
                                                                        cases e316
                                                                        replace p316 := eq_true p316
                                                                        replace q316 := eq_true q316
                                                                        go_wp2
                                                                        all_goals (try exact absurd ‹some undef = some (Value.bool _)› (by simp [undef]))
                                                                        go_roundg k7
                                                                        case measure => have := HJ6.out; have := HJ12.out; have := HJ14.out; have := HJ24.out; have := HJ31.out; have := HJ40.out; have := HK7.out; omega
                                                                        case rel => exact ⟨(x29_7 ++ (rdOf ByteArray.empty t307 x157_7)), (wrap64 (x157_7 + 1)), (by first | rfl | (simp; done) | (simp [*]; done)), (by first | rfl | (simp; done) | (simp [*]; done)), H', ⟨by have := HJ6.out; have := HJ12.out; have := HJ14.out; have := HJ24.out; have := HJ31.out; have := HJ40.out; have := HK7.out; omega⟩, ⟨by (with_reducible repeat (first | apply Kd.R_alloc | apply Kd.R_drewN | apply Kd.R_drew)); exact HO_25.out⟩, ⟨by (with_reducible repeat (first | apply Kd.R_alloc | apply Kd.R_drewN | apply Kd.R_drew)); exact HO_155.out⟩, ⟨by repeat (first | (with_reducible first | exact HB.out | apply below_alloc | apply pw_below_drewN | apply below_drew1) | exact HB.out)⟩⟩
                                                                    · rw [if_neg c59] at H
                                                                      exact absurd H (by simp)
                                                              · rw [if_neg c56] at H
                                                                have c56b0 : (((rdOf ByteArray.empty t307 x157_7).size : Int) == t306) = false := beq_eq_false_iff_ne.mpr c56
                                                                have c56b1 : (((rdOf ByteArray.empty t307 x157_7).size : Int) != t306) = true := bne_iff_ne.mpr c56
                                                                exact absurd ((Option.some.inj H).trans HR_.out) (by decide)
                                                            · rw [if_neg c55] at H
                                                              have c55b0 : decide (x157_7 < (wrap64 ((t307.length : Int) - 1))) = false := decide_eq_false c55
                                                              clear c55
                                                              by_cases c60 : ((rdOf ByteArray.empty t307 x157_7).size : Int) = 0
                                                              · rw [if_pos c60] at H
                                                                have c60b0 : (((rdOf ByteArray.empty t307 x157_7).size : Int) == 0) = true := beq_iff_eq.mpr c60
                                                                have c60b1 : (((rdOf ByteArray.empty t307 x157_7).size : Int) != 0) = false := bne_eq_false_iff_eq.mpr c60
                                                                clear c60
                                                                exact absurd ((Option.some.inj H).trans HR_.out) (by decide)
                                                              · rw [if_neg c60] at H
                                                                have c60b0 : (((rdOf ByteArray.empty t307 x157_7).size : Int) == 0) = false := beq_eq_false_iff_ne.mpr c60
                                                                have c60b1 : (((rdOf ByteArray.empty t307 x157_7).size : Int) != 0) = true := bne_iff_ne.mpr c60
                                                                by_cases c61 : ((rdOf ByteArray.empty t307 x157_7).size : Int) > t306
                                                                · rw [if_pos c61] at H
                                                                  have c61b0 : decide (t306 < ((rdOf ByteArray.empty t307 x157_7).size : Int)) = true := decide_eq_true c61
                                                                  clear c61
                                                                  exact absurd ((Option.some.inj H).trans HR_.out) (by decide)
                                                                · rw [if_neg c61] at H
                                                                  have c61b0 : decide (t306 < ((rdOf ByteArray.empty t307 x157_7).size : Int)) = false := decide_eq_false c61
                                                                  clear c61
                                                                  by_cases c62 : x29_7.size + (rdOf ByteArray.empty t307 x157_7).size ≤ 9223372036854775807
                                                                  · rw [if_pos c62] at H
                                                                    have c62b0 := eq_true c62
                                                                    have c62b1 : decide (x29_7.size + (rdOf ByteArray.empty t307 x157_7).size ≤ 9223372036854775807) = true := decide_eq_true c62
                                                                    try have c62b2 : (9223372036854775807 < x29_7.size + (rdOf ByteArray.empty t307 x157_7).size) = False := eq_false (Nat.not_lt.2 c62)
                                                                    as_aux_lemma =>
                                                                      have H' := Aside0.mk H
                                                                      clear H
                                                                      have p316 : 0 ≤ (x157_7 : Int) := of_decide_eq_true (by first | (with_reducible assumption) | assumption)
                                                                      have q316 : x157_7 < (t307.length : Int) := of_decide_eq_true (by first | (with_reducible assumption) | assumption)
                                                                      obtain ⟨ad316, e316, hx316_0⟩ := Kd.at_string (Kd.R_reads' HO_155.out).2.2 x157_7 p316 q316
                                                                      cases e316
                                                                      replace p316 := eq_true p316
                                                                      replace q316 := eq_true q316
                                                                      go_wp2
                                                                      all_goals (try exact absurd ‹some undef = some (Value.bool _)› (by simp [undef]))
                                                                      go_roundg k7
                                                                      case measure => have := HJ6.out; have := HJ12.out; have := HJ14.out; have := HJ24.out; have := HJ31.out; have := HJ40.out; have := HK7.out; omega
                                                                      case rel => exact ⟨(x29_7 ++ (rdOf ByteArray.empty t307 x157_7)), (wrap64 (x157_7 + 1)), (by first | rfl | (simp; done) | (simp [*]; done)), (by first | rfl | (simp; done) | (simp [*]; done)), H', ⟨by have := HJ6.out; have := HJ12.out; have := HJ14.out; have := HJ24.out; have := HJ31.out; have := HJ40.out; have := HK7.out; omega⟩, ⟨by (with_reducible repeat (first | apply Kd.R_alloc | apply Kd.R_drewN | apply Kd.R_drew)); exact HO_25.out⟩, ⟨by (with_reducible repeat (first | apply Kd.R_alloc | apply Kd.R_drewN | apply Kd.R_drew)); exact HO_155.out⟩, ⟨by repeat (first | (with_reducible first | exact HB.out | apply below_alloc | apply pw_below_drewN | apply below_drew1) | exact HB.out)⟩⟩
                                                                  · rw [if_neg c62] at H
                                                                    exact absurd H (by simp)
                                                          · rw [if_neg c54] at H
                                                            exact absurd H (by simp)
                                                        · rw [if_neg c53] at H
                                                          exact absurd H (by simp)
                                                      · rw [if_neg c52] at H
                                                        have c52b0 : decide (x157_7 < (t307.length : Int)) = false := decide_eq_false c52
                                                        clear c52
                                                        as_aux_lemma =>
                                                          obtain rfl := Option.some.inj H
                                                          go_wp2
                                                          all_goals (try exact absurd ‹some undef = some (Value.bool _)› (by simp [undef]))
                                                          go_ret
                                                          exact ⟨by first | rfl | (simp [errW_none, errW_some] <;> rfl) | (simp [*, errW_none, errW_some] <;> rfl), by repeat (first | (with_reducible first | exact HB.out | apply below_alloc | apply pw_below_drewN | apply below_drew1) | exact HB.out)⟩
                                              · replace c50 := Bool.eq_false_iff.mpr c50
                                                subst c50
                                                have H1 : (some true) = some r := by rw [if_neg (show ¬ (false = true) by decide)] at H; exact H
                                                clear H
                                                have H := H1
                                                clear H1
                                                as_aux_lemma =>
                                                  obtain rfl := Option.some.inj H
                                                  go_wp2
                                                  all_goals (try exact absurd ‹some undef = some (Value.bool _)› (by simp [undef]))
                                                  go_ret
                                                  exact ⟨by first | rfl | (simp [errW_none, errW_some] <;> rfl) | (simp [*, errW_none, errW_some] <;> rfl), by repeat (first | (with_reducible first | exact HB.out | apply below_alloc | apply pw_below_drewN | apply below_drew1) | exact HB.out)⟩

/-- THE ONE PURE STATEMENT of laws_FnArmor: yours. -/
def laws_FnArmor.Pure : Prop := ∀ (l0 : List Int) (l1 : List Int), l0.length ≤ maxLen → l0.length * 1 ≤ 140737488351232 → (∀ x ∈ l0, (Lit.int .u8 x).wf = true) → l1.length ≤ maxLen → l1.length * 1 ≤ 140737488351232 → (∀ x ∈ l1, (Lit.int .u8 x).wf = true) → ∃ k, laws_FnArmor.f k l0 l1 = some true
theorem laws_FnArmor.walk (P : laws_FnArmor.Pure) (a0 : Option Addr) (len0 cap0 : Nat) (z0 : List Int) (a1 : Option Addr) (len1 cap1 : Nat) (z1 : List Int) (w : World) (tb : Go.Proofs.YtgoedenbekedbaaDoor.TabsA.Tabs0 w) (w0 : (a0 = none ∧ len0 = 0 ∧ cap0 = 0 ∧ z0 = []) ∨ ∃ x, a0 = some x ∧ len0 ≤ cap0 ∧ cap0 ≤ maxLen ∧ z0.length = cap0 ∧ (∀ i, i < z0.length → w.cell? (x.add i) = some (.int .u8 (z0.getD i 0))) ∧ ∀ n ∈ z0, (Lit.int .u8 n).wf = true) (y0 : len0 * 1 ≤ 140737488351232) (w1 : (a1 = none ∧ len1 = 0 ∧ cap1 = 0 ∧ z1 = []) ∨ ∃ x, a1 = some x ∧ len1 ≤ cap1 ∧ cap1 ≤ maxLen ∧ z1.length = cap1 ∧ (∀ i, i < z1.length → w.cell? (x.add i) = some (.int .u8 (z1.getD i 0))) ∧ ∀ n ∈ z1, (Lit.int .u8 n).wf = true) (y1 : len1 * 1 ≤ 140737488351232) :
    Calls Tryd.prog 9 #[.slice a0 len0 cap0, .slice a1 len1 cap1] w fun e w' => e = .returned (.bool true) ∧ Below w.heap.size w w' := by
  obtain ⟨l0, rfl, hr0, hm0, hw0, hc0⟩ := ReadsInt.ofRowC w0
  obtain ⟨l1, rfl, hr1, hm1, hw1, hc1⟩ := ReadsInt.ofRowC w1
  obtain ⟨k, h⟩ := P l0 l1 hm0 y0 hw0 hm1 y1 hw1
  refine (laws_FnArmor.calls k _ _ l0 _ _ l1 true w tb rfl (Kd.C_of_reads (d := (0 : Int)) (h1 := fun _ => rfl) hr0) hc0 (Kd.C_of_reads (d := (0 : Int)) (h1 := fun _ => rfl) hr1) hc1 h).mono ?_
  rintro e w' ⟨rfl, hd⟩
  exact ⟨rfl, hd⟩

end
end Go.Proofs.YtgoedenbekedbaaDoor.PFnArmor
