-- Printed by wip/tools/patch_print.py; Lean checks it.
import Derived.Test.YtkfbdopfeacnfaaDoorPFnFieldsx0
import Derived.Test.YtkfbdopfeacnfaaDoorPFnFieldsx4
import Derived.Test.YtkfbdopfeacnfaaDoorPFnFieldsx8
import Derived.Test.YtkfbdopfeacnfaaDoorPFnFieldsx9
import Derived.Test.YtkfbdopfeacnfaaDoorPFnFieldsx10
import Derived.Test.YtkfbdopfeacnfaaDoorPFnFieldsx12
import Derived.Test.YtkfbdopfeacnfaaDoorPFnFieldsx13
namespace Go.Proofs.YtkfbdopfeacnfaaDoor.PFnFields
open Go.RowKit Go.Proofs.YtkfbdopfeacnfaaDoorW.PrintWords Go.Proofs.YtkfbdopfeacnfaaDoorW.PrintLast Go.Proofs.YtkfbdopfeacnfaaDoorW.PrintMore
attribute [local go_sem] max2_int min2_int max_two min_two max_three min_three max_four min_four   -- for this text's walks alone
set_option linter.unusedVariables false
set_option linter.unusedSimpArgs false

noncomputable section
/-! ### laws_FnFields: function 9 -/
mutual
def laws_FnFields.j0 : Nat → List Int → List (S61) → ByteArray → List (S61) → List (S61) → Bool → Bool → Option (Bool)
 | 0, _, _, _, _, _, _, _ => none
 | k + 1, x1, x5, x6, x7, x8, x9, x68 => if x68 = true then (some false) else (if x9 = true then ((impl_FieldOf.f k x8 x6).bind fun bt385 => ((impl_GoodValue.f k x8).bind fun t389 => (if t389 = true then (if bt385.2 = true then ((laws_sameNodes.f k bt385.1 x7).bind fun t390 => (laws_FnFields.j1 k x1 x5 x6 x8 (!t390))) else (laws_FnFields.j1 k x1 x5 x6 x8 true)) else (laws_FnFields.j1 k x1 x5 x6 x8 true)))) else (laws_FnFields.j3 k x1))
def laws_FnFields.j3 : Nat → List Int → Option (Bool)
 | 0, _ => none
 | k + 1, x1 => (spec_DrawFieldOf.f k x1).bind fun bt400 => ((impl_FieldOf.f k bt400.1 bt400.2).bind fun bt404 => ((spec_FieldOf.f k bt400.1 bt400.2).bind fun bt408 => ((spec_DrawDepthOf.f k x1).bind fun t412 => ((impl_DepthOf.f k t412).bind fun bt415 => ((spec_DepthOf.f k t412).bind fun bt417 => (if (bt404.2 != bt408.2) = true then (laws_FnFields.j4 k bt400.1 bt404.1 bt404.2 true) else ((laws_sameNodes.f k bt404.1 bt408.1).bind fun t419 => (if t419 = true then (if (bt415.2 != bt417.2) = true then (laws_FnFields.j4 k bt400.1 bt404.1 bt404.2 true) else (laws_FnFields.j4 k bt400.1 bt404.1 bt404.2 (bt415.1 != bt417.1))) else (laws_FnFields.j4 k bt400.1 bt404.1 bt404.2 true)))))))))
def laws_FnFields.j4 : Nat → List (S61) → List (S61) → Bool → Bool → Option (Bool)
 | 0, _, _, _, _ => none
 | k + 1, x19, x21, x22, x160 => if x160 = true then (some false) else (if x22 = true then ((impl_DepthOf.f k x19).bind fun bt420 => ((impl_DepthOf.f k x21).bind fun bt422 => (if bt420.2 = true then (if bt422.2 = true then (if bt422.1 < bt420.1 then ((impl_GoodValue.f k x21).bind fun t424 => (some t424)) else (some false)) else (some false)) else (some false)))) else (some true))
def laws_FnFields.j1 : Nat → List Int → List (S61) → ByteArray → List (S61) → Bool → Option (Bool)
 | 0, _, _, _, _, _ => none
 | k + 1, x1, x5, x6, x8, x88 => if x88 = true then (some false) else (if x6.toList = ([107, 105, 110, 100] : List UInt8) then (laws_FnFields.j2 k x1 x5 x8 (⟨#[97]⟩ : ByteArray)) else (laws_FnFields.j2 k x1 x5 x8 (⟨#[107, 105, 110, 100]⟩ : ByteArray)))
def laws_FnFields.j2 : Nat → List Int → List (S61) → List (S61) → ByteArray → Option (Bool)
 | 0, _, _, _, _ => none
 | k + 1, x1, x5, x8, x14 => (impl_FieldOf.f k x5 x14).bind fun bt391 => ((impl_FieldOf.f k x8 x14).bind fun bt395 => (if (bt391.2 != bt395.2) = true then (some false) else ((laws_sameNodes.f k bt391.1 bt395.1).bind fun t399 => (if t399 = true then (laws_FnFields.j3 k x1) else (some false)))))
end
def laws_FnFields.f (k : Nat) (l0 : List Int) (l1 : List Int) : Option (Bool) := if (wrap64 ((l0.length : Int) + (l1.length : Int))) > 1048576 then (some true) else ((spec_DrawWithField.f k l0).bind fun bt369 => ((impl_WithField.f k bt369.1 bt369.2.1 bt369.2.2).bind fun bt376 => ((spec_WithField.f k bt369.1 bt369.2.1 bt369.2.2).bind fun bt380 => (if (bt376.2 != bt380.2) = true then (laws_FnFields.j0 k l1 bt369.1 bt369.2.1 bt369.2.2 bt376.1 bt376.2 true) else ((laws_sameNodes.f k bt376.1 bt380.1).bind fun t384 => (laws_FnFields.j0 k l1 bt369.1 bt369.2.1 bt369.2.2 bt376.1 bt376.2 (!t384)))))))
theorem laws_FnFields.mono_l : ∀ k, (∀ y0 y1 y2 y3 y4 y5 y6, LeO (laws_FnFields.j0 k y0 y1 y2 y3 y4 y5 y6) (laws_FnFields.j0 (k + 1) y0 y1 y2 y3 y4 y5 y6)) ∧ (∀ y0, LeO (laws_FnFields.j3 k y0) (laws_FnFields.j3 (k + 1) y0)) ∧ (∀ y0 y1 y2 y3, LeO (laws_FnFields.j4 k y0 y1 y2 y3) (laws_FnFields.j4 (k + 1) y0 y1 y2 y3)) ∧ (∀ y0 y1 y2 y3 y4, LeO (laws_FnFields.j1 k y0 y1 y2 y3 y4) (laws_FnFields.j1 (k + 1) y0 y1 y2 y3 y4)) ∧ (∀ y0 y1 y2 y3, LeO (laws_FnFields.j2 k y0 y1 y2 y3) (laws_FnFields.j2 (k + 1) y0 y1 y2 y3))
 | 0 => ⟨fun _ _ _ _ _ _ _ r h => by simp [laws_FnFields.j0] at h, fun _ r h => by simp [laws_FnFields.j3] at h, fun _ _ _ _ r h => by simp [laws_FnFields.j4] at h, fun _ _ _ _ _ r h => by simp [laws_FnFields.j1] at h, fun _ _ _ _ r h => by simp [laws_FnFields.j2] at h⟩
 | k + 1 => by
  obtain ⟨ih0, ih1, ih2, ih3, ih4⟩ := laws_FnFields.mono_l k
  refine ⟨?_, ?_, ?_, ?_, ?_⟩
  ·intro y0 y1 y2 y3 y4 y5 y6
   unfold laws_FnFields.j0
   repeat' first
   | (with_reducible exact ih0 _ _ _ _ _ _ _)
   | (with_reducible exact ih1 _)
   | (with_reducible exact ih2 _ _ _ _)
   | (with_reducible exact ih3 _ _ _ _ _)
   | (with_reducible exact ih4 _ _ _ _)
   | (with_reducible exact impl_DepthOf.mono _ _)
   | (with_reducible exact impl_FieldOf.mono _ _ _)
   | (with_reducible exact impl_GoodValue.mono _ _)
   | (with_reducible exact impl_WithField.mono _ _ _ _)
   | (with_reducible exact laws_sameNodes.mono _ _ _)
   | (with_reducible exact spec_DepthOf.mono _ _)
   | (with_reducible exact spec_DrawDepthOf.mono _ _)
   | (with_reducible exact spec_DrawFieldOf.mono _ _)
   | (with_reducible exact spec_DrawWithField.mono _ _)
   | (with_reducible exact spec_FieldOf.mono _ _ _)
   | (with_reducible exact spec_WithField.mono _ _ _ _)
   | (with_reducible exact LeO.refl _)
   | (with_reducible exact LeO.none _)
   | (with_reducible refine LeO.ite ?_ ?_)
   | (with_reducible refine LeO.bind ?_ (fun _ => ?_))
   | exact ih0 _ _ _ _ _ _ _
   | exact ih1 _
   | exact ih2 _ _ _ _
   | exact ih3 _ _ _ _ _
   | exact ih4 _ _ _ _
   | exact impl_DepthOf.mono _ _
   | exact impl_FieldOf.mono _ _ _
   | exact impl_GoodValue.mono _ _
   | exact impl_WithField.mono _ _ _ _
   | exact laws_sameNodes.mono _ _ _
   | exact spec_DepthOf.mono _ _
   | exact spec_DrawDepthOf.mono _ _
   | exact spec_DrawFieldOf.mono _ _
   | exact spec_DrawWithField.mono _ _
   | exact spec_FieldOf.mono _ _ _
   | exact spec_WithField.mono _ _ _ _
   | exact LeO.none _
   | refine LeO.ite ?_ ?_
   | refine LeO.bind ?_ (fun _ => ?_)
  ·intro y0
   unfold laws_FnFields.j3
   repeat' first
   | (with_reducible exact ih0 _ _ _ _ _ _ _)
   | (with_reducible exact ih1 _)
   | (with_reducible exact ih2 _ _ _ _)
   | (with_reducible exact ih3 _ _ _ _ _)
   | (with_reducible exact ih4 _ _ _ _)
   | (with_reducible exact impl_DepthOf.mono _ _)
   | (with_reducible exact impl_FieldOf.mono _ _ _)
   | (with_reducible exact impl_GoodValue.mono _ _)
   | (with_reducible exact impl_WithField.mono _ _ _ _)
   | (with_reducible exact laws_sameNodes.mono _ _ _)
   | (with_reducible exact spec_DepthOf.mono _ _)
   | (with_reducible exact spec_DrawDepthOf.mono _ _)
   | (with_reducible exact spec_DrawFieldOf.mono _ _)
   | (with_reducible exact spec_DrawWithField.mono _ _)
   | (with_reducible exact spec_FieldOf.mono _ _ _)
   | (with_reducible exact spec_WithField.mono _ _ _ _)
   | (with_reducible exact LeO.refl _)
   | (with_reducible exact LeO.none _)
   | (with_reducible refine LeO.ite ?_ ?_)
   | (with_reducible refine LeO.bind ?_ (fun _ => ?_))
   | exact ih0 _ _ _ _ _ _ _
   | exact ih1 _
   | exact ih2 _ _ _ _
   | exact ih3 _ _ _ _ _
   | exact ih4 _ _ _ _
   | exact impl_DepthOf.mono _ _
   | exact impl_FieldOf.mono _ _ _
   | exact impl_GoodValue.mono _ _
   | exact impl_WithField.mono _ _ _ _
   | exact laws_sameNodes.mono _ _ _
   | exact spec_DepthOf.mono _ _
   | exact spec_DrawDepthOf.mono _ _
   | exact spec_DrawFieldOf.mono _ _
   | exact spec_DrawWithField.mono _ _
   | exact spec_FieldOf.mono _ _ _
   | exact spec_WithField.mono _ _ _ _
   | exact LeO.none _
   | refine LeO.ite ?_ ?_
   | refine LeO.bind ?_ (fun _ => ?_)
  ·intro y0 y1 y2 y3
   unfold laws_FnFields.j4
   repeat' first
   | (with_reducible exact ih0 _ _ _ _ _ _ _)
   | (with_reducible exact ih1 _)
   | (with_reducible exact ih2 _ _ _ _)
   | (with_reducible exact ih3 _ _ _ _ _)
   | (with_reducible exact ih4 _ _ _ _)
   | (with_reducible exact impl_DepthOf.mono _ _)
   | (with_reducible exact impl_FieldOf.mono _ _ _)
   | (with_reducible exact impl_GoodValue.mono _ _)
   | (with_reducible exact impl_WithField.mono _ _ _ _)
   | (with_reducible exact laws_sameNodes.mono _ _ _)
   | (with_reducible exact spec_DepthOf.mono _ _)
   | (with_reducible exact spec_DrawDepthOf.mono _ _)
   | (with_reducible exact spec_DrawFieldOf.mono _ _)
   | (with_reducible exact spec_DrawWithField.mono _ _)
   | (with_reducible exact spec_FieldOf.mono _ _ _)
   | (with_reducible exact spec_WithField.mono _ _ _ _)
   | (with_reducible exact LeO.refl _)
   | (with_reducible exact LeO.none _)
   | (with_reducible refine LeO.ite ?_ ?_)
   | (with_reducible refine LeO.bind ?_ (fun _ => ?_))
   | exact ih0 _ _ _ _ _ _ _
   | exact ih1 _
   | exact ih2 _ _ _ _
   | exact ih3 _ _ _ _ _
   | exact ih4 _ _ _ _
   | exact impl_DepthOf.mono _ _
   | exact impl_FieldOf.mono _ _ _
   | exact impl_GoodValue.mono _ _
   | exact impl_WithField.mono _ _ _ _
   | exact laws_sameNodes.mono _ _ _
   | exact spec_DepthOf.mono _ _
   | exact spec_DrawDepthOf.mono _ _
   | exact spec_DrawFieldOf.mono _ _
   | exact spec_DrawWithField.mono _ _
   | exact spec_FieldOf.mono _ _ _
   | exact spec_WithField.mono _ _ _ _
   | exact LeO.none _
   | refine LeO.ite ?_ ?_
   | refine LeO.bind ?_ (fun _ => ?_)
  ·intro y0 y1 y2 y3 y4
   unfold laws_FnFields.j1
   repeat' first
   | (with_reducible exact ih0 _ _ _ _ _ _ _)
   | (with_reducible exact ih1 _)
   | (with_reducible exact ih2 _ _ _ _)
   | (with_reducible exact ih3 _ _ _ _ _)
   | (with_reducible exact ih4 _ _ _ _)
   | (with_reducible exact impl_DepthOf.mono _ _)
   | (with_reducible exact impl_FieldOf.mono _ _ _)
   | (with_reducible exact impl_GoodValue.mono _ _)
   | (with_reducible exact impl_WithField.mono _ _ _ _)
   | (with_reducible exact laws_sameNodes.mono _ _ _)
   | (with_reducible exact spec_DepthOf.mono _ _)
   | (with_reducible exact spec_DrawDepthOf.mono _ _)
   | (with_reducible exact spec_DrawFieldOf.mono _ _)
   | (with_reducible exact spec_DrawWithField.mono _ _)
   | (with_reducible exact spec_FieldOf.mono _ _ _)
   | (with_reducible exact spec_WithField.mono _ _ _ _)
   | (with_reducible exact LeO.refl _)
   | (with_reducible exact LeO.none _)
   | (with_reducible refine LeO.ite ?_ ?_)
   | (with_reducible refine LeO.bind ?_ (fun _ => ?_))
   | exact ih0 _ _ _ _ _ _ _
   | exact ih1 _
   | exact ih2 _ _ _ _
   | exact ih3 _ _ _ _ _
   | exact ih4 _ _ _ _
   | exact impl_DepthOf.mono _ _
   | exact impl_FieldOf.mono _ _ _
   | exact impl_GoodValue.mono _ _
   | exact impl_WithField.mono _ _ _ _
   | exact laws_sameNodes.mono _ _ _
   | exact spec_DepthOf.mono _ _
   | exact spec_DrawDepthOf.mono _ _
   | exact spec_DrawFieldOf.mono _ _
   | exact spec_DrawWithField.mono _ _
   | exact spec_FieldOf.mono _ _ _
   | exact spec_WithField.mono _ _ _ _
   | exact LeO.none _
   | refine LeO.ite ?_ ?_
   | refine LeO.bind ?_ (fun _ => ?_)
  ·intro y0 y1 y2 y3
   unfold laws_FnFields.j2
   repeat' first
   | (with_reducible exact ih0 _ _ _ _ _ _ _)
   | (with_reducible exact ih1 _)
   | (with_reducible exact ih2 _ _ _ _)
   | (with_reducible exact ih3 _ _ _ _ _)
   | (with_reducible exact ih4 _ _ _ _)
   | (with_reducible exact impl_DepthOf.mono _ _)
   | (with_reducible exact impl_FieldOf.mono _ _ _)
   | (with_reducible exact impl_GoodValue.mono _ _)
   | (with_reducible exact impl_WithField.mono _ _ _ _)
   | (with_reducible exact laws_sameNodes.mono _ _ _)
   | (with_reducible exact spec_DepthOf.mono _ _)
   | (with_reducible exact spec_DrawDepthOf.mono _ _)
   | (with_reducible exact spec_DrawFieldOf.mono _ _)
   | (with_reducible exact spec_DrawWithField.mono _ _)
   | (with_reducible exact spec_FieldOf.mono _ _ _)
   | (with_reducible exact spec_WithField.mono _ _ _ _)
   | (with_reducible exact LeO.refl _)
   | (with_reducible exact LeO.none _)
   | (with_reducible refine LeO.ite ?_ ?_)
   | (with_reducible refine LeO.bind ?_ (fun _ => ?_))
   | exact ih0 _ _ _ _ _ _ _
   | exact ih1 _
   | exact ih2 _ _ _ _
   | exact ih3 _ _ _ _ _
   | exact ih4 _ _ _ _
   | exact impl_DepthOf.mono _ _
   | exact impl_FieldOf.mono _ _ _
   | exact impl_GoodValue.mono _ _
   | exact impl_WithField.mono _ _ _ _
   | exact laws_sameNodes.mono _ _ _
   | exact spec_DepthOf.mono _ _
   | exact spec_DrawDepthOf.mono _ _
   | exact spec_DrawFieldOf.mono _ _
   | exact spec_DrawWithField.mono _ _
   | exact spec_FieldOf.mono _ _ _
   | exact spec_WithField.mono _ _ _ _
   | exact LeO.none _
   | refine LeO.ite ?_ ?_
   | refine LeO.bind ?_ (fun _ => ?_)
theorem laws_FnFields.mono : ∀ a0 a1 k, LeO (laws_FnFields.f k a0 a1) (laws_FnFields.f (k + 1) a0 a1) := by
 intro a0 a1 k
 obtain ⟨ih0, ih1, ih2, ih3, ih4⟩ := laws_FnFields.mono_l k
 unfold laws_FnFields.f
 repeat' first
   | (with_reducible exact ih0 _ _ _ _ _ _ _)
   | (with_reducible exact ih1 _)
   | (with_reducible exact ih2 _ _ _ _)
   | (with_reducible exact ih3 _ _ _ _ _)
   | (with_reducible exact ih4 _ _ _ _)
   | (with_reducible exact impl_DepthOf.mono _ _)
   | (with_reducible exact impl_FieldOf.mono _ _ _)
   | (with_reducible exact impl_GoodValue.mono _ _)
   | (with_reducible exact impl_WithField.mono _ _ _ _)
   | (with_reducible exact laws_sameNodes.mono _ _ _)
   | (with_reducible exact spec_DepthOf.mono _ _)
   | (with_reducible exact spec_DrawDepthOf.mono _ _)
   | (with_reducible exact spec_DrawFieldOf.mono _ _)
   | (with_reducible exact spec_DrawWithField.mono _ _)
   | (with_reducible exact spec_FieldOf.mono _ _ _)
   | (with_reducible exact spec_WithField.mono _ _ _ _)
   | (with_reducible exact LeO.refl _)
   | (with_reducible exact LeO.none _)
   | (with_reducible refine LeO.ite ?_ ?_)
   | (with_reducible refine LeO.bind ?_ (fun _ => ?_))
   | exact ih0 _ _ _ _ _ _ _
   | exact ih1 _
   | exact ih2 _ _ _ _
   | exact ih3 _ _ _ _ _
   | exact ih4 _ _ _ _
   | exact impl_DepthOf.mono _ _
   | exact impl_FieldOf.mono _ _ _
   | exact impl_GoodValue.mono _ _
   | exact impl_WithField.mono _ _ _ _
   | exact laws_sameNodes.mono _ _ _
   | exact spec_DepthOf.mono _ _
   | exact spec_DrawDepthOf.mono _ _
   | exact spec_DrawFieldOf.mono _ _
   | exact spec_DrawWithField.mono _ _
   | exact spec_FieldOf.mono _ _ _
   | exact spec_WithField.mono _ _ _ _
   | exact LeO.none _
   | refine LeO.ite ?_ ?_
   | refine LeO.bind ?_ (fun _ => ?_)
set_option maxHeartbeats 8000000 in
set_option maxRecDepth 100000 in
theorem laws_FnFields.calls (k : Nat) (A0 : Option Addr) (c0 : Nat) (l0 : List Int) (A1 : Option Addr) (c1 : Nat) (l1 : List Int) (r : Bool) (w : World) (tb : TabsU.Tabs0 w) (hr_ : r = true) (hr0 : Kd.C (Kd.int .u8) w A0 l0.length l0) (hc0 : l0.length ≤ c0) (hr1 : Kd.C (Kd.int .u8) w A1 l1.length l1) (hc1 : l1.length ≤ c1) (h : laws_FnFields.f k l0 l1 = some r) :
  Calls Tryd.prog 9 #[.slice A0 l0.length c0, .slice A1 l1.length c1] w fun e w' => e = .returned (.bool r) ∧ Below w.heap.size w w' := by
 have HR_ := Aside0.mk hr_
 clear hr_
 have TB := Aside0.mk tb
 clear tb
 have HR0 := Aside0.mk hr0
 have HC0 := Aside0.mk hc0
 clear hr0 hc0
 have HR1 := Aside0.mk hr1
 have HC1 := Aside0.mk hc1
 clear hr1 hc1
 have HB := Aside0.mk (Below.refl w.heap.size w)
 have H : (if (wrap64 ((l0.length : Int) + (l1.length : Int))) > 1048576 then (some true) else ((spec_DrawWithField.f k l0).bind fun bt369 => ((impl_WithField.f k bt369.1 bt369.2.1 bt369.2.2).bind fun bt376 => ((spec_WithField.f k bt369.1 bt369.2.1 bt369.2.2).bind fun bt380 => (if (bt376.2 != bt380.2) = true then (laws_FnFields.j0 k l1 bt369.1 bt369.2.1 bt369.2.2 bt376.1 bt376.2 true) else ((laws_sameNodes.f k bt376.1 bt380.1).bind fun t384 => (laws_FnFields.j0 k l1 bt369.1 bt369.2.1 bt369.2.2 bt376.1 bt376.2 (!t384)))))))) = some r := h
 clear h
 by_cases c3 : (wrap64 ((l0.length : Int) + (l1.length : Int))) > 1048576
 ·rw [if_pos c3] at H
  have c3b0 : decide (1048576 < (wrap64 ((l0.length : Int) + (l1.length : Int)))) = true := decide_eq_true c3
  clear c3
  as_aux_lemma =>
   obtain rfl := Option.some.inj H
   go_enter Tryd.func9, Tryd.ntmps9
   go_wp2
   go_ret
   exact ⟨by first | rfl | (simp [errW_none, errW_some] <;> rfl) | (simp [*, errW_none, errW_some] <;> rfl), by repeat (first | (with_reducible first | exact HB.out | apply jD | apply jE | apply jF) | exact HB.out)⟩
 ·rw [if_neg c3] at H
  have c3b0 : decide (1048576 < (wrap64 ((l0.length : Int) + (l1.length : Int)))) = false := decide_eq_false c3
  clear c3
  replace H := Option.bind_eq_some_iff.mp H
  obtain ⟨⟨t369, t370, t371⟩, A40, H⟩ := H
  replace H : ((impl_WithField.f k t369 t370 t371).bind fun bt376 => ((spec_WithField.f k t369 t370 t371).bind fun bt380 => (if (bt376.2 != bt380.2) = true then (laws_FnFields.j0 k l1 t369 t370 t371 bt376.1 bt376.2 true) else ((laws_sameNodes.f k bt376.1 bt380.1).bind fun t384 => (laws_FnFields.j0 k l1 t369 t370 t371 bt376.1 bt376.2 (!t384)))))) = some r := H
  have A4 := Aside0.mk A40
  clear A40
  replace H := Option.bind_eq_some_iff.mp H
  obtain ⟨⟨t376, t377⟩, A50, H⟩ := H
  replace H : ((spec_WithField.f k t369 t370 t371).bind fun bt380 => (if (t377 != bt380.2) = true then (laws_FnFields.j0 k l1 t369 t370 t371 t376 t377 true) else ((laws_sameNodes.f k t376 bt380.1).bind fun t384 => (laws_FnFields.j0 k l1 t369 t370 t371 t376 t377 (!t384))))) = some r := H
  have A5 := Aside0.mk A50
  clear A50
  replace H := Option.bind_eq_some_iff.mp H
  obtain ⟨⟨t380, t381⟩, A60, H⟩ := H
  replace H : (if (t377 != t381) = true then (laws_FnFields.j0 k l1 t369 t370 t371 t376 t377 true) else ((laws_sameNodes.f k t376 t380).bind fun t384 => (laws_FnFields.j0 k l1 t369 t370 t371 t376 t377 (!t384)))) = some r := H
  have A6 := Aside0.mk A60
  clear A60
  have HC7 := Aside0.mk H
  clear H
  go_enter Tryd.func9, Tryd.ntmps9
  go_upto_region 6 with (first | ((with_reducible refine gate_callee (f := 27) rfl ?_); refine goesL_ (some 42) rfl rfl Tryd.func27 (by kernel_rfl) rfl #[.slice A0 l0.length c0] rfl (by (try simp only [List.map_toArray, List.map_cons, List.map_nil]); first | done | rfl | (simp only [List.length_drop, List.length_take]; rfl)) ?_; (with_reducible refine (spec_DrawWithField.calls k _ _ l0 t369 t370 t371 _ ?side1 ?side2 A4.out).mono ?_); (case side1 => repeat (first | exact HR0.out | (with_reducible refine Kd.C_alloc ?_ _) | (with_reducible refine Kd.C_drewN ?_ _) | (with_reducible refine Kd.C_drew ?_))); (case side2 => exact HC0.out); rintro e w8 ⟨v372, v374, rfl, ho0, ho1, hb⟩; refine ⟨_, rfl, ?_⟩; have n0_ := Aside0.mk (Kd.R_lower ho0 (below_size (by repeat first | (with_reducible first | exact HB.out | apply jD | apply jE | apply jF) | exact HB.out))); have n1_ := Aside0.mk (Kd.R_lower ho1 (below_size (by repeat first | (with_reducible first | exact HB.out | apply jD | apply jE | apply jF) | exact HB.out))); have n2_ := Aside0.mk (below_step (by repeat first | (with_reducible first | exact HB.out | apply jD | apply jE | apply jF) | exact HB.out) hb); clear HB; have HO373 := n0_; have HO375 := n1_; have HB := n2_; clear n0_ n1_ n2_; (try clear hb); (try clear hk); (try clear hi); (try clear ho0); (try clear ho1); obtain ⟨Ao9, co9, eo9⟩ := Kd.R_slice HO373.out; subst eo9; obtain ⟨Ao10, co10, eo10⟩ := Kd.R_slice HO375.out; subst eo10) | ((with_reducible refine gate_callee (f := 26) rfl ?_); refine goesL_ (some 50) rfl rfl Tryd.func26 (by kernel_rfl) rfl #[.slice Ao9 t369.length co9, .string t370, .slice Ao10 t371.length co10] rfl (by (try simp only [List.map_toArray, List.map_cons, List.map_nil]); first | done | rfl | (simp only [List.length_drop, List.length_take]; rfl)) ?_; (with_reducible refine (impl_WithField.calls k _ _ t369 t370 _ _ t371 t376 t377 _ ?side1 ?side2 ?side3 ?side4 ?side5 A5.out).mono ?_); (case side1 => exact TabsU.Tabs0.of_below TB.out (by repeat first | (with_reducible first | exact HB.out | apply jD | apply jE | apply jF) | exact HB.out)); (case side2 => repeat (first | exact (Kd.R_reads' HO373.out).2.2 | (with_reducible refine Kd.C_alloc ?_ _) | (with_reducible refine Kd.C_drewN ?_ _) | (with_reducible refine Kd.C_drew ?_))); (case side3 => exact (Kd.R_reads' HO373.out).2.1); (case side4 => repeat (first | exact (Kd.R_reads' HO375.out).2.2 | (with_reducible refine Kd.C_alloc ?_ _) | (with_reducible refine Kd.C_drewN ?_ _) | (with_reducible refine Kd.C_drew ?_))); (case side5 => exact (Kd.R_reads' HO375.out).2.1); rintro e w11 ⟨v378, rfl, ho0, hb⟩; refine ⟨_, rfl, ?_⟩; have n0_ := Aside0.mk (Kd.R_elder' (by (with_reducible repeat (first | apply Kd.R_alloc | apply Kd.R_drewN | apply Kd.R_drew)); exact HO373.out) (Kd.R_base ho0) hb); have n1_ := Aside0.mk (Kd.R_elder' (by (with_reducible repeat (first | apply Kd.R_alloc | apply Kd.R_drewN | apply Kd.R_drew)); exact HO375.out) (Kd.R_base ho0) hb); have n2_ := Aside0.mk (Kd.R_lower (Kd.R_new' (Kd.R_new' ho0 (Kd.R_lt (by (with_reducible repeat (first | apply Kd.R_alloc | apply Kd.R_drewN | apply Kd.R_drew)); exact HO373.out))) (Kd.R_lt (by (with_reducible repeat (first | apply Kd.R_alloc | apply Kd.R_drewN | apply Kd.R_drew)); exact HO375.out))) (below_size (by repeat first | (with_reducible first | exact HB.out | apply jD | apply jE | apply jF) | exact HB.out))); have n3_ := Aside0.mk (below_step (by repeat first | (with_reducible first | exact HB.out | apply jD | apply jE | apply jF) | exact HB.out) hb); clear HO373; clear HO375; clear HB; have HO373 := n0_; have HO375 := n1_; have HO379 := n2_; have HB := n3_; clear n0_ n1_ n2_ n3_; (try clear hb); (try clear hk); (try clear hi); (try clear ho0)) | ((with_reducible refine gate_callee (f := 25) rfl ?_); refine goesL_ (some 57) rfl rfl Tryd.func25 (by kernel_rfl) rfl #[.slice Ao9 t369.length co9, .string t370, .slice Ao10 t371.length co10] rfl (by (try simp only [List.map_toArray, List.map_cons, List.map_nil]); first | done | rfl | (simp only [List.length_drop, List.length_take]; rfl)) ?_; (with_reducible refine (spec_WithField.calls k _ _ t369 t370 _ _ t371 t380 t381 _ ?side1 ?side2 ?side3 ?side4 A6.out).mono ?_); (case side1 => repeat (first | exact (Kd.R_reads' HO373.out).2.2 | (with_reducible refine Kd.C_alloc ?_ _) | (with_reducible refine Kd.C_drewN ?_ _) | (with_reducible refine Kd.C_drew ?_))); (case side2 => exact (Kd.R_reads' HO373.out).2.1); (case side3 => repeat (first | exact (Kd.R_reads' HO375.out).2.2 | (with_reducible refine Kd.C_alloc ?_ _) | (with_reducible refine Kd.C_drewN ?_ _) | (with_reducible refine Kd.C_drew ?_))); (case side4 => exact (Kd.R_reads' HO375.out).2.1); rintro e w12 ⟨v382, rfl, ho0, hb⟩; refine ⟨_, rfl, ?_⟩; have n0_ := Aside0.mk (Kd.R_elder' (by (with_reducible repeat (first | apply Kd.R_alloc | apply Kd.R_drewN | apply Kd.R_drew)); exact HO373.out) (Kd.R_base ho0) hb); have n1_ := Aside0.mk (Kd.R_elder' (by (with_reducible repeat (first | apply Kd.R_alloc | apply Kd.R_drewN | apply Kd.R_drew)); exact HO375.out) (Kd.R_base ho0) hb); have n2_ := Aside0.mk (Kd.R_elder' (by (with_reducible repeat (first | apply Kd.R_alloc | apply Kd.R_drewN | apply Kd.R_drew)); exact HO379.out) (Kd.R_base ho0) hb); have n3_ := Aside0.mk (Kd.R_lower (Kd.R_new' (Kd.R_new' (Kd.R_new' ho0 (Kd.R_lt (by (with_reducible repeat (first | apply Kd.R_alloc | apply Kd.R_drewN | apply Kd.R_drew)); exact HO373.out))) (Kd.R_lt (by (with_reducible repeat (first | apply Kd.R_alloc | apply Kd.R_drewN | apply Kd.R_drew)); exact HO375.out))) (Kd.R_lt (by (with_reducible repeat (first | apply Kd.R_alloc | apply Kd.R_drewN | apply Kd.R_drew)); exact HO379.out))) (below_size (by repeat first | (with_reducible first | exact HB.out | apply jD | apply jE | apply jF) | exact HB.out))); have n4_ := Aside0.mk (below_step (by repeat first | (with_reducible first | exact HB.out | apply jD | apply jE | apply jF) | exact HB.out) hb); clear HO373; clear HO375; clear HO379; clear HB; have HO373 := n0_; have HO375 := n1_; have HO379 := n2_; have HO383 := n3_; have HB := n4_; clear n0_ n1_ n2_ n3_ n4_; (try clear hb); (try clear hk); (try clear hi); (try clear ho0)))
  (try simp only [Act.put, List.setIfInBounds_toArray, List.set_cons_zero, List.set_cons_succ])
  go_cut [68] (fun v68 wc => ∃ (kq : Nat) (x68_6 : Bool), v68 = .bool x68_6 ∧ Aside0 (laws_FnFields.j0 kq l1 t369 t370 t371 t376 t377 x68_6 = some r) ∧ Aside0 (kq ≤ k) ∧ Aside0 (Kd.R k61 61 wc w.heap.size (fun k_ => some k_ ≠ ((.slice Ao10 t371.length co10) : Value).ownBlock ∧ some k_ ≠ (v378 : Value).ownBlock) (.slice Ao9 t369.length co9) t369) ∧ Aside0 (Kd.R k61 61 wc w.heap.size (fun k_ => some k_ ≠ ((.slice Ao9 t369.length co9) : Value).ownBlock ∧ some k_ ≠ (v378 : Value).ownBlock) (.slice Ao10 t371.length co10) t371) ∧ Aside0 (Kd.R k61 61 wc w.heap.size (fun k_ => some k_ ≠ ((.slice Ao9 t369.length co9) : Value).ownBlock ∧ some k_ ≠ ((.slice Ao10 t371.length co10) : Value).ownBlock) v378 t376) ∧ Aside0 (Below w.heap.size w wc))
  case first =>
   have H := HC7.out
   clear HC7
   by_cases c13 : (t377 != t381) = true
   ·rw [if_pos c13] at H
    have c13b0 : (t377 != t381) = true := c13
    (try (have c13b1 : decide (t377 = t381) = false := by simpa using c13))
    (try (have c13b2 : (t377 == t381) = false := by simpa using c13))
    (try (have c13b3 : ¬ (t377 = t381) := by simpa using c13))
    clear c13
    (first | rw [c13b0] | (simp only [i64_w, i32_w]; rw [c13b0]) | skip)
    exfalso
    cases k with
    | zero => exact absurd H (by simp [laws_FnFields.j0])
    | succ kz_ => rw [laws_FnFields.j0, if_pos rfl] at H; exact absurd ((Option.some.inj H).trans HR_.out) (by decide)
   ·rw [if_neg c13] at H
    have c13b0 : (t377 != t381) = false := by simpa using c13
    (try (have c13b1 : decide (t377 = t381) = true := by simpa using c13))
    (try (have c13b2 : (t377 == t381) = true := by simpa using c13))
    clear c13
    (first | rw [c13b0] | (simp only [i64_w, i32_w]; rw [c13b0]) | skip)
    replace H := Option.bind_eq_some_iff.mp H
    obtain ⟨t384, A140, H⟩ := H
    replace H : (laws_FnFields.j0 k l1 t369 t370 t371 t376 t377 (!t384)) = some r := H
    have A14 := Aside0.mk A140
    clear A140
    as_aux_lemma =>
     have H' := Aside0.mk H
     clear H
     obtain ⟨Ao15, co15, eo15⟩ := Kd.R_slice HO379.out
     subst eo15
     obtain ⟨Ao16, co16, eo16⟩ := Kd.R_slice HO383.out
     subst eo16
     go_wp2_with (first | (go_at_call 28; (with_reducible refine (laws_sameNodes.calls k _ _ t376 _ _ t380 t384 _ ?side1 ?side2 ?side3 ?side4 A14.out).mono ?_); (case side1 => repeat (first | exact (Kd.R_reads' HO379.out).2.2 | (with_reducible refine Kd.C_alloc ?_ _) | (with_reducible refine Kd.C_drewN ?_ _) | (with_reducible refine Kd.C_drew ?_))); (case side2 => exact (Kd.R_reads' HO379.out).2.1); (case side3 => repeat (first | exact (Kd.R_reads' HO383.out).2.2 | (with_reducible refine Kd.C_alloc ?_ _) | (with_reducible refine Kd.C_drewN ?_ _) | (with_reducible refine Kd.C_drew ?_))); (case side4 => exact (Kd.R_reads' HO383.out).2.1); rintro e w' ⟨rfl, ⟨nd, rfl⟩⟩))
     go_meet
     case rel => exact ⟨_, (!t384), (by first | rfl | (simp; done) | (simp [*]; done) | (simp; apply Bool.eq_iff_iff.mpr; simp only [bne_iff_ne, ne_eq, beq_iff_eq]; omega)), H', ⟨by first | omega | exact Nat.le_refl _⟩, ⟨by (with_reducible repeat (first | apply Kd.R_alloc | apply Kd.R_drewN | apply Kd.R_drew)); exact Kd.R_mono HO373.out (fun _ hk => ⟨hk.1.1, hk.1.2⟩)⟩, ⟨by (with_reducible repeat (first | apply Kd.R_alloc | apply Kd.R_drewN | apply Kd.R_drew)); exact Kd.R_mono HO375.out (fun _ hk => ⟨hk.1.1, hk.1.2⟩)⟩, ⟨by (with_reducible repeat (first | apply Kd.R_alloc | apply Kd.R_drewN | apply Kd.R_drew)); exact Kd.R_mono HO379.out (fun _ hk => ⟨hk.1.1.2, hk.1.2⟩)⟩, ⟨by repeat (first | (with_reducible first | exact HB.out | apply jD | apply jE | apply jF) | exact HB.out)⟩⟩
  case rest =>
   clear HC7
   try clear c1
   try clear c2
   try clear p2
   try clear c3
   try clear c3b0
   try clear p6
   try clear c9
   try clear c13
   try clear c13b0
   try clear c13b1
   try clear c13b2
   obtain ⟨kq, x68_6, rfl, HA, HJ6, HO_5, HO_7, HO_8, HB⟩ := hcut
   cases kq with
   | zero => exact absurd HA.out (by simp [laws_FnFields.j0])
   | succ kj6 =>
    have H := HA.out
    clear HA
    simp only [laws_FnFields.j0] at H
    by_cases c17 : x68_6 = true
    ·subst c17
     have H1 : (some false) = some r := by rw [if_pos rfl] at H; exact H
     clear H
     have H := H1
     clear H1
     exact absurd ((Option.some.inj H).trans HR_.out) (by decide)
    ·replace c17 := Bool.eq_false_iff.mpr c17
     subst c17
     have H1 : (if t377 = true then ((impl_FieldOf.f kj6 t376 t370).bind fun bt385 => ((impl_GoodValue.f kj6 t376).bind fun t389 => (if t389 = true then (if bt385.2 = true then ((laws_sameNodes.f kj6 bt385.1 t371).bind fun t390 => (laws_FnFields.j1 kj6 l1 t369 t370 t376 (!t390))) else (laws_FnFields.j1 kj6 l1 t369 t370 t376 true)) else (laws_FnFields.j1 kj6 l1 t369 t370 t376 true)))) else (laws_FnFields.j3 kj6 l1)) = some r := by rw [if_neg (show ¬ (false = true) by decide)] at H; exact H
     clear H
     have H := H1
     clear H1
     have HC18 := Aside0.mk H
     clear H
     go_upto_if 69 with (fail)
     go_cut [] (fun wc => ∃ (kq : Nat), Aside0 (laws_FnFields.j3 kq l1 = some r) ∧ Aside0 (kq ≤ kj6) ∧ Aside0 (Below w.heap.size w wc))
     case first =>
      have H := HC18.out
      clear HC18
      by_cases c19 : t377 = true
      ·subst c19
       have H1 : ((impl_FieldOf.f kj6 t376 t370).bind fun bt385 => ((impl_GoodValue.f kj6 t376).bind fun t389 => (if t389 = true then (if bt385.2 = true then ((laws_sameNodes.f kj6 bt385.1 t371).bind fun t390 => (laws_FnFields.j1 kj6 l1 t369 t370 t376 (!t390))) else (laws_FnFields.j1 kj6 l1 t369 t370 t376 true)) else (laws_FnFields.j1 kj6 l1 t369 t370 t376 true)))) = some r := by rw [if_pos rfl] at H; exact H
       clear H
       have H := H1
       clear H1
       replace H := Option.bind_eq_some_iff.mp H
       obtain ⟨⟨t385, t386⟩, A200, H⟩ := H
       replace H : ((impl_GoodValue.f kj6 t376).bind fun t389 => (if t389 = true then (if t386 = true then ((laws_sameNodes.f kj6 t385 t371).bind fun t390 => (laws_FnFields.j1 kj6 l1 t369 t370 t376 (!t390))) else (laws_FnFields.j1 kj6 l1 t369 t370 t376 true)) else (laws_FnFields.j1 kj6 l1 t369 t370 t376 true))) = some r := H
       have A20 := Aside0.mk A200
       clear A200
       have HC21 := Aside0.mk H
       clear H
       obtain ⟨Ao22, co22, eo22⟩ := Kd.R_slice HO_8.out
       subst eo22
       go_upto_region 10 with (first | ((with_reducible refine gate_callee (f := 22) rfl ?_); refine goesL_ (some 73) rfl rfl Tryd.func22 (by kernel_rfl) rfl #[.slice Ao22 t376.length co22, .string t370] rfl (by (try simp only [List.map_toArray, List.map_cons, List.map_nil]); first | done | rfl | (simp only [List.length_drop, List.length_take]; rfl)) ?_; (with_reducible refine (impl_FieldOf.calls kj6 _ _ t376 t370 t385 t386 _ ?side1 ?side2 ?side3 A20.out).mono ?_); (case side1 => exact TabsU.Tabs0.of_below TB.out (by repeat first | (with_reducible first | exact HB.out | apply jD | apply jE | apply jF) | exact HB.out)); (case side2 => repeat (first | exact (Kd.R_reads' HO_8.out).2.2 | (with_reducible refine Kd.C_alloc ?_ _) | (with_reducible refine Kd.C_drewN ?_ _) | (with_reducible refine Kd.C_drew ?_))); (case side3 => exact (Kd.R_reads' HO_8.out).2.1); rintro e w23 ⟨v387, rfl, ho0, hb⟩; refine ⟨_, rfl, ?_⟩; have n0_ := Aside0.mk (Kd.R_elder' (by (with_reducible repeat (first | apply Kd.R_alloc | apply Kd.R_drewN | apply Kd.R_drew)); exact HO_5.out) (Kd.R_base ho0) hb); have n1_ := Aside0.mk (Kd.R_elder' (by (with_reducible repeat (first | apply Kd.R_alloc | apply Kd.R_drewN | apply Kd.R_drew)); exact HO_7.out) (Kd.R_base ho0) hb); have n2_ := Aside0.mk (Kd.R_elder' (by (with_reducible repeat (first | apply Kd.R_alloc | apply Kd.R_drewN | apply Kd.R_drew)); exact HO_8.out) (Kd.R_base ho0) hb); have n3_ := Aside0.mk (Kd.R_lower (Kd.R_new' (Kd.R_new' (Kd.R_new' ho0 (Kd.R_lt (by (with_reducible repeat (first | apply Kd.R_alloc | apply Kd.R_drewN | apply Kd.R_drew)); exact HO_5.out))) (Kd.R_lt (by (with_reducible repeat (first | apply Kd.R_alloc | apply Kd.R_drewN | apply Kd.R_drew)); exact HO_7.out))) (Kd.R_lt (by (with_reducible repeat (first | apply Kd.R_alloc | apply Kd.R_drewN | apply Kd.R_drew)); exact HO_8.out))) (below_size (by repeat first | (with_reducible first | exact HB.out | apply jD | apply jE | apply jF) | exact HB.out))); have n4_ := Aside0.mk (below_step (by repeat first | (with_reducible first | exact HB.out | apply jD | apply jE | apply jF) | exact HB.out) hb); clear HO_5; clear HO_7; clear HO_8; clear HB; have HO_5 := n0_; have HO_7 := n1_; have HO_8 := n2_; have HO388 := n3_; have HB := n4_; clear n0_ n1_ n2_ n3_ n4_; (try clear hb); (try clear hk); (try clear hi); (try clear ho0)))
       (try simp only [Act.put, List.setIfInBounds_toArray, List.set_cons_zero, List.set_cons_succ])
       go_cut [88] (fun v88 wc => ∃ (kq : Nat) (x88_20 : Bool), v88 = .bool x88_20 ∧ Aside0 (laws_FnFields.j1 kq l1 t369 t370 t376 x88_20 = some r) ∧ Aside0 (kq ≤ kj6) ∧ Aside0 (Kd.R k61 61 wc w.heap.size (fun k_ => some k_ ≠ ((.slice Ao22 t376.length co22) : Value).ownBlock) (.slice Ao9 t369.length co9) t369) ∧ Aside0 (Kd.R k61 61 wc w.heap.size (fun k_ => some k_ ≠ ((.slice Ao9 t369.length co9) : Value).ownBlock) (.slice Ao22 t376.length co22) t376) ∧ Aside0 (Below w.heap.size w wc))
       case first =>
        have H := HC21.out
        clear HC21
        replace H := Option.bind_eq_some_iff.mp H
        obtain ⟨t389, A240, H⟩ := H
        replace H : (if t389 = true then (if t386 = true then ((laws_sameNodes.f kj6 t385 t371).bind fun t390 => (laws_FnFields.j1 kj6 l1 t369 t370 t376 (!t390))) else (laws_FnFields.j1 kj6 l1 t369 t370 t376 true)) else (laws_FnFields.j1 kj6 l1 t369 t370 t376 true)) = some r := H
        have A24 := Aside0.mk A240
        clear A240
        by_cases c25 : t389 = true
        ·subst c25
         have H1 : (if t386 = true then ((laws_sameNodes.f kj6 t385 t371).bind fun t390 => (laws_FnFields.j1 kj6 l1 t369 t370 t376 (!t390))) else (laws_FnFields.j1 kj6 l1 t369 t370 t376 true)) = some r := by rw [if_pos rfl] at H; exact H
         clear H
         have H := H1
         clear H1
         by_cases c26 : t386 = true
         ·subst c26
          have H1 : ((laws_sameNodes.f kj6 t385 t371).bind fun t390 => (laws_FnFields.j1 kj6 l1 t369 t370 t376 (!t390))) = some r := by rw [if_pos rfl] at H; exact H
          clear H
          have H := H1
          clear H1
          replace H := Option.bind_eq_some_iff.mp H
          obtain ⟨t390, A270, H⟩ := H
          replace H : (laws_FnFields.j1 kj6 l1 t369 t370 t376 (!t390)) = some r := H
          have A27 := Aside0.mk A270
          clear A270
          as_aux_lemma =>
           have H' := Aside0.mk H
           clear H
           go_wp2_with (first | ((with_reducible refine gate_callee (f := 18) rfl ?_); refine goesL_ (some 77) rfl rfl Tryd.func18 (by kernel_rfl) rfl #[.slice Ao22 t376.length co22] rfl (by (try simp only [List.map_toArray, List.map_cons, List.map_nil]); first | done | rfl | (simp only [List.length_drop, List.length_take]; rfl)) ?_; (with_reducible refine (impl_GoodValue.calls kj6 _ _ t376 true _ ?side1 ?side2 ?side3 A24.out).mono ?_); (case side1 => exact TabsU.Tabs0.of_below TB.out (by repeat first | (with_reducible first | exact HB.out | apply jD | apply jE | apply jF) | exact HB.out)); (case side2 => repeat (first | exact (Kd.R_reads' HO_8.out).2.2 | (with_reducible refine Kd.C_alloc ?_ _) | (with_reducible refine Kd.C_drewN ?_ _) | (with_reducible refine Kd.C_drew ?_))); (case side3 => exact (Kd.R_reads' HO_8.out).2.1); rintro e w28 ⟨rfl, hb⟩; refine ⟨_, rfl, ?_⟩; have n0_ := Aside0.mk (Kd.R_below (by (with_reducible repeat (first | apply Kd.R_alloc | apply Kd.R_drewN | apply Kd.R_drew)); exact HO_5.out) hb); have n1_ := Aside0.mk (Kd.R_below (by (with_reducible repeat (first | apply Kd.R_alloc | apply Kd.R_drewN | apply Kd.R_drew)); exact HO_7.out) hb); have n2_ := Aside0.mk (Kd.R_below (by (with_reducible repeat (first | apply Kd.R_alloc | apply Kd.R_drewN | apply Kd.R_drew)); exact HO_8.out) hb); have n3_ := Aside0.mk (Kd.R_below (by (with_reducible repeat (first | apply Kd.R_alloc | apply Kd.R_drewN | apply Kd.R_drew)); exact HO388.out) hb); have n4_ := Aside0.mk (below_step (by repeat first | (with_reducible first | exact HB.out | apply jD | apply jE | apply jF) | exact HB.out) hb); clear HO_5; clear HO_7; clear HO_8; clear HO388; clear HB; have HO_5 := n0_; have HO_7 := n1_; have HO_8 := n2_; have HO388 := n3_; have HB := n4_; clear n0_ n1_ n2_ n3_ n4_; (try clear hb); (try clear hk); (try clear hi); obtain ⟨Ao29, co29, eo29⟩ := Kd.R_slice HO388.out; subst eo29) | (go_at_call 28; (with_reducible refine (laws_sameNodes.calls kj6 _ _ t385 _ _ t371 t390 _ ?side1 ?side2 ?side3 ?side4 A27.out).mono ?_); (case side1 => repeat (first | exact (Kd.R_reads' HO388.out).2.2 | (with_reducible refine Kd.C_alloc ?_ _) | (with_reducible refine Kd.C_drewN ?_ _) | (with_reducible refine Kd.C_drew ?_))); (case side2 => exact (Kd.R_reads' HO388.out).2.1); (case side3 => repeat (first | exact (Kd.R_reads' HO_7.out).2.2 | (with_reducible refine Kd.C_alloc ?_ _) | (with_reducible refine Kd.C_drewN ?_ _) | (with_reducible refine Kd.C_drew ?_))); (case side4 => exact (Kd.R_reads' HO_7.out).2.1); rintro e w' ⟨rfl, ⟨nd, rfl⟩⟩))
           go_meet
           case rel => exact ⟨_, (!t390), (by first | rfl | (simp; done) | (simp [*]; done) | (simp; apply Bool.eq_iff_iff.mpr; simp only [bne_iff_ne, ne_eq, beq_iff_eq]; omega)), H', ⟨by have := HJ6.out; first | omega | exact Nat.le_refl _⟩, ⟨by (with_reducible repeat (first | apply Kd.R_alloc | apply Kd.R_drewN | apply Kd.R_drew)); exact Kd.R_mono HO_5.out (fun _ hk => hk.1.2)⟩, ⟨by (with_reducible repeat (first | apply Kd.R_alloc | apply Kd.R_drewN | apply Kd.R_drew)); exact Kd.R_mono HO_8.out (fun _ hk => hk.1.1)⟩, ⟨by repeat (first | (with_reducible first | exact HB.out | apply jD | apply jE | apply jF) | exact HB.out)⟩⟩
         ·replace c26 := Bool.eq_false_iff.mpr c26
          subst c26
          have H1 : (laws_FnFields.j1 kj6 l1 t369 t370 t376 true) = some r := by rw [if_neg (show ¬ (false = true) by decide)] at H; exact H
          clear H
          have H := H1
          clear H1
          exfalso
          cases kj6 with
          | zero => exact absurd H (by simp [laws_FnFields.j1])
          | succ kz_ => rw [laws_FnFields.j1, if_pos rfl] at H; exact absurd ((Option.some.inj H).trans HR_.out) (by decide)
        ·replace c25 := Bool.eq_false_iff.mpr c25
         subst c25
         have H1 : (laws_FnFields.j1 kj6 l1 t369 t370 t376 true) = some r := by rw [if_neg (show ¬ (false = true) by decide)] at H; exact H
         clear H
         have H := H1
         clear H1
         exfalso
         cases kj6 with
         | zero => exact absurd H (by simp [laws_FnFields.j1])
         | succ kz_ => rw [laws_FnFields.j1, if_pos rfl] at H; exact absurd ((Option.some.inj H).trans HR_.out) (by decide)
       case rest =>
        clear HC21
        try clear c1
        try clear c2
        try clear p2
        try clear c3
        try clear c3b0
        try clear p6
        try clear c9
        try clear c13
        try clear c13b0
        try clear c13b1
        try clear c13b2
        try clear c17
        try clear c18
        try clear c19
        try clear c22
        try clear c25
        try clear c26
        try clear c27
        try clear p2
        try clear p6
        obtain ⟨kq, x88_20, rfl, HA, HJ20, HO_5, HO_8, HB⟩ := hcut
        cases kq with
        | zero => exact absurd HA.out (by simp [laws_FnFields.j1])
        | succ kj20 =>
         have H := HA.out
         clear HA
         simp only [laws_FnFields.j1] at H
         by_cases c30 : x88_20 = true
         ·subst c30
          have H1 : (some false) = some r := by rw [if_pos rfl] at H; exact H
          clear H
          have H := H1
          clear H1
          exact absurd ((Option.some.inj H).trans HR_.out) (by decide)
         ·replace c30 := Bool.eq_false_iff.mpr c30
          subst c30
          have H1 : (if t370.toList = ([107, 105, 110, 100] : List UInt8) then (laws_FnFields.j2 kj20 l1 t369 t376 (⟨#[97]⟩ : ByteArray)) else (laws_FnFields.j2 kj20 l1 t369 t376 (⟨#[107, 105, 110, 100]⟩ : ByteArray))) = some r := by rw [if_neg (show ¬ (false = true) by decide)] at H; exact H
          clear H
          have H := H1
          clear H1
          have HC31 := Aside0.mk H
          clear H
          go_upto_if 91 with (fail)
          go_cut [14] (fun v14 wc => ∃ (kq : Nat) (x14_30 : ByteArray), v14 = .string x14_30 ∧ Aside0 (laws_FnFields.j2 kq l1 t369 t376 x14_30 = some r) ∧ Aside0 (kq ≤ kj20) ∧ Aside0 (Kd.R k61 61 wc w.heap.size (fun k_ => some k_ ≠ ((.slice Ao22 t376.length co22) : Value).ownBlock) (.slice Ao9 t369.length co9) t369) ∧ Aside0 (Kd.R k61 61 wc w.heap.size (fun k_ => some k_ ≠ ((.slice Ao9 t369.length co9) : Value).ownBlock) (.slice Ao22 t376.length co22) t376) ∧ Aside0 (Below w.heap.size w wc))
          case first =>
           have H := HC31.out
           clear HC31
           by_cases c32 : t370.toList = ([107, 105, 110, 100] : List UInt8)
           ·rw [if_pos c32] at H
            have c32b0 : (t370.toList == ([107, 105, 110, 100] : List UInt8)) = true := beq_iff_eq.mpr c32
            have c32b1 : (t370.toList != ([107, 105, 110, 100] : List UInt8)) = false := bne_eq_false_iff_eq.mpr c32
            clear c32
            (first | rw [c32b0] | (simp only [i64_w, i32_w]; rw [c32b0]) | skip)
            as_aux_lemma =>
             have H' := Aside0.mk H
             clear H
             go_wp2
             go_meet
             case rel => exact ⟨_, ((⟨#[97]⟩ : ByteArray)), (by first | rfl | (simp; done) | (simp [*]; done) | (simp; apply Bool.eq_iff_iff.mpr; simp only [bne_iff_ne, ne_eq, beq_iff_eq]; omega)), H', ⟨by have := HJ6.out; have := HJ20.out; first | omega | exact Nat.le_refl _⟩, ⟨by (with_reducible repeat (first | apply Kd.R_alloc | apply Kd.R_drewN | apply Kd.R_drew)); exact HO_5.out⟩, ⟨by (with_reducible repeat (first | apply Kd.R_alloc | apply Kd.R_drewN | apply Kd.R_drew)); exact HO_8.out⟩, ⟨by repeat (first | (with_reducible first | exact HB.out | apply jD | apply jE | apply jF) | exact HB.out)⟩⟩
           ·rw [if_neg c32] at H
            have c32b0 : (t370.toList == ([107, 105, 110, 100] : List UInt8)) = false := beq_eq_false_iff_ne.mpr c32
            have c32b1 : (t370.toList != ([107, 105, 110, 100] : List UInt8)) = true := bne_iff_ne.mpr c32
            (first | rw [c32b0] | (simp only [i64_w, i32_w]; rw [c32b0]) | skip)
            as_aux_lemma =>
             have H' := Aside0.mk H
             clear H
             go_wp2
             go_meet
             case rel => exact ⟨_, ((⟨#[107, 105, 110, 100]⟩ : ByteArray)), (by first | rfl | (simp; done) | (simp [*]; done) | (simp; apply Bool.eq_iff_iff.mpr; simp only [bne_iff_ne, ne_eq, beq_iff_eq]; omega)), H', ⟨by have := HJ6.out; have := HJ20.out; first | omega | exact Nat.le_refl _⟩, ⟨by (with_reducible repeat (first | apply Kd.R_alloc | apply Kd.R_drewN | apply Kd.R_drew)); exact HO_5.out⟩, ⟨by (with_reducible repeat (first | apply Kd.R_alloc | apply Kd.R_drewN | apply Kd.R_drew)); exact HO_8.out⟩, ⟨by repeat (first | (with_reducible first | exact HB.out | apply jD | apply jE | apply jF) | exact HB.out)⟩⟩
          case rest =>
           clear HC31
           try clear c1
           try clear c2
           try clear p2
           try clear c3
           try clear c3b0
           try clear p6
           try clear c9
           try clear c13
           try clear c13b0
           try clear c13b1
           try clear c13b2
           try clear c17
           try clear c18
           try clear c19
           try clear c22
           try clear c25
           try clear c26
           try clear c27
           try clear c30
           try clear c32
           try clear c32b0
           try clear c32b1
           try clear p2
           try clear p6
           obtain ⟨kq, x14_30, rfl, HA, HJ30, HO_5, HO_8, HB⟩ := hcut
           cases kq with
           | zero => exact absurd HA.out (by simp [laws_FnFields.j2])
           | succ kj30 =>
            have H := HA.out
            clear HA
            simp only [laws_FnFields.j2] at H
            replace H := Option.bind_eq_some_iff.mp H
            obtain ⟨⟨t391, t392⟩, A330, H⟩ := H
            replace H : ((impl_FieldOf.f kj30 t376 x14_30).bind fun bt395 => (if (t392 != bt395.2) = true then (some false) else ((laws_sameNodes.f kj30 t391 bt395.1).bind fun t399 => (if t399 = true then (laws_FnFields.j3 kj30 l1) else (some false))))) = some r := H
            have A33 := Aside0.mk A330
            clear A330
            replace H := Option.bind_eq_some_iff.mp H
            obtain ⟨⟨t395, t396⟩, A340, H⟩ := H
            replace H : (if (t392 != t396) = true then (some false) else ((laws_sameNodes.f kj30 t391 t395).bind fun t399 => (if t399 = true then (laws_FnFields.j3 kj30 l1) else (some false)))) = some r := H
            have A34 := Aside0.mk A340
            clear A340
            by_cases c35 : (t392 != t396) = true
            ·rw [if_pos c35] at H
             have c35b0 : (t392 != t396) = true := c35
             (try (have c35b1 : decide (t392 = t396) = false := by simpa using c35))
             (try (have c35b2 : (t392 == t396) = false := by simpa using c35))
             (try (have c35b3 : ¬ (t392 = t396) := by simpa using c35))
             clear c35
             exact absurd ((Option.some.inj H).trans HR_.out) (by decide)
            ·rw [if_neg c35] at H
             have c35b0 : (t392 != t396) = false := by simpa using c35
             (try (have c35b1 : decide (t392 = t396) = true := by simpa using c35))
             (try (have c35b2 : (t392 == t396) = true := by simpa using c35))
             clear c35
             replace H := Option.bind_eq_some_iff.mp H
             obtain ⟨t399, A360, H⟩ := H
             replace H : (if t399 = true then (laws_FnFields.j3 kj30 l1) else (some false)) = some r := H
             have A36 := Aside0.mk A360
             clear A360
             by_cases c37 : t399 = true
             ·subst c37
              have H1 : (laws_FnFields.j3 kj30 l1) = some r := by rw [if_pos rfl] at H; exact H
              clear H
              have H := H1
              clear H1
              as_aux_lemma =>
               have H' := Aside0.mk H
               clear H
               go_wp2_with (first | ((with_reducible refine gate_callee (f := 22) rfl ?_); refine goesL_ (some 95) rfl rfl Tryd.func22 (by kernel_rfl) rfl #[.slice Ao9 t369.length co9, .string x14_30] rfl (by (try simp only [List.map_toArray, List.map_cons, List.map_nil]); first | done | rfl | (simp only [List.length_drop, List.length_take]; rfl)) ?_; (with_reducible refine (impl_FieldOf.calls kj30 _ _ t369 x14_30 t391 t392 _ ?side1 ?side2 ?side3 A33.out).mono ?_); (case side1 => exact TabsU.Tabs0.of_below TB.out (by repeat first | (with_reducible first | exact HB.out | apply jD | apply jE | apply jF) | exact HB.out)); (case side2 => repeat (first | exact (Kd.R_reads' HO_5.out).2.2 | (with_reducible refine Kd.C_alloc ?_ _) | (with_reducible refine Kd.C_drewN ?_ _) | (with_reducible refine Kd.C_drew ?_))); (case side3 => exact (Kd.R_reads' HO_5.out).2.1); rintro e w38 ⟨v393, rfl, ho0, hb⟩; refine ⟨_, rfl, ?_⟩; have n0_ := Aside0.mk (Kd.R_elder' (by (with_reducible repeat (first | apply Kd.R_alloc | apply Kd.R_drewN | apply Kd.R_drew)); exact HO_5.out) (Kd.R_base ho0) hb); have n1_ := Aside0.mk (Kd.R_elder' (by (with_reducible repeat (first | apply Kd.R_alloc | apply Kd.R_drewN | apply Kd.R_drew)); exact HO_8.out) (Kd.R_base ho0) hb); have n2_ := Aside0.mk (Kd.R_lower (Kd.R_new' (Kd.R_new' ho0 (Kd.R_lt (by (with_reducible repeat (first | apply Kd.R_alloc | apply Kd.R_drewN | apply Kd.R_drew)); exact HO_5.out))) (Kd.R_lt (by (with_reducible repeat (first | apply Kd.R_alloc | apply Kd.R_drewN | apply Kd.R_drew)); exact HO_8.out))) (below_size (by repeat first | (with_reducible first | exact HB.out | apply jD | apply jE | apply jF) | exact HB.out))); have n3_ := Aside0.mk (below_step (by repeat first | (with_reducible first | exact HB.out | apply jD | apply jE | apply jF) | exact HB.out) hb); clear HO_5; clear HO_8; clear HB; have HO_5 := n0_; have HO_8 := n1_; have HO394 := n2_; have HB := n3_; clear n0_ n1_ n2_ n3_; (try clear hb); (try clear hk); (try clear hi); (try clear ho0)) | ((with_reducible refine gate_callee (f := 22) rfl ?_); refine goesL_ (some 101) rfl rfl Tryd.func22 (by kernel_rfl) rfl #[.slice Ao22 t376.length co22, .string x14_30] rfl (by (try simp only [List.map_toArray, List.map_cons, List.map_nil]); first | done | rfl | (simp only [List.length_drop, List.length_take]; rfl)) ?_; (with_reducible refine (impl_FieldOf.calls kj30 _ _ t376 x14_30 t395 t396 _ ?side1 ?side2 ?side3 A34.out).mono ?_); (case side1 => exact TabsU.Tabs0.of_below TB.out (by repeat first | (with_reducible first | exact HB.out | apply jD | apply jE | apply jF) | exact HB.out)); (case side2 => repeat (first | exact (Kd.R_reads' HO_8.out).2.2 | (with_reducible refine Kd.C_alloc ?_ _) | (with_reducible refine Kd.C_drewN ?_ _) | (with_reducible refine Kd.C_drew ?_))); (case side3 => exact (Kd.R_reads' HO_8.out).2.1); rintro e w39 ⟨v397, rfl, ho0, hb⟩; refine ⟨_, rfl, ?_⟩; have n0_ := Aside0.mk (Kd.R_elder' (by (with_reducible repeat (first | apply Kd.R_alloc | apply Kd.R_drewN | apply Kd.R_drew)); exact HO_5.out) (Kd.R_base ho0) hb); have n1_ := Aside0.mk (Kd.R_elder' (by (with_reducible repeat (first | apply Kd.R_alloc | apply Kd.R_drewN | apply Kd.R_drew)); exact HO_8.out) (Kd.R_base ho0) hb); have n2_ := Aside0.mk (Kd.R_elder' (by (with_reducible repeat (first | apply Kd.R_alloc | apply Kd.R_drewN | apply Kd.R_drew)); exact HO394.out) (Kd.R_base ho0) hb); have n3_ := Aside0.mk (Kd.R_lower (Kd.R_new' (Kd.R_new' (Kd.R_new' ho0 (Kd.R_lt (by (with_reducible repeat (first | apply Kd.R_alloc | apply Kd.R_drewN | apply Kd.R_drew)); exact HO_5.out))) (Kd.R_lt (by (with_reducible repeat (first | apply Kd.R_alloc | apply Kd.R_drewN | apply Kd.R_drew)); exact HO_8.out))) (Kd.R_lt (by (with_reducible repeat (first | apply Kd.R_alloc | apply Kd.R_drewN | apply Kd.R_drew)); exact HO394.out))) (below_size (by repeat first | (with_reducible first | exact HB.out | apply jD | apply jE | apply jF) | exact HB.out))); have n4_ := Aside0.mk (below_step (by repeat first | (with_reducible first | exact HB.out | apply jD | apply jE | apply jF) | exact HB.out) hb); clear HO_5; clear HO_8; clear HO394; clear HB; have HO_5 := n0_; have HO_8 := n1_; have HO394 := n2_; have HO398 := n3_; have HB := n4_; clear n0_ n1_ n2_ n3_ n4_; (try clear hb); (try clear hk); (try clear hi); (try clear ho0); obtain ⟨Ao40, co40, eo40⟩ := Kd.R_slice HO394.out; subst eo40; obtain ⟨Ao41, co41, eo41⟩ := Kd.R_slice HO398.out; subst eo41) | (go_at_call 28; (with_reducible refine (laws_sameNodes.calls kj30 _ _ t391 _ _ t395 true _ ?side1 ?side2 ?side3 ?side4 A36.out).mono ?_); (case side1 => repeat (first | exact (Kd.R_reads' HO394.out).2.2 | (with_reducible refine Kd.C_alloc ?_ _) | (with_reducible refine Kd.C_drewN ?_ _) | (with_reducible refine Kd.C_drew ?_))); (case side2 => exact (Kd.R_reads' HO394.out).2.1); (case side3 => repeat (first | exact (Kd.R_reads' HO398.out).2.2 | (with_reducible refine Kd.C_alloc ?_ _) | (with_reducible refine Kd.C_drewN ?_ _) | (with_reducible refine Kd.C_drew ?_))); (case side4 => exact (Kd.R_reads' HO398.out).2.1); rintro e w' ⟨rfl, ⟨nd, rfl⟩⟩))
               go_meet
               case rel => exact ⟨_, H', ⟨by have := HJ6.out; have := HJ20.out; have := HJ30.out; first | omega | exact Nat.le_refl _⟩, ⟨by repeat (first | (with_reducible first | exact HB.out | apply jD | apply jE | apply jF) | exact HB.out)⟩⟩
             ·replace c37 := Bool.eq_false_iff.mpr c37
              subst c37
              have H1 : (some false) = some r := by rw [if_neg (show ¬ (false = true) by decide)] at H; exact H
              clear H
              have H := H1
              clear H1
              exact absurd ((Option.some.inj H).trans HR_.out) (by decide)
      ·replace c19 := Bool.eq_false_iff.mpr c19
       subst c19
       have H1 : (laws_FnFields.j3 kj6 l1) = some r := by rw [if_neg (show ¬ (false = true) by decide)] at H; exact H
       clear H
       have H := H1
       clear H1
       as_aux_lemma =>
        have H' := Aside0.mk H
        clear H
        go_wp2
        go_meet
        case rel => exact ⟨_, H', ⟨by have := HJ6.out; first | omega | exact Nat.le_refl _⟩, ⟨by repeat (first | (with_reducible first | exact HB.out | apply jD | apply jE | apply jF) | exact HB.out)⟩⟩
     case rest =>
      clear HC18
      try clear c1
      try clear c2
      try clear p2
      try clear c3
      try clear c3b0
      try clear p6
      try clear c9
      try clear c13
      try clear c13b0
      try clear c13b1
      try clear c13b2
      try clear c17
      try clear c18
      try clear c19
      try clear c22
      try clear c25
      try clear c26
      try clear c27
      try clear c30
      try clear c32
      try clear c32b0
      try clear c32b1
      try clear c35
      try clear c35b0
      try clear c35b1
      try clear c35b2
      try clear c37
      try clear p2
      try clear p6
      obtain ⟨kq, HA, HJ17, HB⟩ := hcut
      cases kq with
      | zero => exact absurd HA.out (by simp [laws_FnFields.j3])
      | succ kj17 =>
       have H := HA.out
       clear HA
       simp only [laws_FnFields.j3] at H
       replace H := Option.bind_eq_some_iff.mp H
       obtain ⟨⟨t400, t401⟩, A420, H⟩ := H
       replace H : ((impl_FieldOf.f kj17 t400 t401).bind fun bt404 => ((spec_FieldOf.f kj17 t400 t401).bind fun bt408 => ((spec_DrawDepthOf.f kj17 l1).bind fun t412 => ((impl_DepthOf.f kj17 t412).bind fun bt415 => ((spec_DepthOf.f kj17 t412).bind fun bt417 => (if (bt404.2 != bt408.2) = true then (laws_FnFields.j4 kj17 t400 bt404.1 bt404.2 true) else ((laws_sameNodes.f kj17 bt404.1 bt408.1).bind fun t419 => (if t419 = true then (if (bt415.2 != bt417.2) = true then (laws_FnFields.j4 kj17 t400 bt404.1 bt404.2 true) else (laws_FnFields.j4 kj17 t400 bt404.1 bt404.2 (bt415.1 != bt417.1))) else (laws_FnFields.j4 kj17 t400 bt404.1 bt404.2 true))))))))) = some r := H
       have A42 := Aside0.mk A420
       clear A420
       replace H := Option.bind_eq_some_iff.mp H
       obtain ⟨⟨t404, t405⟩, A430, H⟩ := H
       replace H : ((spec_FieldOf.f kj17 t400 t401).bind fun bt408 => ((spec_DrawDepthOf.f kj17 l1).bind fun t412 => ((impl_DepthOf.f kj17 t412).bind fun bt415 => ((spec_DepthOf.f kj17 t412).bind fun bt417 => (if (t405 != bt408.2) = true then (laws_FnFields.j4 kj17 t400 t404 t405 true) else ((laws_sameNodes.f kj17 t404 bt408.1).bind fun t419 => (if t419 = true then (if (bt415.2 != bt417.2) = true then (laws_FnFields.j4 kj17 t400 t404 t405 true) else (laws_FnFields.j4 kj17 t400 t404 t405 (bt415.1 != bt417.1))) else (laws_FnFields.j4 kj17 t400 t404 t405 true)))))))) = some r := H
       have A43 := Aside0.mk A430
       clear A430
       replace H := Option.bind_eq_some_iff.mp H
       obtain ⟨⟨t408, t409⟩, A440, H⟩ := H
       replace H : ((spec_DrawDepthOf.f kj17 l1).bind fun t412 => ((impl_DepthOf.f kj17 t412).bind fun bt415 => ((spec_DepthOf.f kj17 t412).bind fun bt417 => (if (t405 != t409) = true then (laws_FnFields.j4 kj17 t400 t404 t405 true) else ((laws_sameNodes.f kj17 t404 t408).bind fun t419 => (if t419 = true then (if (bt415.2 != bt417.2) = true then (laws_FnFields.j4 kj17 t400 t404 t405 true) else (laws_FnFields.j4 kj17 t400 t404 t405 (bt415.1 != bt417.1))) else (laws_FnFields.j4 kj17 t400 t404 t405 true))))))) = some r := H
       have A44 := Aside0.mk A440
       clear A440
       replace H := Option.bind_eq_some_iff.mp H
       obtain ⟨t412, A450, H⟩ := H
       replace H : ((impl_DepthOf.f kj17 t412).bind fun bt415 => ((spec_DepthOf.f kj17 t412).bind fun bt417 => (if (t405 != t409) = true then (laws_FnFields.j4 kj17 t400 t404 t405 true) else ((laws_sameNodes.f kj17 t404 t408).bind fun t419 => (if t419 = true then (if (bt415.2 != bt417.2) = true then (laws_FnFields.j4 kj17 t400 t404 t405 true) else (laws_FnFields.j4 kj17 t400 t404 t405 (bt415.1 != bt417.1))) else (laws_FnFields.j4 kj17 t400 t404 t405 true)))))) = some r := H
       have A45 := Aside0.mk A450
       clear A450
       replace H := Option.bind_eq_some_iff.mp H
       obtain ⟨⟨t415, t416⟩, A460, H⟩ := H
       replace H : ((spec_DepthOf.f kj17 t412).bind fun bt417 => (if (t405 != t409) = true then (laws_FnFields.j4 kj17 t400 t404 t405 true) else ((laws_sameNodes.f kj17 t404 t408).bind fun t419 => (if t419 = true then (if (t416 != bt417.2) = true then (laws_FnFields.j4 kj17 t400 t404 t405 true) else (laws_FnFields.j4 kj17 t400 t404 t405 (t415 != bt417.1))) else (laws_FnFields.j4 kj17 t400 t404 t405 true))))) = some r := H
       have A46 := Aside0.mk A460
       clear A460
       replace H := Option.bind_eq_some_iff.mp H
       obtain ⟨⟨t417, t418⟩, A470, H⟩ := H
       replace H : (if (t405 != t409) = true then (laws_FnFields.j4 kj17 t400 t404 t405 true) else ((laws_sameNodes.f kj17 t404 t408).bind fun t419 => (if t419 = true then (if (t416 != t418) = true then (laws_FnFields.j4 kj17 t400 t404 t405 true) else (laws_FnFields.j4 kj17 t400 t404 t405 (t415 != t417))) else (laws_FnFields.j4 kj17 t400 t404 t405 true)))) = some r := H
       have A47 := Aside0.mk A470
       clear A470
       have HC48 := Aside0.mk H
       clear H
       go_upto_region 25 with (first | ((with_reducible refine gate_callee (f := 29) rfl ?_); refine goesL_ (some 115) rfl rfl Tryd.func29 (by kernel_rfl) rfl #[.slice A1 l1.length c1] rfl (by (try simp only [List.map_toArray, List.map_cons, List.map_nil]); first | done | rfl | (simp only [List.length_drop, List.length_take]; rfl)) ?_; (with_reducible refine (spec_DrawFieldOf.calls kj17 _ _ l1 t400 t401 _ ?side1 ?side2 A42.out).mono ?_); (case side1 => repeat (first | exact (Kd.C_below HR1.out HB.out) | (with_reducible refine Kd.C_alloc ?_ _) | (with_reducible refine Kd.C_drewN ?_ _) | (with_reducible refine Kd.C_drew ?_))); (case side2 => exact HC1.out); rintro e w49 ⟨v402, rfl, ho0, hb⟩; refine ⟨_, rfl, ?_⟩; have n0_ := Aside0.mk (Kd.R_lower ho0 (below_size (by repeat first | (with_reducible first | exact HB.out | apply jD | apply jE | apply jF) | exact HB.out))); have n1_ := Aside0.mk (below_step (by repeat first | (with_reducible first | exact HB.out | apply jD | apply jE | apply jF) | exact HB.out) hb); clear HB; have HO403 := n0_; have HB := n1_; clear n0_ n1_; (try clear hb); (try clear hk); (try clear hi); (try clear ho0); obtain ⟨Ao50, co50, eo50⟩ := Kd.R_slice HO403.out; subst eo50) | ((with_reducible refine gate_callee (f := 22) rfl ?_); refine goesL_ (some 121) rfl rfl Tryd.func22 (by kernel_rfl) rfl #[.slice Ao50 t400.length co50, .string t401] rfl (by (try simp only [List.map_toArray, List.map_cons, List.map_nil]); first | done | rfl | (simp only [List.length_drop, List.length_take]; rfl)) ?_; (with_reducible refine (impl_FieldOf.calls kj17 _ _ t400 t401 t404 t405 _ ?side1 ?side2 ?side3 A43.out).mono ?_); (case side1 => exact TabsU.Tabs0.of_below TB.out (by repeat first | (with_reducible first | exact HB.out | apply jD | apply jE | apply jF) | exact HB.out)); (case side2 => repeat (first | exact (Kd.R_reads' HO403.out).2.2 | (with_reducible refine Kd.C_alloc ?_ _) | (with_reducible refine Kd.C_drewN ?_ _) | (with_reducible refine Kd.C_drew ?_))); (case side3 => exact (Kd.R_reads' HO403.out).2.1); rintro e w51 ⟨v406, rfl, ho0, hb⟩; refine ⟨_, rfl, ?_⟩; have n0_ := Aside0.mk (Kd.R_elder' (by (with_reducible repeat (first | apply Kd.R_alloc | apply Kd.R_drewN | apply Kd.R_drew)); exact HO403.out) (Kd.R_base ho0) hb); have n1_ := Aside0.mk (Kd.R_lower (Kd.R_new' ho0 (Kd.R_lt (by (with_reducible repeat (first | apply Kd.R_alloc | apply Kd.R_drewN | apply Kd.R_drew)); exact HO403.out))) (below_size (by repeat first | (with_reducible first | exact HB.out | apply jD | apply jE | apply jF) | exact HB.out))); have n2_ := Aside0.mk (below_step (by repeat first | (with_reducible first | exact HB.out | apply jD | apply jE | apply jF) | exact HB.out) hb); clear HO403; clear HB; have HO403 := n0_; have HO407 := n1_; have HB := n2_; clear n0_ n1_ n2_; (try clear hb); (try clear hk); (try clear hi); (try clear ho0)) | ((with_reducible refine gate_callee (f := 21) rfl ?_); refine goesL_ (some 127) rfl rfl Tryd.func21 (by kernel_rfl) rfl #[.slice Ao50 t400.length co50, .string t401] rfl (by (try simp only [List.map_toArray, List.map_cons, List.map_nil]); first | done | rfl | (simp only [List.length_drop, List.length_take]; rfl)) ?_; (with_reducible refine (spec_FieldOf.calls kj17 _ _ t400 t401 t408 t409 _ ?side1 ?side2 A44.out).mono ?_); (case side1 => repeat (first | exact (Kd.R_reads' HO403.out).2.2 | (with_reducible refine Kd.C_alloc ?_ _) | (with_reducible refine Kd.C_drewN ?_ _) | (with_reducible refine Kd.C_drew ?_))); (case side2 => exact (Kd.R_reads' HO403.out).2.1); rintro e w52 ⟨v410, rfl, ho0, hb⟩; refine ⟨_, rfl, ?_⟩; have n0_ := Aside0.mk (Kd.R_elder' (by (with_reducible repeat (first | apply Kd.R_alloc | apply Kd.R_drewN | apply Kd.R_drew)); exact HO403.out) (Kd.R_base ho0) hb); have n1_ := Aside0.mk (Kd.R_elder' (by (with_reducible repeat (first | apply Kd.R_alloc | apply Kd.R_drewN | apply Kd.R_drew)); exact HO407.out) (Kd.R_base ho0) hb); have n2_ := Aside0.mk (Kd.R_lower (Kd.R_new' (Kd.R_new' ho0 (Kd.R_lt (by (with_reducible repeat (first | apply Kd.R_alloc | apply Kd.R_drewN | apply Kd.R_drew)); exact HO403.out))) (Kd.R_lt (by (with_reducible repeat (first | apply Kd.R_alloc | apply Kd.R_drewN | apply Kd.R_drew)); exact HO407.out))) (below_size (by repeat first | (with_reducible first | exact HB.out | apply jD | apply jE | apply jF) | exact HB.out))); have n3_ := Aside0.mk (below_step (by repeat first | (with_reducible first | exact HB.out | apply jD | apply jE | apply jF) | exact HB.out) hb); clear HO403; clear HO407; clear HB; have HO403 := n0_; have HO407 := n1_; have HO411 := n2_; have HB := n3_; clear n0_ n1_ n2_ n3_; (try clear hb); (try clear hk); (try clear hi); (try clear ho0)) | ((with_reducible refine gate_callee (f := 30) rfl ?_); refine goesL_ (some 131) rfl rfl Tryd.func30 (by kernel_rfl) rfl #[.slice A1 l1.length c1] rfl (by (try simp only [List.map_toArray, List.map_cons, List.map_nil]); first | done | rfl | (simp only [List.length_drop, List.length_take]; rfl)) ?_; (with_reducible refine (spec_DrawDepthOf.calls kj17 _ _ l1 t412 _ ?side1 ?side2 A45.out).mono ?_); (case side1 => repeat (first | exact (Kd.C_below HR1.out HB.out) | (with_reducible refine Kd.C_alloc ?_ _) | (with_reducible refine Kd.C_drewN ?_ _) | (with_reducible refine Kd.C_drew ?_))); (case side2 => exact HC1.out); rintro e w53 ⟨v413, rfl, ho0, hb⟩; refine ⟨_, rfl, ?_⟩; have n0_ := Aside0.mk (Kd.R_elder' (by (with_reducible repeat (first | apply Kd.R_alloc | apply Kd.R_drewN | apply Kd.R_drew)); exact HO403.out) (Kd.R_base ho0) hb); have n1_ := Aside0.mk (Kd.R_elder' (by (with_reducible repeat (first | apply Kd.R_alloc | apply Kd.R_drewN | apply Kd.R_drew)); exact HO407.out) (Kd.R_base ho0) hb); have n2_ := Aside0.mk (Kd.R_elder' (by (with_reducible repeat (first | apply Kd.R_alloc | apply Kd.R_drewN | apply Kd.R_drew)); exact HO411.out) (Kd.R_base ho0) hb); have n3_ := Aside0.mk (Kd.R_lower (Kd.R_new' (Kd.R_new' (Kd.R_new' ho0 (Kd.R_lt (by (with_reducible repeat (first | apply Kd.R_alloc | apply Kd.R_drewN | apply Kd.R_drew)); exact HO403.out))) (Kd.R_lt (by (with_reducible repeat (first | apply Kd.R_alloc | apply Kd.R_drewN | apply Kd.R_drew)); exact HO407.out))) (Kd.R_lt (by (with_reducible repeat (first | apply Kd.R_alloc | apply Kd.R_drewN | apply Kd.R_drew)); exact HO411.out))) (below_size (by repeat first | (with_reducible first | exact HB.out | apply jD | apply jE | apply jF) | exact HB.out))); have n4_ := Aside0.mk (below_step (by repeat first | (with_reducible first | exact HB.out | apply jD | apply jE | apply jF) | exact HB.out) hb); clear HO403; clear HO407; clear HO411; clear HB; have HO403 := n0_; have HO407 := n1_; have HO411 := n2_; have HO414 := n3_; have HB := n4_; clear n0_ n1_ n2_ n3_ n4_; (try clear hb); (try clear hk); (try clear hi); (try clear ho0); obtain ⟨Ao54, co54, eo54⟩ := Kd.R_slice HO414.out; subst eo54) | ((with_reducible refine gate_callee (f := 20) rfl ?_); refine goesL_ (some 134) rfl rfl Tryd.func20 (by kernel_rfl) rfl #[.slice Ao54 t412.length co54] rfl (by (try simp only [List.map_toArray, List.map_cons, List.map_nil]); first | done | rfl | (simp only [List.length_drop, List.length_take]; rfl)) ?_; (with_reducible refine (impl_DepthOf.calls kj17 _ _ t412 t415 t416 _ ?side1 ?side2 ?side3 A46.out).mono ?_); (case side1 => exact TabsU.Tabs0.of_below TB.out (by repeat first | (with_reducible first | exact HB.out | apply jD | apply jE | apply jF) | exact HB.out)); (case side2 => repeat (first | exact (Kd.R_reads' HO414.out).2.2 | (with_reducible refine Kd.C_alloc ?_ _) | (with_reducible refine Kd.C_drewN ?_ _) | (with_reducible refine Kd.C_drew ?_))); (case side3 => exact (Kd.R_reads' HO414.out).2.1); rintro e w55 ⟨rfl, hb⟩; refine ⟨_, rfl, ?_⟩; have n0_ := Aside0.mk (Kd.R_below (by (with_reducible repeat (first | apply Kd.R_alloc | apply Kd.R_drewN | apply Kd.R_drew)); exact HO403.out) hb); have n1_ := Aside0.mk (Kd.R_below (by (with_reducible repeat (first | apply Kd.R_alloc | apply Kd.R_drewN | apply Kd.R_drew)); exact HO407.out) hb); have n2_ := Aside0.mk (Kd.R_below (by (with_reducible repeat (first | apply Kd.R_alloc | apply Kd.R_drewN | apply Kd.R_drew)); exact HO411.out) hb); have n3_ := Aside0.mk (Kd.R_below (by (with_reducible repeat (first | apply Kd.R_alloc | apply Kd.R_drewN | apply Kd.R_drew)); exact HO414.out) hb); have n4_ := Aside0.mk (below_step (by repeat first | (with_reducible first | exact HB.out | apply jD | apply jE | apply jF) | exact HB.out) hb); clear HO403; clear HO407; clear HO411; clear HO414; clear HB; have HO403 := n0_; have HO407 := n1_; have HO411 := n2_; have HO414 := n3_; have HB := n4_; clear n0_ n1_ n2_ n3_ n4_; (try clear hb); (try clear hk); (try clear hi)) | ((with_reducible refine gate_callee (f := 19) rfl ?_); refine goesL_ (some 139) rfl rfl Tryd.func19 (by kernel_rfl) rfl #[.slice Ao54 t412.length co54] rfl (by (try simp only [List.map_toArray, List.map_cons, List.map_nil]); first | done | rfl | (simp only [List.length_drop, List.length_take]; rfl)) ?_; (with_reducible refine (spec_DepthOf.calls kj17 _ _ t412 t417 t418 _ ?side1 ?side2 A47.out).mono ?_); (case side1 => repeat (first | exact (Kd.R_reads' HO414.out).2.2 | (with_reducible refine Kd.C_alloc ?_ _) | (with_reducible refine Kd.C_drewN ?_ _) | (with_reducible refine Kd.C_drew ?_))); (case side2 => exact (Kd.R_reads' HO414.out).2.1); rintro e w56 ⟨rfl, hb⟩; refine ⟨_, rfl, ?_⟩; have n0_ := Aside0.mk (Kd.R_below (by (with_reducible repeat (first | apply Kd.R_alloc | apply Kd.R_drewN | apply Kd.R_drew)); exact HO403.out) hb); have n1_ := Aside0.mk (Kd.R_below (by (with_reducible repeat (first | apply Kd.R_alloc | apply Kd.R_drewN | apply Kd.R_drew)); exact HO407.out) hb); have n2_ := Aside0.mk (Kd.R_below (by (with_reducible repeat (first | apply Kd.R_alloc | apply Kd.R_drewN | apply Kd.R_drew)); exact HO411.out) hb); have n3_ := Aside0.mk (Kd.R_below (by (with_reducible repeat (first | apply Kd.R_alloc | apply Kd.R_drewN | apply Kd.R_drew)); exact HO414.out) hb); have n4_ := Aside0.mk (below_step (by repeat first | (with_reducible first | exact HB.out | apply jD | apply jE | apply jF) | exact HB.out) hb); clear HO403; clear HO407; clear HO411; clear HO414; clear HB; have HO403 := n0_; have HO407 := n1_; have HO411 := n2_; have HO414 := n3_; have HB := n4_; clear n0_ n1_ n2_ n3_ n4_; (try clear hb); (try clear hk); (try clear hi)))
       (try simp only [Act.put, List.setIfInBounds_toArray, List.set_cons_zero, List.set_cons_succ])
       go_cut [160] (fun v160 wc => ∃ (kq : Nat) (x160_47 : Bool), v160 = .bool x160_47 ∧ Aside0 (laws_FnFields.j4 kq t400 t404 t405 x160_47 = some r) ∧ Aside0 (kq ≤ kj17) ∧ Aside0 (Kd.R k61 61 wc w.heap.size (fun k_ => some k_ ≠ (v406 : Value).ownBlock) (.slice Ao50 t400.length co50) t400) ∧ Aside0 (Kd.R k61 61 wc w.heap.size (fun k_ => some k_ ≠ ((.slice Ao50 t400.length co50) : Value).ownBlock) v406 t404) ∧ Aside0 (Below w.heap.size w wc))
       case first =>
        have H := HC48.out
        clear HC48
        by_cases c57 : (t405 != t409) = true
        ·rw [if_pos c57] at H
         have c57b0 : (t405 != t409) = true := c57
         (try (have c57b1 : decide (t405 = t409) = false := by simpa using c57))
         (try (have c57b2 : (t405 == t409) = false := by simpa using c57))
         (try (have c57b3 : ¬ (t405 = t409) := by simpa using c57))
         clear c57
         (first | rw [c57b0] | (simp only [i64_w, i32_w]; rw [c57b0]) | skip)
         exfalso
         cases kj17 with
         | zero => exact absurd H (by simp [laws_FnFields.j4])
         | succ kz_ => rw [laws_FnFields.j4, if_pos rfl] at H; exact absurd ((Option.some.inj H).trans HR_.out) (by decide)
        ·rw [if_neg c57] at H
         have c57b0 : (t405 != t409) = false := by simpa using c57
         (try (have c57b1 : decide (t405 = t409) = true := by simpa using c57))
         (try (have c57b2 : (t405 == t409) = true := by simpa using c57))
         clear c57
         (first | rw [c57b0] | (simp only [i64_w, i32_w]; rw [c57b0]) | skip)
         replace H := Option.bind_eq_some_iff.mp H
         obtain ⟨t419, A580, H⟩ := H
         replace H : (if t419 = true then (if (t416 != t418) = true then (laws_FnFields.j4 kj17 t400 t404 t405 true) else (laws_FnFields.j4 kj17 t400 t404 t405 (t415 != t417))) else (laws_FnFields.j4 kj17 t400 t404 t405 true)) = some r := H
         have A58 := Aside0.mk A580
         clear A580
         by_cases c59 : t419 = true
         ·subst c59
          have H1 : (if (t416 != t418) = true then (laws_FnFields.j4 kj17 t400 t404 t405 true) else (laws_FnFields.j4 kj17 t400 t404 t405 (t415 != t417))) = some r := by rw [if_pos rfl] at H; exact H
          clear H
          have H := H1
          clear H1
          by_cases c60 : (t416 != t418) = true
          ·rw [if_pos c60] at H
           have c60b0 : (t416 != t418) = true := c60
           (try (have c60b1 : decide (t416 = t418) = false := by simpa using c60))
           (try (have c60b2 : (t416 == t418) = false := by simpa using c60))
           (try (have c60b3 : ¬ (t416 = t418) := by simpa using c60))
           clear c60
           exfalso
           cases kj17 with
           | zero => exact absurd H (by simp [laws_FnFields.j4])
           | succ kz_ => rw [laws_FnFields.j4, if_pos rfl] at H; exact absurd ((Option.some.inj H).trans HR_.out) (by decide)
          ·rw [if_neg c60] at H
           have c60b0 : (t416 != t418) = false := by simpa using c60
           (try (have c60b1 : decide (t416 = t418) = true := by simpa using c60))
           (try (have c60b2 : (t416 == t418) = true := by simpa using c60))
           clear c60
           as_aux_lemma =>
            have H' := Aside0.mk H
            clear H
            obtain ⟨Ao61, co61, eo61⟩ := Kd.R_slice HO407.out
            subst eo61
            obtain ⟨Ao62, co62, eo62⟩ := Kd.R_slice HO411.out
            subst eo62
            go_wp2_with (first | (go_at_call 28; (with_reducible refine (laws_sameNodes.calls kj17 _ _ t404 _ _ t408 true _ ?side1 ?side2 ?side3 ?side4 A58.out).mono ?_); (case side1 => repeat (first | exact (Kd.R_reads' HO407.out).2.2 | (with_reducible refine Kd.C_alloc ?_ _) | (with_reducible refine Kd.C_drewN ?_ _) | (with_reducible refine Kd.C_drew ?_))); (case side2 => exact (Kd.R_reads' HO407.out).2.1); (case side3 => repeat (first | exact (Kd.R_reads' HO411.out).2.2 | (with_reducible refine Kd.C_alloc ?_ _) | (with_reducible refine Kd.C_drewN ?_ _) | (with_reducible refine Kd.C_drew ?_))); (case side4 => exact (Kd.R_reads' HO411.out).2.1); rintro e w' ⟨rfl, ⟨nd, rfl⟩⟩))
            go_meet
            case rel => exact ⟨_, ((t415 != t417)), (by first | rfl | (simp; done) | (simp [*]; done) | (simp; apply Bool.eq_iff_iff.mpr; simp only [bne_iff_ne, ne_eq, beq_iff_eq]; omega)), H', ⟨by have := HJ6.out; have := HJ17.out; first | omega | exact Nat.le_refl _⟩, ⟨by (with_reducible repeat (first | apply Kd.R_alloc | apply Kd.R_drewN | apply Kd.R_drew)); exact Kd.R_mono HO403.out (fun _ hk => hk.1.1.2)⟩, ⟨by (with_reducible repeat (first | apply Kd.R_alloc | apply Kd.R_drewN | apply Kd.R_drew)); exact Kd.R_mono HO407.out (fun _ hk => hk.1.1.2)⟩, ⟨by repeat (first | (with_reducible first | exact HB.out | apply jD | apply jE | apply jF) | exact HB.out)⟩⟩
         ·replace c59 := Bool.eq_false_iff.mpr c59
          subst c59
          have H1 : (laws_FnFields.j4 kj17 t400 t404 t405 true) = some r := by rw [if_neg (show ¬ (false = true) by decide)] at H; exact H
          clear H
          have H := H1
          clear H1
          exfalso
          cases kj17 with
          | zero => exact absurd H (by simp [laws_FnFields.j4])
          | succ kz_ => rw [laws_FnFields.j4, if_pos rfl] at H; exact absurd ((Option.some.inj H).trans HR_.out) (by decide)
       case rest =>
        clear HC48
        try clear c1
        try clear c2
        try clear p2
        try clear c3
        try clear c3b0
        try clear c5
        try clear c6
        try clear p6
        try clear c9
        try clear c13
        try clear c13b0
        try clear c13b1
        try clear c13b2
        try clear c17
        try clear c18
        try clear c19
        try clear c20
        try clear c21
        try clear c22
        try clear c25
        try clear c26
        try clear c27
        try clear c29
        try clear c30
        try clear c32
        try clear c32b0
        try clear c32b1
        try clear c35
        try clear c35b0
        try clear c35b1
        try clear c35b2
        try clear c37
        try clear c57
        try clear c57b0
        try clear c57b1
        try clear c57b2
        try clear c59
        try clear c60
        try clear c60b0
        try clear c60b1
        try clear c60b2
        try clear p2
        try clear p6
        obtain ⟨kq, x160_47, rfl, HA, HJ47, HO_19, HO_21, HB⟩ := hcut
        cases kq with
        | zero => exact absurd HA.out (by simp [laws_FnFields.j4])
        | succ kj47 =>
         have H := HA.out
         clear HA
         simp only [laws_FnFields.j4] at H
         by_cases c63 : x160_47 = true
         ·subst c63
          have H1 : (some false) = some r := by rw [if_pos rfl] at H; exact H
          clear H
          have H := H1
          clear H1
          exact absurd ((Option.some.inj H).trans HR_.out) (by decide)
         ·replace c63 := Bool.eq_false_iff.mpr c63
          subst c63
          have H1 : (if t405 = true then ((impl_DepthOf.f kj47 t400).bind fun bt420 => ((impl_DepthOf.f kj47 t404).bind fun bt422 => (if bt420.2 = true then (if bt422.2 = true then (if bt422.1 < bt420.1 then ((impl_GoodValue.f kj47 t404).bind fun t424 => (some t424)) else (some false)) else (some false)) else (some false)))) else (some true)) = some r := by rw [if_neg (show ¬ (false = true) by decide)] at H; exact H
          clear H
          have H := H1
          clear H1
          by_cases c64 : t405 = true
          ·subst c64
           have H1 : ((impl_DepthOf.f kj47 t400).bind fun bt420 => ((impl_DepthOf.f kj47 t404).bind fun bt422 => (if bt420.2 = true then (if bt422.2 = true then (if bt422.1 < bt420.1 then ((impl_GoodValue.f kj47 t404).bind fun t424 => (some t424)) else (some false)) else (some false)) else (some false)))) = some r := by rw [if_pos rfl] at H; exact H
           clear H
           have H := H1
           clear H1
           replace H := Option.bind_eq_some_iff.mp H
           obtain ⟨⟨t420, t421⟩, A650, H⟩ := H
           replace H : ((impl_DepthOf.f kj47 t404).bind fun bt422 => (if t421 = true then (if bt422.2 = true then (if bt422.1 < t420 then ((impl_GoodValue.f kj47 t404).bind fun t424 => (some t424)) else (some false)) else (some false)) else (some false))) = some r := H
           have A65 := Aside0.mk A650
           clear A650
           replace H := Option.bind_eq_some_iff.mp H
           obtain ⟨⟨t422, t423⟩, A660, H⟩ := H
           replace H : (if t421 = true then (if t423 = true then (if t422 < t420 then ((impl_GoodValue.f kj47 t404).bind fun t424 => (some t424)) else (some false)) else (some false)) else (some false)) = some r := H
           have A66 := Aside0.mk A660
           clear A660
           by_cases c67 : t421 = true
           ·subst c67
            have H1 : (if t423 = true then (if t422 < t420 then ((impl_GoodValue.f kj47 t404).bind fun t424 => (some t424)) else (some false)) else (some false)) = some r := by rw [if_pos rfl] at H; exact H
            clear H
            have H := H1
            clear H1
            by_cases c68 : t423 = true
            ·subst c68
             have H1 : (if t422 < t420 then ((impl_GoodValue.f kj47 t404).bind fun t424 => (some t424)) else (some false)) = some r := by rw [if_pos rfl] at H; exact H
             clear H
             have H := H1
             clear H1
             by_cases c69 : t422 < t420
             ·rw [if_pos c69] at H
              have c69b0 : decide (t422 < t420) = true := decide_eq_true c69
              clear c69
              replace H := Option.bind_eq_some_iff.mp H
              obtain ⟨t424, A700, H⟩ := H
              replace H : (some t424) = some r := H
              have A70 := Aside0.mk A700
              clear A700
              as_aux_lemma =>
               obtain rfl := Option.some.inj H
               go_wp2_with (first | ((with_reducible refine gate_callee (f := 20) rfl ?_); refine goesL_ (some 164) rfl rfl Tryd.func20 (by kernel_rfl) rfl #[.slice Ao50 t400.length co50] rfl (by (try simp only [List.map_toArray, List.map_cons, List.map_nil]); first | done | rfl | (simp only [List.length_drop, List.length_take]; rfl)) ?_; (with_reducible refine (impl_DepthOf.calls kj47 _ _ t400 t420 true _ ?side1 ?side2 ?side3 A65.out).mono ?_); (case side1 => exact TabsU.Tabs0.of_below TB.out (by repeat first | (with_reducible first | exact HB.out | apply jD | apply jE | apply jF) | exact HB.out)); (case side2 => repeat (first | exact (Kd.R_reads' HO_19.out).2.2 | (with_reducible refine Kd.C_alloc ?_ _) | (with_reducible refine Kd.C_drewN ?_ _) | (with_reducible refine Kd.C_drew ?_))); (case side3 => exact (Kd.R_reads' HO_19.out).2.1); rintro e w71 ⟨rfl, hb⟩; refine ⟨_, rfl, ?_⟩; have n0_ := Aside0.mk (Kd.R_below (by (with_reducible repeat (first | apply Kd.R_alloc | apply Kd.R_drewN | apply Kd.R_drew)); exact HO_19.out) hb); have n1_ := Aside0.mk (Kd.R_below (by (with_reducible repeat (first | apply Kd.R_alloc | apply Kd.R_drewN | apply Kd.R_drew)); exact HO_21.out) hb); have n2_ := Aside0.mk (below_step (by repeat first | (with_reducible first | exact HB.out | apply jD | apply jE | apply jF) | exact HB.out) hb); clear HO_19; clear HO_21; clear HB; have HO_19 := n0_; have HO_21 := n1_; have HB := n2_; clear n0_ n1_ n2_; (try clear hb); (try clear hk); (try clear hi); obtain ⟨Ao72, co72, eo72⟩ := Kd.R_slice HO_21.out; subst eo72) | ((with_reducible refine gate_callee (f := 20) rfl ?_); refine goesL_ (some 169) rfl rfl Tryd.func20 (by kernel_rfl) rfl #[.slice Ao72 t404.length co72] rfl (by (try simp only [List.map_toArray, List.map_cons, List.map_nil]); first | done | rfl | (simp only [List.length_drop, List.length_take]; rfl)) ?_; (with_reducible refine (impl_DepthOf.calls kj47 _ _ t404 t422 true _ ?side1 ?side2 ?side3 A66.out).mono ?_); (case side1 => exact TabsU.Tabs0.of_below TB.out (by repeat first | (with_reducible first | exact HB.out | apply jD | apply jE | apply jF) | exact HB.out)); (case side2 => repeat (first | exact (Kd.R_reads' HO_21.out).2.2 | (with_reducible refine Kd.C_alloc ?_ _) | (with_reducible refine Kd.C_drewN ?_ _) | (with_reducible refine Kd.C_drew ?_))); (case side3 => exact (Kd.R_reads' HO_21.out).2.1); rintro e w73 ⟨rfl, hb⟩; refine ⟨_, rfl, ?_⟩; have n0_ := Aside0.mk (Kd.R_below (by (with_reducible repeat (first | apply Kd.R_alloc | apply Kd.R_drewN | apply Kd.R_drew)); exact HO_19.out) hb); have n1_ := Aside0.mk (Kd.R_below (by (with_reducible repeat (first | apply Kd.R_alloc | apply Kd.R_drewN | apply Kd.R_drew)); exact HO_21.out) hb); have n2_ := Aside0.mk (below_step (by repeat first | (with_reducible first | exact HB.out | apply jD | apply jE | apply jF) | exact HB.out) hb); clear HO_19; clear HO_21; clear HB; have HO_19 := n0_; have HO_21 := n1_; have HB := n2_; clear n0_ n1_ n2_; (try clear hb); (try clear hk); (try clear hi)) | (go_at_call 18; (with_reducible refine (impl_GoodValue.calls kj47 _ _ t404 t424 _ ?side1 ?side2 ?side3 A70.out).mono ?_); (case side1 => exact TabsU.Tabs0.of_below TB.out (by repeat first | (with_reducible first | exact HB.out | apply jD | apply jE | apply jF) | exact HB.out)); (case side2 => repeat (first | exact (Kd.R_reads' HO_21.out).2.2 | (with_reducible refine Kd.C_alloc ?_ _) | (with_reducible refine Kd.C_drewN ?_ _) | (with_reducible refine Kd.C_drew ?_))); (case side3 => exact (Kd.R_reads' HO_21.out).2.1); rintro e w74 ⟨rfl, hb⟩; have n0_ := Aside0.mk (Kd.R_below (by (with_reducible repeat (first | apply Kd.R_alloc | apply Kd.R_drewN | apply Kd.R_drew)); exact HO_19.out) hb); have n1_ := Aside0.mk (Kd.R_below (by (with_reducible repeat (first | apply Kd.R_alloc | apply Kd.R_drewN | apply Kd.R_drew)); exact HO_21.out) hb); have n2_ := Aside0.mk (below_step (by repeat first | (with_reducible first | exact HB.out | apply jD | apply jE | apply jF) | exact HB.out) hb); clear HO_19; clear HO_21; clear HB; have HO_19 := n0_; have HO_21 := n1_; have HB := n2_; clear n0_ n1_ n2_; (try clear hb); (try clear hk); (try clear hi)))
               go_ret
               exact ⟨by first | rfl | (simp [errW_none, errW_some] <;> rfl) | (simp [*, errW_none, errW_some] <;> rfl), by repeat (first | (with_reducible first | exact HB.out | apply jD | apply jE | apply jF) | exact HB.out)⟩
             ·rw [if_neg c69] at H
              have c69b0 : decide (t422 < t420) = false := decide_eq_false c69
              clear c69
              exact absurd ((Option.some.inj H).trans HR_.out) (by decide)
            ·replace c68 := Bool.eq_false_iff.mpr c68
             subst c68
             have H1 : (some false) = some r := by rw [if_neg (show ¬ (false = true) by decide)] at H; exact H
             clear H
             have H := H1
             clear H1
             exact absurd ((Option.some.inj H).trans HR_.out) (by decide)
           ·replace c67 := Bool.eq_false_iff.mpr c67
            subst c67
            have H1 : (some false) = some r := by rw [if_neg (show ¬ (false = true) by decide)] at H; exact H
            clear H
            have H := H1
            clear H1
            exact absurd ((Option.some.inj H).trans HR_.out) (by decide)
          ·replace c64 := Bool.eq_false_iff.mpr c64
           subst c64
           have H1 : (some true) = some r := by rw [if_neg (show ¬ (false = true) by decide)] at H; exact H
           clear H
           have H := H1
           clear H1
           as_aux_lemma =>
            obtain rfl := Option.some.inj H
            go_wp2
            go_ret
            exact ⟨by first | rfl | (simp [errW_none, errW_some] <;> rfl) | (simp [*, errW_none, errW_some] <;> rfl), by repeat (first | (with_reducible first | exact HB.out | apply jD | apply jE | apply jF) | exact HB.out)⟩

/-- THE ONE PURE STATEMENT of laws_FnFields: yours. -/
def laws_FnFields.Pure : Prop := ∀ (l0 : List Int) (l1 : List Int), l0.length ≤ maxLen → l0.length * 1 ≤ 140737488351232 → (∀ x ∈ l0, (Lit.int .u8 x).wf = true) → l1.length ≤ maxLen → l1.length * 1 ≤ 140737488351232 → (∀ x ∈ l1, (Lit.int .u8 x).wf = true) → ∃ k, laws_FnFields.f k l0 l1 = some true
theorem laws_FnFields.walk (P : laws_FnFields.Pure) (a0 : Option Addr) (len0 cap0 : Nat) (z0 : List Int) (a1 : Option Addr) (len1 cap1 : Nat) (z1 : List Int) (w : World) (tb : TabsU.Tabs0 w) (w0 : (a0 = none ∧ len0 = 0 ∧ cap0 = 0 ∧ z0 = []) ∨ ∃ x, a0 = some x ∧ len0 ≤ cap0 ∧ cap0 ≤ maxLen ∧ z0.length = cap0 ∧ (∀ i, i < z0.length → w.cell? (x.add i) = some (.int .u8 (z0.getD i 0))) ∧ ∀ n ∈ z0, (Lit.int .u8 n).wf = true) (y0 : len0 * 1 ≤ 140737488351232) (w1 : (a1 = none ∧ len1 = 0 ∧ cap1 = 0 ∧ z1 = []) ∨ ∃ x, a1 = some x ∧ len1 ≤ cap1 ∧ cap1 ≤ maxLen ∧ z1.length = cap1 ∧ (∀ i, i < z1.length → w.cell? (x.add i) = some (.int .u8 (z1.getD i 0))) ∧ ∀ n ∈ z1, (Lit.int .u8 n).wf = true) (y1 : len1 * 1 ≤ 140737488351232) :
  Calls Tryd.prog 9 #[.slice a0 len0 cap0, .slice a1 len1 cap1] w fun e w' => e = .returned (.bool true) ∧ Below w.heap.size w w' := by
 obtain ⟨l0, rfl, hr0, hm0, hw0, hc0⟩ := ReadsInt.ofRowC w0
 obtain ⟨l1, rfl, hr1, hm1, hw1, hc1⟩ := ReadsInt.ofRowC w1
 obtain ⟨k, h⟩ := P l0 l1 hm0 y0 hw0 hm1 y1 hw1
 refine (laws_FnFields.calls k _ _ l0 _ _ l1 true w tb rfl (Kd.C_of_reads (d := (0 : Int)) (h1 := fun _ => rfl) hr0) hc0 (Kd.C_of_reads (d := (0 : Int)) (h1 := fun _ => rfl) hr1) hc1 h).mono ?_
 rintro e w' ⟨rfl, hd⟩
 exact ⟨rfl, hd⟩

end
end Go.Proofs.YtkfbdopfeacnfaaDoor.PFnFields
