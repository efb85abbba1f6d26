-- Printed for this claim by a changed copy of the kit's printing program (wip/tools/patch_print.py); Lean checks it.
import Derived.Test.YtgoedenbekedbaaDoorPFnSignsx0
import Derived.Test.YtgoedenbekedbaaDoorPFnSignsx1
import Derived.Test.YtgoedenbekedbaaDoorPFnSignsx2
import Derived.Test.YtgoedenbekedbaaDoorPFnSignsx3
import Derived.Test.YtgoedenbekedbaaDoorPFnSignsx4
import Derived.Test.YtgoedenbekedbaaDoorPFnSignsx5
namespace Go.Proofs.YtgoedenbekedbaaDoor.PFnSigns
open Go.RowKit Go.Proofs.YtgoedenbekedbaaDoorW.PrintWords Go.Proofs.YtgoedenbekedbaaDoorW.PrintLast Go.Proofs.YtgoedenbekedbaaDoorW.PrintMore
attribute [local go_sem] max2_int min2_int max_two min_two max_three min_three max_four min_four   -- for this text's walks alone
set_option linter.unusedVariables false
set_option linter.unusedSimpArgs false

noncomputable section

theorem bU_ {w W V : World} (h : Aside0 (Below w.heap.size w W)) (e : V.os = W.os ∧ V.tape = W.tape ∧ V.output = W.output ∧ V.heap = W.heap := by exact ⟨rfl, rfl, rfl, rfl⟩) : Below w.heap.size w V :=
  ⟨by rw [e.1]; exact h.out.os, by rw [e.2.1]; exact h.out.tape, by rw [e.2.2.1]; exact h.out.output, by rw [e.2.2.2]; exact h.out.size, fun i hi => by rw [e.2.2.2]; exact h.out.block i hi⟩
theorem bS_ {w W V w1 : World} (h : Aside0 (Below w.heap.size w W)) (hb : Below V.heap.size V w1) (e : V.os = W.os ∧ V.tape = W.tape ∧ V.output = W.output ∧ V.heap = W.heap := by exact ⟨rfl, rfl, rfl, rfl⟩) : Aside0 (Below w.heap.size w w1) :=
  ⟨below_step (bU_ h e) hb⟩
/-! ### laws_FnSigns: function 8 -/
mutual
def laws_FnSigns.j0 : Nat → List Int → ByteArray → ByteArray → Bool → Bool → Option (Bool)
  | 0, _, _, _, _, _ => none
  | k + 1, x1, x5, x6, x7, x67 => if x67 = true then (some false) else (if x7 = true then ((impl_OfSigns.f k x6).bind fun bt244 => ((impl_LengthAs.f (x5.size : Int)).bind fun bt246 => ((impl_HexOf.f x5).bind fun bt248 => ((impl_OfHex.f k bt248.1).bind fun bt250 => (if bt244.2 = true then (if bt244.1.toList = x5.toList then (if bt246.2 = true then (if bt246.1 = (x6.size : Int) then (if bt248.2 = true then (if bt250.2 = true then (if bt250.1.toList = x5.toList then (laws_FnSigns.j1 k x1) else (some false)) else (some false)) else (some false)) else (some false)) else (some false)) else (some false)) else (some false)))))) else (laws_FnSigns.j1 k x1))
def laws_FnSigns.j1 : Nat → List Int → Option (Bool)
  | 0, _ => none
  | k + 1, x1 => (spec_DrawOfSigns.f k x1).bind fun t252 => ((impl_OfSigns.f k t252).bind fun bt253 => ((spec_OfSigns.f k t252).bind fun bt255 => ((spec_DrawOfHex.f k x1).bind fun t257 => ((impl_OfHex.f k t257).bind fun bt258 => ((spec_OfHex.f k t257).bind fun bt260 => (if (bt253.2 != bt255.2) = true then (laws_FnSigns.j2 k x1 t252 bt253.1 bt253.2 t257 bt258.1 bt258.2 true) else (if bt253.1.toList = bt255.1.toList then (if (bt258.2 != bt260.2) = true then (laws_FnSigns.j2 k x1 t252 bt253.1 bt253.2 t257 bt258.1 bt258.2 true) else (laws_FnSigns.j2 k x1 t252 bt253.1 bt253.2 t257 bt258.1 bt258.2 (bt258.1.toList != bt260.1.toList))) else (laws_FnSigns.j2 k x1 t252 bt253.1 bt253.2 t257 bt258.1 bt258.2 true))))))))
def laws_FnSigns.j2 : Nat → List Int → ByteArray → ByteArray → Bool → ByteArray → ByteArray → Bool → Bool → Option (Bool)
  | 0, _, _, _, _, _, _, _, _ => none
  | k + 1, x1, x18, x19, x20, x23, x24, x25, x161 => if x161 = true then (some false) else (if x20 = true then (laws_FnSigns.j3 k x1 x18 x19 x23 x24 x25 (decide ((x19.size : Int) ≤ 600))) else (laws_FnSigns.j3 k x1 x18 x19 x23 x24 x25 false))
def laws_FnSigns.j3 : Nat → List Int → ByteArray → ByteArray → ByteArray → ByteArray → Bool → Bool → Option (Bool)
  | 0, _, _, _, _, _, _, _ => none
  | k + 1, x1, x18, x19, x23, x24, x25, x167 => if x167 = true then ((impl_SignsOf.f x19).bind fun bt262 => (if bt262.2 = true then (if bt262.1.toList = x18.toList then (laws_FnSigns.j4 k x1 x23 x24 x25) else (some false)) else (some false))) else (laws_FnSigns.j4 k x1 x23 x24 x25)
def laws_FnSigns.j4 : Nat → List Int → ByteArray → ByteArray → Bool → Option (Bool)
  | 0, _, _, _, _ => none
  | k + 1, x1, x23, x24, x25 => if x25 = true then ((impl_HexOf.f x24).bind fun bt264 => (if bt264.2 = true then (if bt264.1.toList = x23.toList then (laws_FnSigns.j5 k x1) else (some false)) else (some false))) else (laws_FnSigns.j5 k x1)
def laws_FnSigns.j5 : Nat → List Int → Option (Bool)
  | 0, _ => none
  | k + 1, x1 => (spec_DrawSignAt.f x1).bind fun t266 => ((impl_SignAt.f t266).bind fun bt267 => ((spec_SignAt.f t266).bind fun bt269 => ((spec_DrawLengthAs.f x1).bind fun t271 => ((impl_LengthAs.f t271).bind fun bt272 => ((spec_LengthAs.f t271).bind fun bt274 => (if (bt267.2 == bt269.2) = true then (if bt267.1.toList = bt269.1.toList then (if (bt272.2 == bt274.2) = true then (some (bt272.1 == bt274.1)) else (some false)) else (some false)) else (some false)))))))
end
def laws_FnSigns.f (k : Nat) (l0 : List Int) (l1 : List Int) : Option (Bool) := if (wrap64 ((l0.length : Int) + (l1.length : Int))) > 1048576 then (some true) else ((spec_DrawSignsOf.f k l0).bind fun t239 => ((impl_SignsOf.f t239).bind fun bt240 => ((spec_SignsOf.f k t239).bind fun bt242 => (if (bt240.2 != bt242.2) = true then (laws_FnSigns.j0 k l1 t239 bt240.1 bt240.2 true) else (laws_FnSigns.j0 k l1 t239 bt240.1 bt240.2 (bt240.1.toList != bt242.1.toList))))))
theorem laws_FnSigns.mono_l : ∀ k, (∀ y0 y1 y2 y3 y4, LeO (laws_FnSigns.j0 k y0 y1 y2 y3 y4) (laws_FnSigns.j0 (k + 1) y0 y1 y2 y3 y4)) ∧ (∀ y0, LeO (laws_FnSigns.j1 k y0) (laws_FnSigns.j1 (k + 1) y0)) ∧ (∀ y0 y1 y2 y3 y4 y5 y6 y7, LeO (laws_FnSigns.j2 k y0 y1 y2 y3 y4 y5 y6 y7) (laws_FnSigns.j2 (k + 1) y0 y1 y2 y3 y4 y5 y6 y7)) ∧ (∀ y0 y1 y2 y3 y4 y5 y6, LeO (laws_FnSigns.j3 k y0 y1 y2 y3 y4 y5 y6) (laws_FnSigns.j3 (k + 1) y0 y1 y2 y3 y4 y5 y6)) ∧ (∀ y0 y1 y2 y3, LeO (laws_FnSigns.j4 k y0 y1 y2 y3) (laws_FnSigns.j4 (k + 1) y0 y1 y2 y3)) ∧ (∀ y0, LeO (laws_FnSigns.j5 k y0) (laws_FnSigns.j5 (k + 1) y0))
  | 0 => ⟨fun _ _ _ _ _ r h => by simp [laws_FnSigns.j0] at h, fun _ r h => by simp [laws_FnSigns.j1] at h, fun _ _ _ _ _ _ _ _ r h => by simp [laws_FnSigns.j2] at h, fun _ _ _ _ _ _ _ r h => by simp [laws_FnSigns.j3] at h, fun _ _ _ _ r h => by simp [laws_FnSigns.j4] at h, fun _ r h => by simp [laws_FnSigns.j5] at h⟩
  | k + 1 => by
    obtain ⟨ih0, ih1, ih2, ih3, ih4, ih5⟩ := laws_FnSigns.mono_l k
    refine ⟨?_, ?_, ?_, ?_, ?_, ?_⟩
    · intro y0 y1 y2 y3 y4
      unfold laws_FnSigns.j0
      repeat' first
      | (with_reducible exact ih0 _ _ _ _ _)
      | (with_reducible exact ih1 _)
      | (with_reducible exact ih2 _ _ _ _ _ _ _ _)
      | (with_reducible exact ih3 _ _ _ _ _ _ _)
      | (with_reducible exact ih4 _ _ _ _)
      | (with_reducible exact ih5 _)
      | (with_reducible exact impl_OfHex.mono _ _)
      | (with_reducible exact impl_OfSigns.mono _ _)
      | (with_reducible exact spec_DrawOfHex.mono _ _)
      | (with_reducible exact spec_DrawOfSigns.mono _ _)
      | (with_reducible exact spec_DrawSignsOf.mono _ _)
      | (with_reducible exact spec_OfHex.mono _ _)
      | (with_reducible exact spec_OfSigns.mono _ _)
      | (with_reducible exact spec_SignsOf.mono _ _)
      | (with_reducible exact LeO.refl _)
      | (with_reducible exact LeO.none _)
      | (with_reducible refine LeO.ite ?_ ?_)
      | (with_reducible refine LeO.bind ?_ (fun _ => ?_))
      | exact ih0 _ _ _ _ _
      | exact ih1 _
      | exact ih2 _ _ _ _ _ _ _ _
      | exact ih3 _ _ _ _ _ _ _
      | exact ih4 _ _ _ _
      | exact ih5 _
      | exact impl_OfHex.mono _ _
      | exact impl_OfSigns.mono _ _
      | exact spec_DrawOfHex.mono _ _
      | exact spec_DrawOfSigns.mono _ _
      | exact spec_DrawSignsOf.mono _ _
      | exact spec_OfHex.mono _ _
      | exact spec_OfSigns.mono _ _
      | exact spec_SignsOf.mono _ _
      | exact LeO.none _
      | refine LeO.ite ?_ ?_
      | refine LeO.bind ?_ (fun _ => ?_)
    · intro y0
      unfold laws_FnSigns.j1
      repeat' first
      | (with_reducible exact ih0 _ _ _ _ _)
      | (with_reducible exact ih1 _)
      | (with_reducible exact ih2 _ _ _ _ _ _ _ _)
      | (with_reducible exact ih3 _ _ _ _ _ _ _)
      | (with_reducible exact ih4 _ _ _ _)
      | (with_reducible exact ih5 _)
      | (with_reducible exact impl_OfHex.mono _ _)
      | (with_reducible exact impl_OfSigns.mono _ _)
      | (with_reducible exact spec_DrawOfHex.mono _ _)
      | (with_reducible exact spec_DrawOfSigns.mono _ _)
      | (with_reducible exact spec_DrawSignsOf.mono _ _)
      | (with_reducible exact spec_OfHex.mono _ _)
      | (with_reducible exact spec_OfSigns.mono _ _)
      | (with_reducible exact spec_SignsOf.mono _ _)
      | (with_reducible exact LeO.refl _)
      | (with_reducible exact LeO.none _)
      | (with_reducible refine LeO.ite ?_ ?_)
      | (with_reducible refine LeO.bind ?_ (fun _ => ?_))
      | exact ih0 _ _ _ _ _
      | exact ih1 _
      | exact ih2 _ _ _ _ _ _ _ _
      | exact ih3 _ _ _ _ _ _ _
      | exact ih4 _ _ _ _
      | exact ih5 _
      | exact impl_OfHex.mono _ _
      | exact impl_OfSigns.mono _ _
      | exact spec_DrawOfHex.mono _ _
      | exact spec_DrawOfSigns.mono _ _
      | exact spec_DrawSignsOf.mono _ _
      | exact spec_OfHex.mono _ _
      | exact spec_OfSigns.mono _ _
      | exact spec_SignsOf.mono _ _
      | exact LeO.none _
      | refine LeO.ite ?_ ?_
      | refine LeO.bind ?_ (fun _ => ?_)
    · intro y0 y1 y2 y3 y4 y5 y6 y7
      unfold laws_FnSigns.j2
      repeat' first
      | (with_reducible exact ih0 _ _ _ _ _)
      | (with_reducible exact ih1 _)
      | (with_reducible exact ih2 _ _ _ _ _ _ _ _)
      | (with_reducible exact ih3 _ _ _ _ _ _ _)
      | (with_reducible exact ih4 _ _ _ _)
      | (with_reducible exact ih5 _)
      | (with_reducible exact impl_OfHex.mono _ _)
      | (with_reducible exact impl_OfSigns.mono _ _)
      | (with_reducible exact spec_DrawOfHex.mono _ _)
      | (with_reducible exact spec_DrawOfSigns.mono _ _)
      | (with_reducible exact spec_DrawSignsOf.mono _ _)
      | (with_reducible exact spec_OfHex.mono _ _)
      | (with_reducible exact spec_OfSigns.mono _ _)
      | (with_reducible exact spec_SignsOf.mono _ _)
      | (with_reducible exact LeO.refl _)
      | (with_reducible exact LeO.none _)
      | (with_reducible refine LeO.ite ?_ ?_)
      | (with_reducible refine LeO.bind ?_ (fun _ => ?_))
      | exact ih0 _ _ _ _ _
      | exact ih1 _
      | exact ih2 _ _ _ _ _ _ _ _
      | exact ih3 _ _ _ _ _ _ _
      | exact ih4 _ _ _ _
      | exact ih5 _
      | exact impl_OfHex.mono _ _
      | exact impl_OfSigns.mono _ _
      | exact spec_DrawOfHex.mono _ _
      | exact spec_DrawOfSigns.mono _ _
      | exact spec_DrawSignsOf.mono _ _
      | exact spec_OfHex.mono _ _
      | exact spec_OfSigns.mono _ _
      | exact spec_SignsOf.mono _ _
      | exact LeO.none _
      | refine LeO.ite ?_ ?_
      | refine LeO.bind ?_ (fun _ => ?_)
    · intro y0 y1 y2 y3 y4 y5 y6
      unfold laws_FnSigns.j3
      repeat' first
      | (with_reducible exact ih0 _ _ _ _ _)
      | (with_reducible exact ih1 _)
      | (with_reducible exact ih2 _ _ _ _ _ _ _ _)
      | (with_reducible exact ih3 _ _ _ _ _ _ _)
      | (with_reducible exact ih4 _ _ _ _)
      | (with_reducible exact ih5 _)
      | (with_reducible exact impl_OfHex.mono _ _)
      | (with_reducible exact impl_OfSigns.mono _ _)
      | (with_reducible exact spec_DrawOfHex.mono _ _)
      | (with_reducible exact spec_DrawOfSigns.mono _ _)
      | (with_reducible exact spec_DrawSignsOf.mono _ _)
      | (with_reducible exact spec_OfHex.mono _ _)
      | (with_reducible exact spec_OfSigns.mono _ _)
      | (with_reducible exact spec_SignsOf.mono _ _)
      | (with_reducible exact LeO.refl _)
      | (with_reducible exact LeO.none _)
      | (with_reducible refine LeO.ite ?_ ?_)
      | (with_reducible refine LeO.bind ?_ (fun _ => ?_))
      | exact ih0 _ _ _ _ _
      | exact ih1 _
      | exact ih2 _ _ _ _ _ _ _ _
      | exact ih3 _ _ _ _ _ _ _
      | exact ih4 _ _ _ _
      | exact ih5 _
      | exact impl_OfHex.mono _ _
      | exact impl_OfSigns.mono _ _
      | exact spec_DrawOfHex.mono _ _
      | exact spec_DrawOfSigns.mono _ _
      | exact spec_DrawSignsOf.mono _ _
      | exact spec_OfHex.mono _ _
      | exact spec_OfSigns.mono _ _
      | exact spec_SignsOf.mono _ _
      | exact LeO.none _
      | refine LeO.ite ?_ ?_
      | refine LeO.bind ?_ (fun _ => ?_)
    · intro y0 y1 y2 y3
      unfold laws_FnSigns.j4
      repeat' first
      | (with_reducible exact ih0 _ _ _ _ _)
      | (with_reducible exact ih1 _)
      | (with_reducible exact ih2 _ _ _ _ _ _ _ _)
      | (with_reducible exact ih3 _ _ _ _ _ _ _)
      | (with_reducible exact ih4 _ _ _ _)
      | (with_reducible exact ih5 _)
      | (with_reducible exact impl_OfHex.mono _ _)
      | (with_reducible exact impl_OfSigns.mono _ _)
      | (with_reducible exact spec_DrawOfHex.mono _ _)
      | (with_reducible exact spec_DrawOfSigns.mono _ _)
      | (with_reducible exact spec_DrawSignsOf.mono _ _)
      | (with_reducible exact spec_OfHex.mono _ _)
      | (with_reducible exact spec_OfSigns.mono _ _)
      | (with_reducible exact spec_SignsOf.mono _ _)
      | (with_reducible exact LeO.refl _)
      | (with_reducible exact LeO.none _)
      | (with_reducible refine LeO.ite ?_ ?_)
      | (with_reducible refine LeO.bind ?_ (fun _ => ?_))
      | exact ih0 _ _ _ _ _
      | exact ih1 _
      | exact ih2 _ _ _ _ _ _ _ _
      | exact ih3 _ _ _ _ _ _ _
      | exact ih4 _ _ _ _
      | exact ih5 _
      | exact impl_OfHex.mono _ _
      | exact impl_OfSigns.mono _ _
      | exact spec_DrawOfHex.mono _ _
      | exact spec_DrawOfSigns.mono _ _
      | exact spec_DrawSignsOf.mono _ _
      | exact spec_OfHex.mono _ _
      | exact spec_OfSigns.mono _ _
      | exact spec_SignsOf.mono _ _
      | exact LeO.none _
      | refine LeO.ite ?_ ?_
      | refine LeO.bind ?_ (fun _ => ?_)
    · intro y0
      unfold laws_FnSigns.j5
      repeat' first
      | (with_reducible exact ih0 _ _ _ _ _)
      | (with_reducible exact ih1 _)
      | (with_reducible exact ih2 _ _ _ _ _ _ _ _)
      | (with_reducible exact ih3 _ _ _ _ _ _ _)
      | (with_reducible exact ih4 _ _ _ _)
      | (with_reducible exact ih5 _)
      | (with_reducible exact impl_OfHex.mono _ _)
      | (with_reducible exact impl_OfSigns.mono _ _)
      | (with_reducible exact spec_DrawOfHex.mono _ _)
      | (with_reducible exact spec_DrawOfSigns.mono _ _)
      | (with_reducible exact spec_DrawSignsOf.mono _ _)
      | (with_reducible exact spec_OfHex.mono _ _)
      | (with_reducible exact spec_OfSigns.mono _ _)
      | (with_reducible exact spec_SignsOf.mono _ _)
      | (with_reducible exact LeO.refl _)
      | (with_reducible exact LeO.none _)
      | (with_reducible refine LeO.ite ?_ ?_)
      | (with_reducible refine LeO.bind ?_ (fun _ => ?_))
      | exact ih0 _ _ _ _ _
      | exact ih1 _
      | exact ih2 _ _ _ _ _ _ _ _
      | exact ih3 _ _ _ _ _ _ _
      | exact ih4 _ _ _ _
      | exact ih5 _
      | exact impl_OfHex.mono _ _
      | exact impl_OfSigns.mono _ _
      | exact spec_DrawOfHex.mono _ _
      | exact spec_DrawOfSigns.mono _ _
      | exact spec_DrawSignsOf.mono _ _
      | exact spec_OfHex.mono _ _
      | exact spec_OfSigns.mono _ _
      | exact spec_SignsOf.mono _ _
      | exact LeO.none _
      | refine LeO.ite ?_ ?_
      | refine LeO.bind ?_ (fun _ => ?_)
theorem laws_FnSigns.mono : ∀ a0 a1 k, LeO (laws_FnSigns.f k a0 a1) (laws_FnSigns.f (k + 1) a0 a1) := by
  intro a0 a1 k
  obtain ⟨ih0, ih1, ih2, ih3, ih4, ih5⟩ := laws_FnSigns.mono_l k
  unfold laws_FnSigns.f
  repeat' first
      | (with_reducible exact ih0 _ _ _ _ _)
      | (with_reducible exact ih1 _)
      | (with_reducible exact ih2 _ _ _ _ _ _ _ _)
      | (with_reducible exact ih3 _ _ _ _ _ _ _)
      | (with_reducible exact ih4 _ _ _ _)
      | (with_reducible exact ih5 _)
      | (with_reducible exact impl_OfHex.mono _ _)
      | (with_reducible exact impl_OfSigns.mono _ _)
      | (with_reducible exact spec_DrawOfHex.mono _ _)
      | (with_reducible exact spec_DrawOfSigns.mono _ _)
      | (with_reducible exact spec_DrawSignsOf.mono _ _)
      | (with_reducible exact spec_OfHex.mono _ _)
      | (with_reducible exact spec_OfSigns.mono _ _)
      | (with_reducible exact spec_SignsOf.mono _ _)
      | (with_reducible exact LeO.refl _)
      | (with_reducible exact LeO.none _)
      | (with_reducible refine LeO.ite ?_ ?_)
      | (with_reducible refine LeO.bind ?_ (fun _ => ?_))
      | exact ih0 _ _ _ _ _
      | exact ih1 _
      | exact ih2 _ _ _ _ _ _ _ _
      | exact ih3 _ _ _ _ _ _ _
      | exact ih4 _ _ _ _
      | exact ih5 _
      | exact impl_OfHex.mono _ _
      | exact impl_OfSigns.mono _ _
      | exact spec_DrawOfHex.mono _ _
      | exact spec_DrawOfSigns.mono _ _
      | exact spec_DrawSignsOf.mono _ _
      | exact spec_OfHex.mono _ _
      | exact spec_OfSigns.mono _ _
      | exact spec_SignsOf.mono _ _
      | exact LeO.none _
      | refine LeO.ite ?_ ?_
      | refine LeO.bind ?_ (fun _ => ?_)
set_option maxHeartbeats 8000000 in
set_option maxRecDepth 100000 in
theorem laws_FnSigns.calls (k : Nat) (A0 : Option Addr) (c0 : Nat) (l0 : List Int) (A1 : Option Addr) (c1 : Nat) (l1 : List Int) (r : Bool) (w : World) (tb : Go.Proofs.YtgoedenbekedbaaDoor.TabsS.Tabs0 w) (hr_ : r = true) (hr0 : Kd.C (Kd.int .u8) w A0 l0.length l0) (hc0 : l0.length ≤ c0) (hr1 : Kd.C (Kd.int .u8) w A1 l1.length l1) (hc1 : l1.length ≤ c1) (h : laws_FnSigns.f k l0 l1 = some r) :
    Calls Tryd.prog 8 #[.slice A0 l0.length c0, .slice A1 l1.length c1] w fun e w' => e = .returned (.bool r) ∧ Below w.heap.size w w' := by
  have HR_ := Aside0.mk hr_
  clear hr_
  have TB := Aside0.mk tb
  clear tb
  have HR0 := Aside0.mk hr0
  have HC0 := Aside0.mk hc0
  clear hr0 hc0
  have HR1 := Aside0.mk hr1
  have HC1 := Aside0.mk hc1
  clear hr1 hc1
  have HB := Aside0.mk (Below.refl w.heap.size w)
  have H : (if (wrap64 ((l0.length : Int) + (l1.length : Int))) > 1048576 then (some true) else ((spec_DrawSignsOf.f k l0).bind fun t239 => ((impl_SignsOf.f t239).bind fun bt240 => ((spec_SignsOf.f k t239).bind fun bt242 => (if (bt240.2 != bt242.2) = true then (laws_FnSigns.j0 k l1 t239 bt240.1 bt240.2 true) else (laws_FnSigns.j0 k l1 t239 bt240.1 bt240.2 (bt240.1.toList != bt242.1.toList))))))) = some r := h
  clear h
  by_cases c3 : (wrap64 ((l0.length : Int) + (l1.length : Int))) > 1048576
  · rw [if_pos c3] at H
    have c3b0 : decide (1048576 < (wrap64 ((l0.length : Int) + (l1.length : Int)))) = true := decide_eq_true c3
    clear c3
    as_aux_lemma =>
      obtain rfl := Option.some.inj H
      go_enter Tryd.func8, Tryd.ntmps8
      go_wp2
      all_goals (try exact absurd ‹some undef = some (Value.bool _)› (by simp [undef]))
      go_ret
      exact ⟨by first | rfl | (simp [errW_none, errW_some] <;> rfl) | (simp [*, errW_none, errW_some] <;> rfl), by repeat (first | (with_reducible first | exact HB.out | apply below_alloc | apply pw_below_drewN | apply below_drew1) | exact HB.out)⟩
  · rw [if_neg c3] at H
    have c3b0 : decide (1048576 < (wrap64 ((l0.length : Int) + (l1.length : Int)))) = false := decide_eq_false c3
    clear c3
    replace H := Option.bind_eq_some_iff.mp H
    obtain ⟨t239, A40, H⟩ := H
    replace H : ((impl_SignsOf.f t239).bind fun bt240 => ((spec_SignsOf.f k t239).bind fun bt242 => (if (bt240.2 != bt242.2) = true then (laws_FnSigns.j0 k l1 t239 bt240.1 bt240.2 true) else (laws_FnSigns.j0 k l1 t239 bt240.1 bt240.2 (bt240.1.toList != bt242.1.toList))))) = some r := H
    have A4 := Aside0.mk A40
    clear A40
    replace H := Option.bind_eq_some_iff.mp H
    obtain ⟨⟨t240, t241⟩, A50, H⟩ := H
    replace H : ((spec_SignsOf.f k t239).bind fun bt242 => (if (t241 != bt242.2) = true then (laws_FnSigns.j0 k l1 t239 t240 t241 true) else (laws_FnSigns.j0 k l1 t239 t240 t241 (t240.toList != bt242.1.toList)))) = some r := H
    have A5 := Aside0.mk A50
    clear A50
    replace H := Option.bind_eq_some_iff.mp H
    obtain ⟨⟨t242, t243⟩, A60, H⟩ := H
    replace H : (if (t241 != t243) = true then (laws_FnSigns.j0 k l1 t239 t240 t241 true) else (laws_FnSigns.j0 k l1 t239 t240 t241 (t240.toList != t242.toList))) = some r := H
    have A6 := Aside0.mk A60
    clear A60
    have HC7 := Aside0.mk H
    clear H
    go_enter Tryd.func8, Tryd.ntmps8
    go_upto_region 6 with (first | ((with_reducible refine gate_callee (f := 52) rfl ?_); refine goesL_ (some 49) rfl rfl Tryd.func52 (by kernel_rfl) rfl #[.slice A0 l0.length c0] rfl (by (try simp only [List.map_toArray, List.map_cons, List.map_nil]); first | done | rfl | (simp only [List.length_drop, List.length_take]; rfl)) ?_; (with_reducible refine (spec_DrawSignsOf.calls k _ _ l0 t239 _ ?side1 ?side2 A4.out).mono ?_); (case side1 => repeat (first | exact HR0.out | (with_reducible refine Kd.C_alloc ?_ _) | (with_reducible refine Kd.C_drewN ?_ _) | (with_reducible refine Kd.C_drew ?_))); (case side2 => exact HC0.out); rintro e w8 ⟨rfl, hb⟩; refine ⟨_, rfl, ?_⟩; replace HB := bS_ HB hb; (try clear hb)) | ((with_reducible refine gate_callee (f := 53) rfl ?_); refine goesL_ (some 52) rfl rfl Tryd.func53 (by kernel_rfl) rfl #[.string t239] rfl (by (try simp only [List.map_toArray, List.map_cons, List.map_nil]); first | done | rfl | (simp only [List.length_drop, List.length_take]; rfl)) ?_; (with_reducible refine (impl_SignsOf.calls t239 t240 t241 _ A5.out).mono ?_); rintro e w9 ⟨rfl, hb⟩; refine ⟨_, rfl, ?_⟩; replace HB := bS_ HB hb; (try clear hb)) | ((with_reducible refine gate_callee (f := 54) rfl ?_); refine goesL_ (some 57) rfl rfl Tryd.func54 (by kernel_rfl) rfl #[.string t239] rfl (by (try simp only [List.map_toArray, List.map_cons, List.map_nil]); first | done | rfl | (simp only [List.length_drop, List.length_take]; rfl)) ?_; (with_reducible refine (spec_SignsOf.calls k t239 t242 t243 _ A6.out).mono ?_); rintro e w10 ⟨rfl, hb⟩; refine ⟨_, rfl, ?_⟩; replace HB := bS_ HB hb; (try clear hb)))
    (try simp only [Act.put, List.setIfInBounds_toArray, List.set_cons_zero, List.set_cons_succ])
    go_cut [67] (fun v67 wc => ∃ (kq : Nat) (x67_6 : Bool), v67 = .bool x67_6 ∧ Aside0 (laws_FnSigns.j0 kq l1 t239 t240 t241 x67_6 = some r) ∧ Aside0 (kq ≤ k) ∧ Aside0 (Below w.heap.size w wc))
    case first =>
      as_aux_lemma =>
        have H := HC7.out
        clear HC7
        by_cases c11 : (t241 != t243) = true
        · rw [if_pos c11] at H
          have c11b0 : (t241 != t243) = true := c11
          (try (have c11b1 : decide (t241 = t243) = false := by simpa using c11))
          (try (have c11b2 : (t241 == t243) = false := by simpa using c11))
          (try (have c11b3 : ¬ (t241 = t243) := by simpa using c11))
          clear c11
          (first | rw [c11b0] | (simp only [i64_w, i32_w]; rw [c11b0]) | skip)
          exfalso
          cases k with
          | zero => exact absurd H (by simp [laws_FnSigns.j0])
          | succ kz_ => rw [laws_FnSigns.j0, if_pos rfl] at H; exact absurd ((Option.some.inj H).trans HR_.out) (by decide)
        · rw [if_neg c11] at H
          have c11b0 : (t241 != t243) = false := by simpa using c11
          (try (have c11b1 : decide (t241 = t243) = true := by simpa using c11))
          (try (have c11b2 : (t241 == t243) = true := by simpa using c11))
          clear c11
          (first | rw [c11b0] | (simp only [i64_w, i32_w]; rw [c11b0]) | skip)
          as_aux_lemma =>
            have H' := Aside0.mk H
            clear H
            go_wp2
            all_goals (try exact absurd ‹some undef = some (Value.bool _)› (by simp [undef]))
            go_meet
            case rel => exact ⟨_, ((t240.toList != t242.toList)), (by first | rfl | (simp; done) | (simp [*]; done)), H', ⟨by first | omega | exact Nat.le_refl _⟩, ⟨by repeat (first | (with_reducible first | exact HB.out | apply below_alloc | apply pw_below_drewN | apply below_drew1) | exact HB.out)⟩⟩
    case rest =>
      as_aux_lemma =>
        clear HC7
        try clear c1
        try clear p2
        try clear c3
        try clear c3b0
        try clear c5
        try clear p6
        try clear c8
        try clear c11
        try clear c11b0
        try clear c11b1
        try clear c11b2
        obtain ⟨kq, x67_6, rfl, HA, HJ6, HB⟩ := hcut
        cases kq with
        | zero => exact absurd HA.out (by simp [laws_FnSigns.j0])
        | succ kj6 =>
          have H := HA.out
          clear HA
          simp only [laws_FnSigns.j0] at H
          by_cases c12 : x67_6 = true
          · subst c12
            have H1 : (some false) = some r := by rw [if_pos rfl] at H; exact H
            clear H
            have H := H1
            clear H1
            exact absurd ((Option.some.inj H).trans HR_.out) (by decide)
          · replace c12 := Bool.eq_false_iff.mpr c12
            subst c12
            have H1 : (if t241 = true then ((impl_OfSigns.f kj6 t240).bind fun bt244 => ((impl_LengthAs.f (t239.size : Int)).bind fun bt246 => ((impl_HexOf.f t239).bind fun bt248 => ((impl_OfHex.f kj6 bt248.1).bind fun bt250 => (if bt244.2 = true then (if bt244.1.toList = t239.toList then (if bt246.2 = true then (if bt246.1 = (t240.size : Int) then (if bt248.2 = true then (if bt250.2 = true then (if bt250.1.toList = t239.toList then (laws_FnSigns.j1 kj6 l1) else (some false)) else (some false)) else (some false)) else (some false)) else (some false)) else (some false)) else (some false)))))) else (laws_FnSigns.j1 kj6 l1)) = some r := by rw [if_neg (show ¬ (false = true) by decide)] at H; exact H
            clear H
            have H := H1
            clear H1
            have HC13 := Aside0.mk H
            clear H
            go_upto_if 68 with (fail)
            go_cut [] (fun wc => ∃ (kq : Nat), Aside0 (laws_FnSigns.j1 kq l1 = some r) ∧ Aside0 (kq ≤ kj6) ∧ Aside0 (Below w.heap.size w wc))
            case first =>
              as_aux_lemma =>
                have H := HC13.out
                clear HC13
                by_cases c14 : t241 = true
                · subst c14
                  have H1 : ((impl_OfSigns.f kj6 t240).bind fun bt244 => ((impl_LengthAs.f (t239.size : Int)).bind fun bt246 => ((impl_HexOf.f t239).bind fun bt248 => ((impl_OfHex.f kj6 bt248.1).bind fun bt250 => (if bt244.2 = true then (if bt244.1.toList = t239.toList then (if bt246.2 = true then (if bt246.1 = (t240.size : Int) then (if bt248.2 = true then (if bt250.2 = true then (if bt250.1.toList = t239.toList then (laws_FnSigns.j1 kj6 l1) else (some false)) else (some false)) else (some false)) else (some false)) else (some false)) else (some false)) else (some false)))))) = some r := by rw [if_pos rfl] at H; exact H
                  clear H
                  have H := H1
                  clear H1
                  replace H := Option.bind_eq_some_iff.mp H
                  obtain ⟨⟨t244, t245⟩, A150, H⟩ := H
                  replace H : ((impl_LengthAs.f (t239.size : Int)).bind fun bt246 => ((impl_HexOf.f t239).bind fun bt248 => ((impl_OfHex.f kj6 bt248.1).bind fun bt250 => (if t245 = true then (if t244.toList = t239.toList then (if bt246.2 = true then (if bt246.1 = (t240.size : Int) then (if bt248.2 = true then (if bt250.2 = true then (if bt250.1.toList = t239.toList then (laws_FnSigns.j1 kj6 l1) else (some false)) else (some false)) else (some false)) else (some false)) else (some false)) else (some false)) else (some false))))) = some r := H
                  have A15 := Aside0.mk A150
                  clear A150
                  replace H := Option.bind_eq_some_iff.mp H
                  obtain ⟨⟨t246, t247⟩, A160, H⟩ := H
                  replace H : ((impl_HexOf.f t239).bind fun bt248 => ((impl_OfHex.f kj6 bt248.1).bind fun bt250 => (if t245 = true then (if t244.toList = t239.toList then (if t247 = true then (if t246 = (t240.size : Int) then (if bt248.2 = true then (if bt250.2 = true then (if bt250.1.toList = t239.toList then (laws_FnSigns.j1 kj6 l1) else (some false)) else (some false)) else (some false)) else (some false)) else (some false)) else (some false)) else (some false)))) = some r := H
                  have A16 := Aside0.mk A160
                  clear A160
                  replace H := Option.bind_eq_some_iff.mp H
                  obtain ⟨⟨t248, t249⟩, A170, H⟩ := H
                  replace H : ((impl_OfHex.f kj6 t248).bind fun bt250 => (if t245 = true then (if t244.toList = t239.toList then (if t247 = true then (if t246 = (t240.size : Int) then (if t249 = true then (if bt250.2 = true then (if bt250.1.toList = t239.toList then (laws_FnSigns.j1 kj6 l1) else (some false)) else (some false)) else (some false)) else (some false)) else (some false)) else (some false)) else (some false))) = some r := H
                  have A17 := Aside0.mk A170
                  clear A170
                  replace H := Option.bind_eq_some_iff.mp H
                  obtain ⟨⟨t250, t251⟩, A180, H⟩ := H
                  replace H : (if t245 = true then (if t244.toList = t239.toList then (if t247 = true then (if t246 = (t240.size : Int) then (if t249 = true then (if t251 = true then (if t250.toList = t239.toList then (laws_FnSigns.j1 kj6 l1) else (some false)) else (some false)) else (some false)) else (some false)) else (some false)) else (some false)) else (some false)) = some r := H
                  have A18 := Aside0.mk A180
                  clear A180
                  by_cases c19 : t245 = true
                  · subst c19
                    have H1 : (if t244.toList = t239.toList then (if t247 = true then (if t246 = (t240.size : Int) then (if t249 = true then (if t251 = true then (if t250.toList = t239.toList then (laws_FnSigns.j1 kj6 l1) else (some false)) else (some false)) else (some false)) else (some false)) else (some false)) else (some false)) = some r := by rw [if_pos rfl] at H; exact H
                    clear H
                    have H := H1
                    clear H1
                    by_cases c20 : t244.toList = t239.toList
                    · rw [if_pos c20] at H
                      have c20b0 : (t244.toList == t239.toList) = true := beq_iff_eq.mpr c20
                      have c20b1 : (t244.toList != t239.toList) = false := bne_eq_false_iff_eq.mpr c20
                      clear c20
                      (first | rw [c20b0] | (simp only [i64_w, i32_w]; rw [c20b0]) | skip)
                      by_cases c21 : t247 = true
                      · subst c21
                        have H1 : (if t246 = (t240.size : Int) then (if t249 = true then (if t251 = true then (if t250.toList = t239.toList then (laws_FnSigns.j1 kj6 l1) else (some false)) else (some false)) else (some false)) else (some false)) = some r := by rw [if_pos rfl] at H; exact H
                        clear H
                        have H := H1
                        clear H1
                        by_cases c22 : t246 = (t240.size : Int)
                        · rw [if_pos c22] at H
                          have c22b0 : (t246 == (t240.size : Int)) = true := beq_iff_eq.mpr c22
                          have c22b1 : (t246 != (t240.size : Int)) = false := bne_eq_false_iff_eq.mpr c22
                          clear c22
                          by_cases c23 : t249 = true
                          · subst c23
                            have H1 : (if t251 = true then (if t250.toList = t239.toList then (laws_FnSigns.j1 kj6 l1) else (some false)) else (some false)) = some r := by rw [if_pos rfl] at H; exact H
                            clear H
                            have H := H1
                            clear H1
                            by_cases c24 : t251 = true
                            · subst c24
                              have H1 : (if t250.toList = t239.toList then (laws_FnSigns.j1 kj6 l1) else (some false)) = some r := by rw [if_pos rfl] at H; exact H
                              clear H
                              have H := H1
                              clear H1
                              by_cases c25 : t250.toList = t239.toList
                              · rw [if_pos c25] at H
                                have c25b0 : (t250.toList == t239.toList) = true := beq_iff_eq.mpr c25
                                have c25b1 : (t250.toList != t239.toList) = false := bne_eq_false_iff_eq.mpr c25
                                clear c25
                                as_aux_lemma =>
                                  have H' := Aside0.mk H
                                  clear H
                                  go_wp2_with (first | ((with_reducible refine gate_callee (f := 55) rfl ?_); refine goesL_ (some 71) rfl rfl Tryd.func55 (by kernel_rfl) rfl #[.string t240] rfl (by (try simp only [List.map_toArray, List.map_cons, List.map_nil]); first | done | rfl | (simp only [List.length_drop, List.length_take]; rfl)) ?_; (with_reducible refine (impl_OfSigns.calls kj6 t240 t244 true _ A15.out).mono ?_); rintro e w26 ⟨rfl, hb⟩; refine ⟨_, rfl, ?_⟩; replace HB := bS_ HB hb; (try clear hb)) | ((with_reducible refine gate_callee (f := 56) rfl ?_); refine goesL_ (some 77) rfl rfl Tryd.func56 (by kernel_rfl) rfl #[.int .i64 (t239.size : Int)] rfl (by (try simp only [List.map_toArray, List.map_cons, List.map_nil]); first | done | rfl | (simp only [List.length_drop, List.length_take]; rfl)) ?_; (with_reducible refine (impl_LengthAs.calls (t239.size : Int) t246 true _ A16.out).mono ?_); rintro e w' ⟨rfl, ⟨nd, rfl⟩⟩; refine ⟨_, rfl, ?_⟩) | ((with_reducible refine gate_callee (f := 57) rfl ?_); refine goesL_ (some 82) rfl rfl Tryd.func57 (by kernel_rfl) rfl #[.string t239] rfl (by (try simp only [List.map_toArray, List.map_cons, List.map_nil]); first | done | rfl | (simp only [List.length_drop, List.length_take]; rfl)) ?_; (with_reducible refine (impl_HexOf.calls t239 t248 true _ A17.out).mono ?_); rintro e w27 ⟨rfl, hb⟩; refine ⟨_, rfl, ?_⟩; replace HB := bS_ HB hb; (try clear hb)) | ((with_reducible refine gate_callee (f := 58) rfl ?_); refine goesL_ (some 87) rfl rfl Tryd.func58 (by kernel_rfl) rfl #[.string t248] rfl (by (try simp only [List.map_toArray, List.map_cons, List.map_nil]); first | done | rfl | (simp only [List.length_drop, List.length_take]; rfl)) ?_; (with_reducible refine (impl_OfHex.calls kj6 t248 t250 true _ ?side1 A18.out).mono ?_); (case side1 => exact Go.Proofs.YtgoedenbekedbaaDoor.TabsS.Tabs0.of_below TB.out (bU_ HB)); rintro e w28 ⟨rfl, hb⟩; refine ⟨_, rfl, ?_⟩; replace HB := bS_ HB hb; (try clear hb)))
                                  all_goals (try exact absurd ‹some undef = some (Value.bool _)› (by simp [undef]))
                                  go_meet
                                  case rel => exact ⟨_, H', ⟨by have := HJ6.out; first | omega | exact Nat.le_refl _⟩, ⟨by repeat (first | (with_reducible first | exact HB.out | apply below_alloc | apply pw_below_drewN | apply below_drew1) | exact HB.out)⟩⟩
                              · rw [if_neg c25] at H
                                have c25b0 : (t250.toList == t239.toList) = false := beq_eq_false_iff_ne.mpr c25
                                have c25b1 : (t250.toList != t239.toList) = true := bne_iff_ne.mpr c25
                                exact absurd ((Option.some.inj H).trans HR_.out) (by decide)
                            · replace c24 := Bool.eq_false_iff.mpr c24
                              subst c24
                              have H1 : (some false) = some r := by rw [if_neg (show ¬ (false = true) by decide)] at H; exact H
                              clear H
                              have H := H1
                              clear H1
                              exact absurd ((Option.some.inj H).trans HR_.out) (by decide)
                          · replace c23 := Bool.eq_false_iff.mpr c23
                            subst c23
                            have H1 : (some false) = some r := by rw [if_neg (show ¬ (false = true) by decide)] at H; exact H
                            clear H
                            have H := H1
                            clear H1
                            exact absurd ((Option.some.inj H).trans HR_.out) (by decide)
                        · rw [if_neg c22] at H
                          have c22b0 : (t246 == (t240.size : Int)) = false := beq_eq_false_iff_ne.mpr c22
                          have c22b1 : (t246 != (t240.size : Int)) = true := bne_iff_ne.mpr c22
                          exact absurd ((Option.some.inj H).trans HR_.out) (by decide)
                      · replace c21 := Bool.eq_false_iff.mpr c21
                        subst c21
                        have H1 : (some false) = some r := by rw [if_neg (show ¬ (false = true) by decide)] at H; exact H
                        clear H
                        have H := H1
                        clear H1
                        exact absurd ((Option.some.inj H).trans HR_.out) (by decide)
                    · rw [if_neg c20] at H
                      have c20b0 : (t244.toList == t239.toList) = false := beq_eq_false_iff_ne.mpr c20
                      have c20b1 : (t244.toList != t239.toList) = true := bne_iff_ne.mpr c20
                      (first | rw [c20b0] | (simp only [i64_w, i32_w]; rw [c20b0]) | skip)
                      exact absurd ((Option.some.inj H).trans HR_.out) (by decide)
                  · replace c19 := Bool.eq_false_iff.mpr c19
                    subst c19
                    have H1 : (some false) = some r := by rw [if_neg (show ¬ (false = true) by decide)] at H; exact H
                    clear H
                    have H := H1
                    clear H1
                    exact absurd ((Option.some.inj H).trans HR_.out) (by decide)
                · replace c14 := Bool.eq_false_iff.mpr c14
                  subst c14
                  have H1 : (laws_FnSigns.j1 kj6 l1) = some r := by rw [if_neg (show ¬ (false = true) by decide)] at H; exact H
                  clear H
                  have H := H1
                  clear H1
                  as_aux_lemma =>
                    have H' := Aside0.mk H
                    clear H
                    go_wp2
                    all_goals (try exact absurd ‹some undef = some (Value.bool _)› (by simp [undef]))
                    go_meet
                    case rel => exact ⟨_, H', ⟨by have := HJ6.out; first | omega | exact Nat.le_refl _⟩, ⟨by repeat (first | (with_reducible first | exact HB.out | apply below_alloc | apply pw_below_drewN | apply below_drew1) | exact HB.out)⟩⟩
            case rest =>
              as_aux_lemma =>
                clear HC13
                try clear c1
                try clear c2
                try clear p2
                try clear c3
                try clear c3b0
                try clear c5
                try clear p6
                try clear c8
                try clear c11
                try clear c11b0
                try clear c11b1
                try clear c11b2
                try clear c12
                try clear c14
                try clear c19
                try clear c20
                try clear c20b0
                try clear c20b1
                try clear c21
                try clear c22
                try clear c22b0
                try clear c22b1
                try clear c23
                try clear c24
                try clear c25
                try clear c25b0
                try clear c25b1
                try clear p2
                try clear p6
                obtain ⟨kq, HA, HJ12, HB⟩ := hcut
                cases kq with
                | zero => exact absurd HA.out (by simp [laws_FnSigns.j1])
                | succ kj12 =>
                  have H := HA.out
                  clear HA
                  simp only [laws_FnSigns.j1] at H
                  replace H := Option.bind_eq_some_iff.mp H
                  obtain ⟨t252, A290, H⟩ := H
                  replace H : ((impl_OfSigns.f kj12 t252).bind fun bt253 => ((spec_OfSigns.f kj12 t252).bind fun bt255 => ((spec_DrawOfHex.f kj12 l1).bind fun t257 => ((impl_OfHex.f kj12 t257).bind fun bt258 => ((spec_OfHex.f kj12 t257).bind fun bt260 => (if (bt253.2 != bt255.2) = true then (laws_FnSigns.j2 kj12 l1 t252 bt253.1 bt253.2 t257 bt258.1 bt258.2 true) else (if bt253.1.toList = bt255.1.toList then (if (bt258.2 != bt260.2) = true then (laws_FnSigns.j2 kj12 l1 t252 bt253.1 bt253.2 t257 bt258.1 bt258.2 true) else (laws_FnSigns.j2 kj12 l1 t252 bt253.1 bt253.2 t257 bt258.1 bt258.2 (bt258.1.toList != bt260.1.toList))) else (laws_FnSigns.j2 kj12 l1 t252 bt253.1 bt253.2 t257 bt258.1 bt258.2 true)))))))) = some r := H
                  have A29 := Aside0.mk A290
                  clear A290
                  replace H := Option.bind_eq_some_iff.mp H
                  obtain ⟨⟨t253, t254⟩, A300, H⟩ := H
                  replace H : ((spec_OfSigns.f kj12 t252).bind fun bt255 => ((spec_DrawOfHex.f kj12 l1).bind fun t257 => ((impl_OfHex.f kj12 t257).bind fun bt258 => ((spec_OfHex.f kj12 t257).bind fun bt260 => (if (t254 != bt255.2) = true then (laws_FnSigns.j2 kj12 l1 t252 t253 t254 t257 bt258.1 bt258.2 true) else (if t253.toList = bt255.1.toList then (if (bt258.2 != bt260.2) = true then (laws_FnSigns.j2 kj12 l1 t252 t253 t254 t257 bt258.1 bt258.2 true) else (laws_FnSigns.j2 kj12 l1 t252 t253 t254 t257 bt258.1 bt258.2 (bt258.1.toList != bt260.1.toList))) else (laws_FnSigns.j2 kj12 l1 t252 t253 t254 t257 bt258.1 bt258.2 true))))))) = some r := H
                  have A30 := Aside0.mk A300
                  clear A300
                  replace H := Option.bind_eq_some_iff.mp H
                  obtain ⟨⟨t255, t256⟩, A310, H⟩ := H
                  replace H : ((spec_DrawOfHex.f kj12 l1).bind fun t257 => ((impl_OfHex.f kj12 t257).bind fun bt258 => ((spec_OfHex.f kj12 t257).bind fun bt260 => (if (t254 != t256) = true then (laws_FnSigns.j2 kj12 l1 t252 t253 t254 t257 bt258.1 bt258.2 true) else (if t253.toList = t255.toList then (if (bt258.2 != bt260.2) = true then (laws_FnSigns.j2 kj12 l1 t252 t253 t254 t257 bt258.1 bt258.2 true) else (laws_FnSigns.j2 kj12 l1 t252 t253 t254 t257 bt258.1 bt258.2 (bt258.1.toList != bt260.1.toList))) else (laws_FnSigns.j2 kj12 l1 t252 t253 t254 t257 bt258.1 bt258.2 true)))))) = some r := H
                  have A31 := Aside0.mk A310
                  clear A310
                  replace H := Option.bind_eq_some_iff.mp H
                  obtain ⟨t257, A320, H⟩ := H
                  replace H : ((impl_OfHex.f kj12 t257).bind fun bt258 => ((spec_OfHex.f kj12 t257).bind fun bt260 => (if (t254 != t256) = true then (laws_FnSigns.j2 kj12 l1 t252 t253 t254 t257 bt258.1 bt258.2 true) else (if t253.toList = t255.toList then (if (bt258.2 != bt260.2) = true then (laws_FnSigns.j2 kj12 l1 t252 t253 t254 t257 bt258.1 bt258.2 true) else (laws_FnSigns.j2 kj12 l1 t252 t253 t254 t257 bt258.1 bt258.2 (bt258.1.toList != bt260.1.toList))) else (laws_FnSigns.j2 kj12 l1 t252 t253 t254 t257 bt258.1 bt258.2 true))))) = some r := H
                  have A32 := Aside0.mk A320
                  clear A320
                  replace H := Option.bind_eq_some_iff.mp H
                  obtain ⟨⟨t258, t259⟩, A330, H⟩ := H
                  replace H : ((spec_OfHex.f kj12 t257).bind fun bt260 => (if (t254 != t256) = true then (laws_FnSigns.j2 kj12 l1 t252 t253 t254 t257 t258 t259 true) else (if t253.toList = t255.toList then (if (t259 != bt260.2) = true then (laws_FnSigns.j2 kj12 l1 t252 t253 t254 t257 t258 t259 true) else (laws_FnSigns.j2 kj12 l1 t252 t253 t254 t257 t258 t259 (t258.toList != bt260.1.toList))) else (laws_FnSigns.j2 kj12 l1 t252 t253 t254 t257 t258 t259 true)))) = some r := H
                  have A33 := Aside0.mk A330
                  clear A330
                  replace H := Option.bind_eq_some_iff.mp H
                  obtain ⟨⟨t260, t261⟩, A340, H⟩ := H
                  replace H : (if (t254 != t256) = true then (laws_FnSigns.j2 kj12 l1 t252 t253 t254 t257 t258 t259 true) else (if t253.toList = t255.toList then (if (t259 != t261) = true then (laws_FnSigns.j2 kj12 l1 t252 t253 t254 t257 t258 t259 true) else (laws_FnSigns.j2 kj12 l1 t252 t253 t254 t257 t258 t259 (t258.toList != t260.toList))) else (laws_FnSigns.j2 kj12 l1 t252 t253 t254 t257 t258 t259 true))) = some r := H
                  have A34 := Aside0.mk A340
                  clear A340
                  have HC35 := Aside0.mk H
                  clear H
                  go_upto_region 21 with (first | ((with_reducible refine gate_callee (f := 59) rfl ?_); refine goesL_ (some 121) rfl rfl Tryd.func59 (by kernel_rfl) rfl #[.slice A1 l1.length c1] rfl (by (try simp only [List.map_toArray, List.map_cons, List.map_nil]); first | done | rfl | (simp only [List.length_drop, List.length_take]; rfl)) ?_; (with_reducible refine (spec_DrawOfSigns.calls kj12 _ _ l1 t252 _ ?side1 ?side2 A29.out).mono ?_); (case side1 => repeat (first | exact (Kd.C_below HR1.out HB.out) | (with_reducible refine Kd.C_alloc ?_ _) | (with_reducible refine Kd.C_drewN ?_ _) | (with_reducible refine Kd.C_drew ?_))); (case side2 => exact HC1.out); rintro e w36 ⟨rfl, hb⟩; refine ⟨_, rfl, ?_⟩; replace HB := bS_ HB hb; (try clear hb)) | ((with_reducible refine gate_callee (f := 55) rfl ?_); refine goesL_ (some 124) rfl rfl Tryd.func55 (by kernel_rfl) rfl #[.string t252] rfl (by (try simp only [List.map_toArray, List.map_cons, List.map_nil]); first | done | rfl | (simp only [List.length_drop, List.length_take]; rfl)) ?_; (with_reducible refine (impl_OfSigns.calls kj12 t252 t253 t254 _ A30.out).mono ?_); rintro e w37 ⟨rfl, hb⟩; refine ⟨_, rfl, ?_⟩; replace HB := bS_ HB hb; (try clear hb)) | ((with_reducible refine gate_callee (f := 60) rfl ?_); refine goesL_ (some 129) rfl rfl Tryd.func60 (by kernel_rfl) rfl #[.string t252] rfl (by (try simp only [List.map_toArray, List.map_cons, List.map_nil]); first | done | rfl | (simp only [List.length_drop, List.length_take]; rfl)) ?_; (with_reducible refine (spec_OfSigns.calls kj12 t252 t255 t256 _ A31.out).mono ?_); rintro e w38 ⟨rfl, hb⟩; refine ⟨_, rfl, ?_⟩; replace HB := bS_ HB hb; (try clear hb)) | ((with_reducible refine gate_callee (f := 61) rfl ?_); refine goesL_ (some 133) rfl rfl Tryd.func61 (by kernel_rfl) rfl #[.slice A1 l1.length c1] rfl (by (try simp only [List.map_toArray, List.map_cons, List.map_nil]); first | done | rfl | (simp only [List.length_drop, List.length_take]; rfl)) ?_; (with_reducible refine (spec_DrawOfHex.calls kj12 _ _ l1 t257 _ ?side1 ?side2 A32.out).mono ?_); (case side1 => repeat (first | exact (Kd.C_below HR1.out HB.out) | (with_reducible refine Kd.C_alloc ?_ _) | (with_reducible refine Kd.C_drewN ?_ _) | (with_reducible refine Kd.C_drew ?_))); (case side2 => exact HC1.out); rintro e w39 ⟨rfl, hb⟩; refine ⟨_, rfl, ?_⟩; replace HB := bS_ HB hb; (try clear hb)) | ((with_reducible refine gate_callee (f := 58) rfl ?_); refine goesL_ (some 136) rfl rfl Tryd.func58 (by kernel_rfl) rfl #[.string t257] rfl (by (try simp only [List.map_toArray, List.map_cons, List.map_nil]); first | done | rfl | (simp only [List.length_drop, List.length_take]; rfl)) ?_; (with_reducible refine (impl_OfHex.calls kj12 t257 t258 t259 _ ?side1 A33.out).mono ?_); (case side1 => exact Go.Proofs.YtgoedenbekedbaaDoor.TabsS.Tabs0.of_below TB.out (bU_ HB)); rintro e w40 ⟨rfl, hb⟩; refine ⟨_, rfl, ?_⟩; replace HB := bS_ HB hb; (try clear hb)) | ((with_reducible refine gate_callee (f := 62) rfl ?_); refine goesL_ (some 141) rfl rfl Tryd.func62 (by kernel_rfl) rfl #[.string t257] rfl (by (try simp only [List.map_toArray, List.map_cons, List.map_nil]); first | done | rfl | (simp only [List.length_drop, List.length_take]; rfl)) ?_; (with_reducible refine (spec_OfHex.calls kj12 t257 t260 t261 _ A34.out).mono ?_); rintro e w41 ⟨rfl, hb⟩; refine ⟨_, rfl, ?_⟩; replace HB := bS_ HB hb; (try clear hb)))
                  (try simp only [Act.put, List.setIfInBounds_toArray, List.set_cons_zero, List.set_cons_succ])
                  go_cut [161] (fun v161 wc => ∃ (kq : Nat) (x161_34 : Bool), v161 = .bool x161_34 ∧ Aside0 (laws_FnSigns.j2 kq l1 t252 t253 t254 t257 t258 t259 x161_34 = some r) ∧ Aside0 (kq ≤ kj12) ∧ Aside0 (Below w.heap.size w wc))
                  case first =>
                    as_aux_lemma =>
                      have H := HC35.out
                      clear HC35
                      by_cases c42 : (t254 != t256) = true
                      · rw [if_pos c42] at H
                        have c42b0 : (t254 != t256) = true := c42
                        (try (have c42b1 : decide (t254 = t256) = false := by simpa using c42))
                        (try (have c42b2 : (t254 == t256) = false := by simpa using c42))
                        (try (have c42b3 : ¬ (t254 = t256) := by simpa using c42))
                        clear c42
                        (first | rw [c42b0] | (simp only [i64_w, i32_w]; rw [c42b0]) | skip)
                        exfalso
                        cases kj12 with
                        | zero => exact absurd H (by simp [laws_FnSigns.j2])
                        | succ kz_ => rw [laws_FnSigns.j2, if_pos rfl] at H; exact absurd ((Option.some.inj H).trans HR_.out) (by decide)
                      · rw [if_neg c42] at H
                        have c42b0 : (t254 != t256) = false := by simpa using c42
                        (try (have c42b1 : decide (t254 = t256) = true := by simpa using c42))
                        (try (have c42b2 : (t254 == t256) = true := by simpa using c42))
                        clear c42
                        (first | rw [c42b0] | (simp only [i64_w, i32_w]; rw [c42b0]) | skip)
                        by_cases c43 : t253.toList = t255.toList
                        · rw [if_pos c43] at H
                          have c43b0 : (t253.toList == t255.toList) = true := beq_iff_eq.mpr c43
                          have c43b1 : (t253.toList != t255.toList) = false := bne_eq_false_iff_eq.mpr c43
                          clear c43
                          by_cases c44 : (t259 != t261) = true
                          · rw [if_pos c44] at H
                            have c44b0 : (t259 != t261) = true := c44
                            (try (have c44b1 : decide (t259 = t261) = false := by simpa using c44))
                            (try (have c44b2 : (t259 == t261) = false := by simpa using c44))
                            (try (have c44b3 : ¬ (t259 = t261) := by simpa using c44))
                            clear c44
                            exfalso
                            cases kj12 with
                            | zero => exact absurd H (by simp [laws_FnSigns.j2])
                            | succ kz_ => rw [laws_FnSigns.j2, if_pos rfl] at H; exact absurd ((Option.some.inj H).trans HR_.out) (by decide)
                          · rw [if_neg c44] at H
                            have c44b0 : (t259 != t261) = false := by simpa using c44
                            (try (have c44b1 : decide (t259 = t261) = true := by simpa using c44))
                            (try (have c44b2 : (t259 == t261) = true := by simpa using c44))
                            clear c44
                            as_aux_lemma =>
                              have H' := Aside0.mk H
                              clear H
                              go_wp2
                              all_goals (try exact absurd ‹some undef = some (Value.bool _)› (by simp [undef]))
                              go_meet
                              case rel => exact ⟨_, ((t258.toList != t260.toList)), (by first | rfl | (simp; done) | (simp [*]; done)), H', ⟨by have := HJ6.out; have := HJ12.out; first | omega | exact Nat.le_refl _⟩, ⟨by repeat (first | (with_reducible first | exact HB.out | apply below_alloc | apply pw_below_drewN | apply below_drew1) | exact HB.out)⟩⟩
                        · rw [if_neg c43] at H
                          have c43b0 : (t253.toList == t255.toList) = false := beq_eq_false_iff_ne.mpr c43
                          have c43b1 : (t253.toList != t255.toList) = true := bne_iff_ne.mpr c43
                          exfalso
                          cases kj12 with
                          | zero => exact absurd H (by simp [laws_FnSigns.j2])
                          | succ kz_ => rw [laws_FnSigns.j2, if_pos rfl] at H; exact absurd ((Option.some.inj H).trans HR_.out) (by decide)
                  case rest =>
                    as_aux_lemma =>
                      clear HC35
                      try clear c1
                      try clear c2
                      try clear p2
                      try clear c3
                      try clear c3b0
                      try clear c4
                      try clear c5
                      try clear c6
                      try clear p6
                      try clear c8
                      try clear c11
                      try clear c11b0
                      try clear c11b1
                      try clear c11b2
                      try clear c12
                      try clear c14
                      try clear c19
                      try clear c20
                      try clear c20b0
                      try clear c20b1
                      try clear c21
                      try clear c22
                      try clear c22b0
                      try clear c22b1
                      try clear c23
                      try clear c24
                      try clear c25
                      try clear c25b0
                      try clear c25b1
                      try clear c42
                      try clear c42b0
                      try clear c42b1
                      try clear c42b2
                      try clear c43
                      try clear c43b0
                      try clear c43b1
                      try clear c44
                      try clear c44b0
                      try clear c44b1
                      try clear c44b2
                      try clear p2
                      try clear p6
                      obtain ⟨kq, x161_34, rfl, HA, HJ34, HB⟩ := hcut
                      cases kq with
                      | zero => exact absurd HA.out (by simp [laws_FnSigns.j2])
                      | succ kj34 =>
                        have H := HA.out
                        clear HA
                        simp only [laws_FnSigns.j2] at H
                        by_cases c45 : x161_34 = true
                        · subst c45
                          have H1 : (some false) = some r := by rw [if_pos rfl] at H; exact H
                          clear H
                          have H := H1
                          clear H1
                          exact absurd ((Option.some.inj H).trans HR_.out) (by decide)
                        · replace c45 := Bool.eq_false_iff.mpr c45
                          subst c45
                          have H1 : (if t254 = true then (laws_FnSigns.j3 kj34 l1 t252 t253 t257 t258 t259 (decide ((t253.size : Int) ≤ 600))) else (laws_FnSigns.j3 kj34 l1 t252 t253 t257 t258 t259 false)) = some r := by rw [if_neg (show ¬ (false = true) by decide)] at H; exact H
                          clear H
                          have H := H1
                          clear H1
                          have HC46 := Aside0.mk H
                          clear H
                          go_upto_region 23 with (fail)
                          go_cut [167] (fun v167 wc => ∃ (kq : Nat) (x167_45 : Bool), v167 = .bool x167_45 ∧ Aside0 (laws_FnSigns.j3 kq l1 t252 t253 t257 t258 t259 x167_45 = some r) ∧ Aside0 (kq ≤ kj34) ∧ Aside0 (Below w.heap.size w wc))
                          case first =>
                            as_aux_lemma =>
                              have H := HC46.out
                              clear HC46
                              by_cases c47 : t254 = true
                              · subst c47
                                have H1 : (laws_FnSigns.j3 kj34 l1 t252 t253 t257 t258 t259 (decide ((t253.size : Int) ≤ 600))) = some r := by rw [if_pos rfl] at H; exact H
                                clear H
                                have H := H1
                                clear H1
                                as_aux_lemma =>
                                  have H' := Aside0.mk H
                                  clear H
                                  go_wp2
                                  all_goals (try exact absurd ‹some undef = some (Value.bool _)› (by simp [undef]))
                                  go_meet
                                  case rel => exact ⟨_, (decide ((t253.size : Int) ≤ 600)), (by first | rfl | (simp; done) | (simp [*]; done)), H', ⟨by have := HJ6.out; have := HJ12.out; have := HJ34.out; first | omega | exact Nat.le_refl _⟩, ⟨by repeat (first | (with_reducible first | exact HB.out | apply below_alloc | apply pw_below_drewN | apply below_drew1) | exact HB.out)⟩⟩
                              · replace c47 := Bool.eq_false_iff.mpr c47
                                subst c47
                                have H1 : (laws_FnSigns.j3 kj34 l1 t252 t253 t257 t258 t259 false) = some r := by rw [if_neg (show ¬ (false = true) by decide)] at H; exact H
                                clear H
                                have H := H1
                                clear H1
                                as_aux_lemma =>
                                  have H' := Aside0.mk H
                                  clear H
                                  go_wp2
                                  all_goals (try exact absurd ‹some undef = some (Value.bool _)› (by simp [undef]))
                                  go_meet
                                  case rel => exact ⟨_, (false), (by first | rfl | (simp; done) | (simp [*]; done)), H', ⟨by have := HJ6.out; have := HJ12.out; have := HJ34.out; first | omega | exact Nat.le_refl _⟩, ⟨by repeat (first | (with_reducible first | exact HB.out | apply below_alloc | apply pw_below_drewN | apply below_drew1) | exact HB.out)⟩⟩
                          case rest =>
                            as_aux_lemma =>
                              clear HC46
                              try clear c1
                              try clear c2
                              try clear p2
                              try clear c3
                              try clear c3b0
                              try clear c4
                              try clear c5
                              try clear c6
                              try clear p6
                              try clear c8
                              try clear c11
                              try clear c11b0
                              try clear c11b1
                              try clear c11b2
                              try clear c12
                              try clear c14
                              try clear c19
                              try clear c20
                              try clear c20b0
                              try clear c20b1
                              try clear c21
                              try clear c22
                              try clear c22b0
                              try clear c22b1
                              try clear c23
                              try clear c24
                              try clear c25
                              try clear c25b0
                              try clear c25b1
                              try clear c42
                              try clear c42b0
                              try clear c42b1
                              try clear c42b2
                              try clear c43
                              try clear c43b0
                              try clear c43b1
                              try clear c44
                              try clear c44b0
                              try clear c44b1
                              try clear c44b2
                              try clear c45
                              try clear c47
                              try clear p2
                              try clear p6
                              obtain ⟨kq, x167_45, rfl, HA, HJ45, HB⟩ := hcut
                              cases kq with
                              | zero => exact absurd HA.out (by simp [laws_FnSigns.j3])
                              | succ kj45 =>
                                have H := HA.out
                                clear HA
                                simp only [laws_FnSigns.j3] at H
                                have HC48 := Aside0.mk H
                                clear H
                                go_upto_if 167 with (fail)
                                go_cut [] (fun wc => ∃ (kq : Nat), Aside0 (laws_FnSigns.j4 kq l1 t257 t258 t259 = some r) ∧ Aside0 (kq ≤ kj45) ∧ Aside0 (Below w.heap.size w wc))
                                case first =>
                                  as_aux_lemma =>
                                    have H := HC48.out
                                    clear HC48
                                    by_cases c49 : x167_45 = true
                                    · subst c49
                                      have H1 : ((impl_SignsOf.f t253).bind fun bt262 => (if bt262.2 = true then (if bt262.1.toList = t252.toList then (laws_FnSigns.j4 kj45 l1 t257 t258 t259) else (some false)) else (some false))) = some r := by rw [if_pos rfl] at H; exact H
                                      clear H
                                      have H := H1
                                      clear H1
                                      replace H := Option.bind_eq_some_iff.mp H
                                      obtain ⟨⟨t262, t263⟩, A500, H⟩ := H
                                      replace H : (if t263 = true then (if t262.toList = t252.toList then (laws_FnSigns.j4 kj45 l1 t257 t258 t259) else (some false)) else (some false)) = some r := H
                                      have A50 := Aside0.mk A500
                                      clear A500
                                      by_cases c51 : t263 = true
                                      · subst c51
                                        have H1 : (if t262.toList = t252.toList then (laws_FnSigns.j4 kj45 l1 t257 t258 t259) else (some false)) = some r := by rw [if_pos rfl] at H; exact H
                                        clear H
                                        have H := H1
                                        clear H1
                                        by_cases c52 : t262.toList = t252.toList
                                        · rw [if_pos c52] at H
                                          have c52b0 : (t262.toList == t252.toList) = true := beq_iff_eq.mpr c52
                                          have c52b1 : (t262.toList != t252.toList) = false := bne_eq_false_iff_eq.mpr c52
                                          clear c52
                                          (first | rw [c52b0] | (simp only [i64_w, i32_w]; rw [c52b0]) | skip)
                                          as_aux_lemma =>
                                            have H' := Aside0.mk H
                                            clear H
                                            go_wp2_with (first | ((with_reducible refine gate_callee (f := 53) rfl ?_); refine goesL_ (some 170) rfl rfl Tryd.func53 (by kernel_rfl) rfl #[.string t253] rfl (by (try simp only [List.map_toArray, List.map_cons, List.map_nil]); first | done | rfl | (simp only [List.length_drop, List.length_take]; rfl)) ?_; (with_reducible refine (impl_SignsOf.calls t253 t262 true _ A50.out).mono ?_); rintro e w53 ⟨rfl, hb⟩; refine ⟨_, rfl, ?_⟩; replace HB := bS_ HB hb; (try clear hb)))
                                            all_goals (try exact absurd ‹some undef = some (Value.bool _)› (by simp [undef]))
                                            go_meet
                                            case rel => exact ⟨_, H', ⟨by have := HJ6.out; have := HJ12.out; have := HJ34.out; have := HJ45.out; first | omega | exact Nat.le_refl _⟩, ⟨by repeat (first | (with_reducible first | exact HB.out | apply below_alloc | apply pw_below_drewN | apply below_drew1) | exact HB.out)⟩⟩
                                        · rw [if_neg c52] at H
                                          have c52b0 : (t262.toList == t252.toList) = false := beq_eq_false_iff_ne.mpr c52
                                          have c52b1 : (t262.toList != t252.toList) = true := bne_iff_ne.mpr c52
                                          (first | rw [c52b0] | (simp only [i64_w, i32_w]; rw [c52b0]) | skip)
                                          exact absurd ((Option.some.inj H).trans HR_.out) (by decide)
                                      · replace c51 := Bool.eq_false_iff.mpr c51
                                        subst c51
                                        have H1 : (some false) = some r := by rw [if_neg (show ¬ (false = true) by decide)] at H; exact H
                                        clear H
                                        have H := H1
                                        clear H1
                                        exact absurd ((Option.some.inj H).trans HR_.out) (by decide)
                                    · replace c49 := Bool.eq_false_iff.mpr c49
                                      subst c49
                                      have H1 : (laws_FnSigns.j4 kj45 l1 t257 t258 t259) = some r := by rw [if_neg (show ¬ (false = true) by decide)] at H; exact H
                                      clear H
                                      have H := H1
                                      clear H1
                                      as_aux_lemma =>
                                        have H' := Aside0.mk H
                                        clear H
                                        go_wp2
                                        all_goals (try exact absurd ‹some undef = some (Value.bool _)› (by simp [undef]))
                                        go_meet
                                        case rel => exact ⟨_, H', ⟨by have := HJ6.out; have := HJ12.out; have := HJ34.out; have := HJ45.out; first | omega | exact Nat.le_refl _⟩, ⟨by repeat (first | (with_reducible first | exact HB.out | apply below_alloc | apply pw_below_drewN | apply below_drew1) | exact HB.out)⟩⟩
                                case rest =>
                                  as_aux_lemma =>
                                    clear HC48
                                    try clear c1
                                    try clear c2
                                    try clear p2
                                    try clear c3
                                    try clear c3b0
                                    try clear c4
                                    try clear c5
                                    try clear c6
                                    try clear p6
                                    try clear c8
                                    try clear c11
                                    try clear c11b0
                                    try clear c11b1
                                    try clear c11b2
                                    try clear c12
                                    try clear c14
                                    try clear c19
                                    try clear c20
                                    try clear c20b0
                                    try clear c20b1
                                    try clear c21
                                    try clear c22
                                    try clear c22b0
                                    try clear c22b1
                                    try clear c23
                                    try clear c24
                                    try clear c25
                                    try clear c25b0
                                    try clear c25b1
                                    try clear c42
                                    try clear c42b0
                                    try clear c42b1
                                    try clear c42b2
                                    try clear c43
                                    try clear c43b0
                                    try clear c43b1
                                    try clear c44
                                    try clear c44b0
                                    try clear c44b1
                                    try clear c44b2
                                    try clear c45
                                    try clear c47
                                    try clear c49
                                    try clear c51
                                    try clear c52
                                    try clear c52b0
                                    try clear c52b1
                                    try clear c53
                                    try clear p2
                                    try clear p6
                                    obtain ⟨kq, HA, HJ47, HB⟩ := hcut
                                    cases kq with
                                    | zero => exact absurd HA.out (by simp [laws_FnSigns.j4])
                                    | succ kj47 =>
                                      have H := HA.out
                                      clear HA
                                      simp only [laws_FnSigns.j4] at H
                                      have HC54 := Aside0.mk H
                                      clear H
                                      go_upto_if 180 with (fail)
                                      go_cut [] (fun wc => ∃ (kq : Nat), Aside0 (laws_FnSigns.j5 kq l1 = some r) ∧ Aside0 (kq ≤ kj47) ∧ Aside0 (Below w.heap.size w wc))
                                      case first =>
                                        as_aux_lemma =>
                                          have H := HC54.out
                                          clear HC54
                                          by_cases c55 : t259 = true
                                          · subst c55
                                            have H1 : ((impl_HexOf.f t258).bind fun bt264 => (if bt264.2 = true then (if bt264.1.toList = t257.toList then (laws_FnSigns.j5 kj47 l1) else (some false)) else (some false))) = some r := by rw [if_pos rfl] at H; exact H
                                            clear H
                                            have H := H1
                                            clear H1
                                            replace H := Option.bind_eq_some_iff.mp H
                                            obtain ⟨⟨t264, t265⟩, A560, H⟩ := H
                                            replace H : (if t265 = true then (if t264.toList = t257.toList then (laws_FnSigns.j5 kj47 l1) else (some false)) else (some false)) = some r := H
                                            have A56 := Aside0.mk A560
                                            clear A560
                                            by_cases c57 : t265 = true
                                            · subst c57
                                              have H1 : (if t264.toList = t257.toList then (laws_FnSigns.j5 kj47 l1) else (some false)) = some r := by rw [if_pos rfl] at H; exact H
                                              clear H
                                              have H := H1
                                              clear H1
                                              by_cases c58 : t264.toList = t257.toList
                                              · rw [if_pos c58] at H
                                                have c58b0 : (t264.toList == t257.toList) = true := beq_iff_eq.mpr c58
                                                have c58b1 : (t264.toList != t257.toList) = false := bne_eq_false_iff_eq.mpr c58
                                                clear c58
                                                (first | rw [c58b0] | (simp only [i64_w, i32_w]; rw [c58b0]) | skip)
                                                as_aux_lemma =>
                                                  have H' := Aside0.mk H
                                                  clear H
                                                  go_wp2_with (first | ((with_reducible refine gate_callee (f := 57) rfl ?_); refine goesL_ (some 183) rfl rfl Tryd.func57 (by kernel_rfl) rfl #[.string t258] rfl (by (try simp only [List.map_toArray, List.map_cons, List.map_nil]); first | done | rfl | (simp only [List.length_drop, List.length_take]; rfl)) ?_; (with_reducible refine (impl_HexOf.calls t258 t264 true _ A56.out).mono ?_); rintro e w59 ⟨rfl, hb⟩; refine ⟨_, rfl, ?_⟩; replace HB := bS_ HB hb; (try clear hb)))
                                                  all_goals (try exact absurd ‹some undef = some (Value.bool _)› (by simp [undef]))
                                                  go_meet
                                                  case rel => exact ⟨_, H', ⟨by have := HJ6.out; have := HJ12.out; have := HJ34.out; have := HJ45.out; have := HJ47.out; first | omega | exact Nat.le_refl _⟩, ⟨by repeat (first | (with_reducible first | exact HB.out | apply below_alloc | apply pw_below_drewN | apply below_drew1) | exact HB.out)⟩⟩
                                              · rw [if_neg c58] at H
                                                have c58b0 : (t264.toList == t257.toList) = false := beq_eq_false_iff_ne.mpr c58
                                                have c58b1 : (t264.toList != t257.toList) = true := bne_iff_ne.mpr c58
                                                (first | rw [c58b0] | (simp only [i64_w, i32_w]; rw [c58b0]) | skip)
                                                exact absurd ((Option.some.inj H).trans HR_.out) (by decide)
                                            · replace c57 := Bool.eq_false_iff.mpr c57
                                              subst c57
                                              have H1 : (some false) = some r := by rw [if_neg (show ¬ (false = true) by decide)] at H; exact H
                                              clear H
                                              have H := H1
                                              clear H1
                                              exact absurd ((Option.some.inj H).trans HR_.out) (by decide)
                                          · replace c55 := Bool.eq_false_iff.mpr c55
                                            subst c55
                                            have H1 : (laws_FnSigns.j5 kj47 l1) = some r := by rw [if_neg (show ¬ (false = true) by decide)] at H; exact H
                                            clear H
                                            have H := H1
                                            clear H1
                                            as_aux_lemma =>
                                              have H' := Aside0.mk H
                                              clear H
                                              go_wp2
                                              all_goals (try exact absurd ‹some undef = some (Value.bool _)› (by simp [undef]))
                                              go_meet
                                              case rel => exact ⟨_, H', ⟨by have := HJ6.out; have := HJ12.out; have := HJ34.out; have := HJ45.out; have := HJ47.out; first | omega | exact Nat.le_refl _⟩, ⟨by repeat (first | (with_reducible first | exact HB.out | apply below_alloc | apply pw_below_drewN | apply below_drew1) | exact HB.out)⟩⟩
                                      case rest =>
                                        as_aux_lemma =>
                                          clear HC54
                                          try clear c1
                                          try clear c2
                                          try clear p2
                                          try clear c3
                                          try clear c3b0
                                          try clear c4
                                          try clear c5
                                          try clear c6
                                          try clear p6
                                          try clear c8
                                          try clear c11
                                          try clear c11b0
                                          try clear c11b1
                                          try clear c11b2
                                          try clear c12
                                          try clear c14
                                          try clear c19
                                          try clear c20
                                          try clear c20b0
                                          try clear c20b1
                                          try clear c21
                                          try clear c22
                                          try clear c22b0
                                          try clear c22b1
                                          try clear c23
                                          try clear c24
                                          try clear c25
                                          try clear c25b0
                                          try clear c25b1
                                          try clear c42
                                          try clear c42b0
                                          try clear c42b1
                                          try clear c42b2
                                          try clear c43
                                          try clear c43b0
                                          try clear c43b1
                                          try clear c44
                                          try clear c44b0
                                          try clear c44b1
                                          try clear c44b2
                                          try clear c45
                                          try clear c47
                                          try clear c49
                                          try clear c51
                                          try clear c52
                                          try clear c52b0
                                          try clear c52b1
                                          try clear c53
                                          try clear c55
                                          try clear c56
                                          try clear c57
                                          try clear c58
                                          try clear c58b0
                                          try clear c58b1
                                          try clear c59
                                          try clear p2
                                          try clear p6
                                          obtain ⟨kq, HA, HJ53, HB⟩ := hcut
                                          cases kq with
                                          | zero => exact absurd HA.out (by simp [laws_FnSigns.j5])
                                          | succ kj53 =>
                                            have H := HA.out
                                            clear HA
                                            simp only [laws_FnSigns.j5] at H
                                            replace H := Option.bind_eq_some_iff.mp H
                                            obtain ⟨t266, A600, H⟩ := H
                                            replace H : ((impl_SignAt.f t266).bind fun bt267 => ((spec_SignAt.f t266).bind fun bt269 => ((spec_DrawLengthAs.f l1).bind fun t271 => ((impl_LengthAs.f t271).bind fun bt272 => ((spec_LengthAs.f t271).bind fun bt274 => (if (bt267.2 == bt269.2) = true then (if bt267.1.toList = bt269.1.toList then (if (bt272.2 == bt274.2) = true then (some (bt272.1 == bt274.1)) else (some false)) else (some false)) else (some false))))))) = some r := H
                                            have A60 := Aside0.mk A600
                                            clear A600
                                            replace H := Option.bind_eq_some_iff.mp H
                                            obtain ⟨⟨t267, t268⟩, A610, H⟩ := H
                                            replace H : ((spec_SignAt.f t266).bind fun bt269 => ((spec_DrawLengthAs.f l1).bind fun t271 => ((impl_LengthAs.f t271).bind fun bt272 => ((spec_LengthAs.f t271).bind fun bt274 => (if (t268 == bt269.2) = true then (if t267.toList = bt269.1.toList then (if (bt272.2 == bt274.2) = true then (some (bt272.1 == bt274.1)) else (some false)) else (some false)) else (some false)))))) = some r := H
                                            have A61 := Aside0.mk A610
                                            clear A610
                                            replace H := Option.bind_eq_some_iff.mp H
                                            obtain ⟨⟨t269, t270⟩, A620, H⟩ := H
                                            replace H : ((spec_DrawLengthAs.f l1).bind fun t271 => ((impl_LengthAs.f t271).bind fun bt272 => ((spec_LengthAs.f t271).bind fun bt274 => (if (t268 == t270) = true then (if t267.toList = t269.toList then (if (bt272.2 == bt274.2) = true then (some (bt272.1 == bt274.1)) else (some false)) else (some false)) else (some false))))) = some r := H
                                            have A62 := Aside0.mk A620
                                            clear A620
                                            replace H := Option.bind_eq_some_iff.mp H
                                            obtain ⟨t271, A630, H⟩ := H
                                            replace H : ((impl_LengthAs.f t271).bind fun bt272 => ((spec_LengthAs.f t271).bind fun bt274 => (if (t268 == t270) = true then (if t267.toList = t269.toList then (if (bt272.2 == bt274.2) = true then (some (bt272.1 == bt274.1)) else (some false)) else (some false)) else (some false)))) = some r := H
                                            have A63 := Aside0.mk A630
                                            clear A630
                                            replace H := Option.bind_eq_some_iff.mp H
                                            obtain ⟨⟨t272, t273⟩, A640, H⟩ := H
                                            replace H : ((spec_LengthAs.f t271).bind fun bt274 => (if (t268 == t270) = true then (if t267.toList = t269.toList then (if (t273 == bt274.2) = true then (some (t272 == bt274.1)) else (some false)) else (some false)) else (some false))) = some r := H
                                            have A64 := Aside0.mk A640
                                            clear A640
                                            replace H := Option.bind_eq_some_iff.mp H
                                            obtain ⟨⟨t274, t275⟩, A650, H⟩ := H
                                            replace H : (if (t268 == t270) = true then (if t267.toList = t269.toList then (if (t273 == t275) = true then (some (t272 == t274)) else (some false)) else (some false)) else (some false)) = some r := H
                                            have A65 := Aside0.mk A650
                                            clear A650
                                            by_cases c66 : (t268 == t270) = true
                                            · rw [if_pos c66] at H
                                              have c66b0 : (t268 == t270) = true := c66
                                              (try (have c66b1 : decide (t268 = t270) = true := by simpa using c66))
                                              (try (have c66b2 : (t268 == t270) = true := by simpa using c66))
                                              clear c66
                                              by_cases c67 : t267.toList = t269.toList
                                              · rw [if_pos c67] at H
                                                have c67b0 : (t267.toList == t269.toList) = true := beq_iff_eq.mpr c67
                                                have c67b1 : (t267.toList != t269.toList) = false := bne_eq_false_iff_eq.mpr c67
                                                clear c67
                                                by_cases c68 : (t273 == t275) = true
                                                · rw [if_pos c68] at H
                                                  have c68b0 : (t273 == t275) = true := c68
                                                  (try (have c68b1 : decide (t273 = t275) = true := by simpa using c68))
                                                  (try (have c68b2 : (t273 == t275) = true := by simpa using c68))
                                                  clear c68
                                                  as_aux_lemma =>
                                                    obtain rfl := Option.some.inj H
                                                    go_wp2_with (first | ((with_reducible refine gate_callee (f := 63) rfl ?_); refine goesL_ (some 194) rfl rfl Tryd.func63 (by kernel_rfl) rfl #[.slice A1 l1.length c1] rfl (by (try simp only [List.map_toArray, List.map_cons, List.map_nil]); first | done | rfl | (simp only [List.length_drop, List.length_take]; rfl)) ?_; (with_reducible refine (spec_DrawSignAt.calls _ _ l1 t266 _ ?side1 ?side2 A60.out).mono ?_); (case side1 => repeat (first | exact (Kd.C_below HR1.out HB.out) | (with_reducible refine Kd.C_alloc ?_ _) | (with_reducible refine Kd.C_drewN ?_ _) | (with_reducible refine Kd.C_drew ?_))); (case side2 => exact HC1.out); rintro e w69 ⟨rfl, hb⟩; refine ⟨_, rfl, ?_⟩; replace HB := bS_ HB hb; (try clear hb)) | ((with_reducible refine gate_callee (f := 64) rfl ?_); refine goesL_ (some 197) rfl rfl Tryd.func64 (by kernel_rfl) rfl #[.int .i64 t266] rfl (by (try simp only [List.map_toArray, List.map_cons, List.map_nil]); first | done | rfl | (simp only [List.length_drop, List.length_take]; rfl)) ?_; (with_reducible refine (impl_SignAt.calls t266 t267 t268 _ A61.out).mono ?_); rintro e w' ⟨rfl, ⟨nd, rfl⟩⟩; refine ⟨_, rfl, ?_⟩) | ((with_reducible refine gate_callee (f := 65) rfl ?_); refine goesL_ (some 202) rfl rfl Tryd.func65 (by kernel_rfl) rfl #[.int .i64 t266] rfl (by (try simp only [List.map_toArray, List.map_cons, List.map_nil]); first | done | rfl | (simp only [List.length_drop, List.length_take]; rfl)) ?_; (with_reducible refine (spec_SignAt.calls t266 t269 t270 _ A62.out).mono ?_); rintro e w' ⟨rfl, ⟨nd, rfl⟩⟩; refine ⟨_, rfl, ?_⟩) | ((with_reducible refine gate_callee (f := 66) rfl ?_); refine goesL_ (some 206) rfl rfl Tryd.func66 (by kernel_rfl) rfl #[.slice A1 l1.length c1] rfl (by (try simp only [List.map_toArray, List.map_cons, List.map_nil]); first | done | rfl | (simp only [List.length_drop, List.length_take]; rfl)) ?_; (with_reducible refine (spec_DrawLengthAs.calls _ _ l1 t271 _ ?side1 ?side2 A63.out).mono ?_); (case side1 => repeat (first | exact (Kd.C_below HR1.out (bU_ HB)) | (with_reducible refine Kd.C_alloc ?_ _) | (with_reducible refine Kd.C_drewN ?_ _) | (with_reducible refine Kd.C_drew ?_))); (case side2 => exact HC1.out); rintro e w70 ⟨rfl, hb⟩; refine ⟨_, rfl, ?_⟩; replace HB := bS_ HB hb; (try clear hb)) | ((with_reducible refine gate_callee (f := 56) rfl ?_); refine goesL_ (some 209) rfl rfl Tryd.func56 (by kernel_rfl) rfl #[.int .i64 t271] rfl (by (try simp only [List.map_toArray, List.map_cons, List.map_nil]); first | done | rfl | (simp only [List.length_drop, List.length_take]; rfl)) ?_; (with_reducible refine (impl_LengthAs.calls t271 t272 t273 _ A64.out).mono ?_); rintro e w' ⟨rfl, ⟨nd, rfl⟩⟩; refine ⟨_, rfl, ?_⟩) | ((with_reducible refine gate_callee (f := 67) rfl ?_); refine goesL_ (some 214) rfl rfl Tryd.func67 (by kernel_rfl) rfl #[.int .i64 t271] rfl (by (try simp only [List.map_toArray, List.map_cons, List.map_nil]); first | done | rfl | (simp only [List.length_drop, List.length_take]; rfl)) ?_; (with_reducible refine (spec_LengthAs.calls t271 t274 t275 _ A65.out).mono ?_); rintro e w' ⟨rfl, ⟨nd, rfl⟩⟩; refine ⟨_, rfl, ?_⟩))
                                                    all_goals (try exact absurd ‹some undef = some (Value.bool _)› (by simp [undef]))
                                                    go_ret
                                                    exact ⟨by first | rfl | (simp [errW_none, errW_some] <;> rfl) | (simp [*, errW_none, errW_some] <;> rfl), by repeat (first | (with_reducible first | exact HB.out | apply below_alloc | apply pw_below_drewN | apply below_drew1) | exact HB.out)⟩
                                                · rw [if_neg c68] at H
                                                  have c68b0 : (t273 == t275) = false := by simpa using c68
                                                  (try (have c68b1 : decide (t273 = t275) = false := by simpa using c68))
                                                  (try (have c68b2 : (t273 == t275) = false := by simpa using c68))
                                                  (try (have c68b3 : ¬ (t273 = t275) := by simpa using c68))
                                                  clear c68
                                                  exact absurd ((Option.some.inj H).trans HR_.out) (by decide)
                                              · rw [if_neg c67] at H
                                                have c67b0 : (t267.toList == t269.toList) = false := beq_eq_false_iff_ne.mpr c67
                                                have c67b1 : (t267.toList != t269.toList) = true := bne_iff_ne.mpr c67
                                                exact absurd ((Option.some.inj H).trans HR_.out) (by decide)
                                            · rw [if_neg c66] at H
                                              have c66b0 : (t268 == t270) = false := by simpa using c66
                                              (try (have c66b1 : decide (t268 = t270) = false := by simpa using c66))
                                              (try (have c66b2 : (t268 == t270) = false := by simpa using c66))
                                              (try (have c66b3 : ¬ (t268 = t270) := by simpa using c66))
                                              clear c66
                                              exact absurd ((Option.some.inj H).trans HR_.out) (by decide)

/-- THE ONE PURE STATEMENT of laws_FnSigns: yours. -/
def laws_FnSigns.Pure : Prop := ∀ (l0 : List Int) (l1 : List Int), l0.length ≤ maxLen → l0.length * 1 ≤ 140737488351232 → (∀ x ∈ l0, (Lit.int .u8 x).wf = true) → l1.length ≤ maxLen → l1.length * 1 ≤ 140737488351232 → (∀ x ∈ l1, (Lit.int .u8 x).wf = true) → ∃ k, laws_FnSigns.f k l0 l1 = some true
theorem laws_FnSigns.walk (P : laws_FnSigns.Pure) (a0 : Option Addr) (len0 cap0 : Nat) (z0 : List Int) (a1 : Option Addr) (len1 cap1 : Nat) (z1 : List Int) (w : World) (tb : Go.Proofs.YtgoedenbekedbaaDoor.TabsS.Tabs0 w) (w0 : (a0 = none ∧ len0 = 0 ∧ cap0 = 0 ∧ z0 = []) ∨ ∃ x, a0 = some x ∧ len0 ≤ cap0 ∧ cap0 ≤ maxLen ∧ z0.length = cap0 ∧ (∀ i, i < z0.length → w.cell? (x.add i) = some (.int .u8 (z0.getD i 0))) ∧ ∀ n ∈ z0, (Lit.int .u8 n).wf = true) (y0 : len0 * 1 ≤ 140737488351232) (w1 : (a1 = none ∧ len1 = 0 ∧ cap1 = 0 ∧ z1 = []) ∨ ∃ x, a1 = some x ∧ len1 ≤ cap1 ∧ cap1 ≤ maxLen ∧ z1.length = cap1 ∧ (∀ i, i < z1.length → w.cell? (x.add i) = some (.int .u8 (z1.getD i 0))) ∧ ∀ n ∈ z1, (Lit.int .u8 n).wf = true) (y1 : len1 * 1 ≤ 140737488351232) :
    Calls Tryd.prog 8 #[.slice a0 len0 cap0, .slice a1 len1 cap1] w fun e w' => e = .returned (.bool true) ∧ Below w.heap.size w w' := by
  obtain ⟨l0, rfl, hr0, hm0, hw0, hc0⟩ := ReadsInt.ofRowC w0
  obtain ⟨l1, rfl, hr1, hm1, hw1, hc1⟩ := ReadsInt.ofRowC w1
  obtain ⟨k, h⟩ := P l0 l1 hm0 y0 hw0 hm1 y1 hw1
  refine (laws_FnSigns.calls k _ _ l0 _ _ l1 true w tb rfl (Kd.C_of_reads (d := (0 : Int)) (h1 := fun _ => rfl) hr0) hc0 (Kd.C_of_reads (d := (0 : Int)) (h1 := fun _ => rfl) hr1) hc1 h).mono ?_
  rintro e w' ⟨rfl, hd⟩
  exact ⟨rfl, hd⟩

end
end Go.Proofs.YtgoedenbekedbaaDoor.PFnSigns
