-- Printed for this claim by a changed copy of the kit's printing program (wip/tools/patch_print.py); Lean checks it.
import Derived.Test.YtgoedenbekedbaaDoorPFnPairsx0
import Derived.Test.YtgoedenbekedbaaDoorPFnPairsx1
import Derived.Test.YtgoedenbekedbaaDoorPFnPairsx2
import Derived.Test.YtgoedenbekedbaaDoorPFnPairsx3
import Derived.Test.YtgoedenbekedbaaDoorPFnPairsx4
import Derived.Test.YtgoedenbekedbaaDoorPFnPairsx5
import Derived.Test.YtgoedenbekedbaaDoorPFnPairsx7
namespace Go.Proofs.YtgoedenbekedbaaDoor.PFnPairs
open Go.RowKit Go.Proofs.YtgoedenbekedbaaDoorW.PrintWords Go.Proofs.YtgoedenbekedbaaDoorW.PrintLast Go.Proofs.YtgoedenbekedbaaDoorW.PrintMore
attribute [local go_sem] max2_int min2_int max_two min_two max_three min_three max_four min_four   -- for this text's walks alone
set_option linter.unusedVariables false
set_option linter.unusedSimpArgs false

noncomputable section

theorem bU_ {w W V : World} (h : Aside0 (Below w.heap.size w W)) (e : V.os = W.os ∧ V.tape = W.tape ∧ V.output = W.output ∧ V.heap = W.heap := by exact ⟨rfl, rfl, rfl, rfl⟩) : Below w.heap.size w V :=
  ⟨by rw [e.1]; exact h.out.os, by rw [e.2.1]; exact h.out.tape, by rw [e.2.2.1]; exact h.out.output, by rw [e.2.2.2]; exact h.out.size, fun i hi => by rw [e.2.2.2]; exact h.out.block i hi⟩
theorem bS_ {w W V w1 : World} (h : Aside0 (Below w.heap.size w W)) (hb : Below V.heap.size V w1) (e : V.os = W.os ∧ V.tape = W.tape ∧ V.output = W.output ∧ V.heap = W.heap := by exact ⟨rfl, rfl, rfl, rfl⟩) : Aside0 (Below w.heap.size w w1) :=
  ⟨below_step (bU_ h e) hb⟩
/-! ### laws_FnPairs: function 7 -/
mutual
def laws_FnPairs.j0 : Nat → List Int → List Int → List Int → Bool → Bool → Option (Bool)
  | 0, _, _, _, _, _ => none
  | k + 1, x1, x5, x6, x7, x53 => if x53 = true then (some false) else (if x7 = true then ((impl_OfPairs.f k x6).bind fun bt384 => (if bt384.2 = true then ((laws_sameInts.f k bt384.1 x5).bind fun t388 => (if t388 = true then (if (x6.length : Int) < (x5.length : Int) then (some false) else (laws_FnPairs.j1 k x1)) else (some false))) else (some false))) else (laws_FnPairs.j1 k x1))
def laws_FnPairs.j1 : Nat → List Int → Option (Bool)
  | 0, _ => none
  | k + 1, x1 => (spec_DrawOfPairs.f k x1).bind fun t389 => ((impl_OfPairs.f k t389).bind fun bt392 => ((spec_OfPairs.f k t389).bind fun bt396 => (if (bt392.2 != bt396.2) = true then (laws_FnPairs.j2 k x1 t389 bt392.1 bt392.2 true) else ((laws_sameInts.f k bt392.1 bt396.1).bind fun t400 => (laws_FnPairs.j2 k x1 t389 bt392.1 bt392.2 (!t400))))))
def laws_FnPairs.j2 : Nat → List Int → List Int → List Int → Bool → Bool → Option (Bool)
  | 0, _, _, _, _, _ => none
  | k + 1, x1, x12, x13, x14, x95 => if x95 = true then (some false) else (if x14 = true then ((impl_PairsOf.f k x13).bind fun bt401 => (if bt401.2 = true then ((laws_sameInts.f k bt401.1 x12).bind fun t405 => (if t405 = true then (laws_FnPairs.j3 k x1) else (some false))) else (some false))) else (laws_FnPairs.j3 k x1))
def laws_FnPairs.j3 : Nat → List Int → Option (Bool)
  | 0, _ => none
  | k + 1, x1 => (spec_DrawLessPairs.f k x1).bind fun bt406 => ((impl_LessPairs.f k bt406.1 bt406.2).bind fun bt408 => ((spec_LessPairs.f k bt406.1 bt406.2).bind fun bt410 => (if (bt408.2 != bt410.2) = true then (laws_FnPairs.j4 k bt406.1 bt406.2 bt408.1 bt408.2 true) else (laws_FnPairs.j4 k bt406.1 bt406.2 bt408.1 bt408.2 (bt408.1 != bt410.1)))))
def laws_FnPairs.j4 : Nat → ByteArray → ByteArray → Bool → Bool → Bool → Option (Bool)
  | 0, _, _, _, _, _ => none
  | k + 1, x19, x20, x21, x22, x134 => if x134 = true then (some false) else (if x22 = true then ((impl_LessPairs.f k x20 x19).bind fun bt412 => (if bt412.2 = true then (if x21 = true then (if bt412.1 = true then (some false) else (some true)) else (if bt412.1 = true then (some true) else (some (x19.toList == x20.toList)))) else (some false))) else (some true))
end
def laws_FnPairs.f (k : Nat) (l0 : List Int) (l1 : List Int) : Option (Bool) := if (wrap64 ((l0.length : Int) + (l1.length : Int))) > 1048576 then (some true) else ((spec_DrawPairsOf.f k l0).bind fun t372 => ((impl_PairsOf.f k t372).bind fun bt375 => ((spec_PairsOf.f k t372).bind fun bt379 => (if (bt375.2 != bt379.2) = true then (laws_FnPairs.j0 k l1 t372 bt375.1 bt375.2 true) else ((laws_sameInts.f k bt375.1 bt379.1).bind fun t383 => (laws_FnPairs.j0 k l1 t372 bt375.1 bt375.2 (!t383)))))))
theorem laws_FnPairs.mono_l : ∀ k, (∀ y0 y1 y2 y3 y4, LeO (laws_FnPairs.j0 k y0 y1 y2 y3 y4) (laws_FnPairs.j0 (k + 1) y0 y1 y2 y3 y4)) ∧ (∀ y0, LeO (laws_FnPairs.j1 k y0) (laws_FnPairs.j1 (k + 1) y0)) ∧ (∀ y0 y1 y2 y3 y4, LeO (laws_FnPairs.j2 k y0 y1 y2 y3 y4) (laws_FnPairs.j2 (k + 1) y0 y1 y2 y3 y4)) ∧ (∀ y0, LeO (laws_FnPairs.j3 k y0) (laws_FnPairs.j3 (k + 1) y0)) ∧ (∀ y0 y1 y2 y3 y4, LeO (laws_FnPairs.j4 k y0 y1 y2 y3 y4) (laws_FnPairs.j4 (k + 1) y0 y1 y2 y3 y4))
  | 0 => ⟨fun _ _ _ _ _ r h => by simp [laws_FnPairs.j0] at h, fun _ r h => by simp [laws_FnPairs.j1] at h, fun _ _ _ _ _ r h => by simp [laws_FnPairs.j2] at h, fun _ r h => by simp [laws_FnPairs.j3] at h, fun _ _ _ _ _ r h => by simp [laws_FnPairs.j4] at h⟩
  | k + 1 => by
    obtain ⟨ih0, ih1, ih2, ih3, ih4⟩ := laws_FnPairs.mono_l k
    refine ⟨?_, ?_, ?_, ?_, ?_⟩
    · intro y0 y1 y2 y3 y4
      unfold laws_FnPairs.j0
      repeat' first
      | (with_reducible exact ih0 _ _ _ _ _)
      | (with_reducible exact ih1 _)
      | (with_reducible exact ih2 _ _ _ _ _)
      | (with_reducible exact ih3 _)
      | (with_reducible exact ih4 _ _ _ _ _)
      | (with_reducible exact impl_LessPairs.mono _ _ _)
      | (with_reducible exact impl_OfPairs.mono _ _)
      | (with_reducible exact impl_PairsOf.mono _ _)
      | (with_reducible exact laws_sameInts.mono _ _ _)
      | (with_reducible exact spec_DrawLessPairs.mono _ _)
      | (with_reducible exact spec_DrawOfPairs.mono _ _)
      | (with_reducible exact spec_DrawPairsOf.mono _ _)
      | (with_reducible exact spec_LessPairs.mono _ _ _)
      | (with_reducible exact spec_OfPairs.mono _ _)
      | (with_reducible exact spec_PairsOf.mono _ _)
      | (with_reducible exact LeO.refl _)
      | (with_reducible exact LeO.none _)
      | (with_reducible refine LeO.ite ?_ ?_)
      | (with_reducible refine LeO.bind ?_ (fun _ => ?_))
      | exact ih0 _ _ _ _ _
      | exact ih1 _
      | exact ih2 _ _ _ _ _
      | exact ih3 _
      | exact ih4 _ _ _ _ _
      | exact impl_LessPairs.mono _ _ _
      | exact impl_OfPairs.mono _ _
      | exact impl_PairsOf.mono _ _
      | exact laws_sameInts.mono _ _ _
      | exact spec_DrawLessPairs.mono _ _
      | exact spec_DrawOfPairs.mono _ _
      | exact spec_DrawPairsOf.mono _ _
      | exact spec_LessPairs.mono _ _ _
      | exact spec_OfPairs.mono _ _
      | exact spec_PairsOf.mono _ _
      | exact LeO.none _
      | refine LeO.ite ?_ ?_
      | refine LeO.bind ?_ (fun _ => ?_)
    · intro y0
      unfold laws_FnPairs.j1
      repeat' first
      | (with_reducible exact ih0 _ _ _ _ _)
      | (with_reducible exact ih1 _)
      | (with_reducible exact ih2 _ _ _ _ _)
      | (with_reducible exact ih3 _)
      | (with_reducible exact ih4 _ _ _ _ _)
      | (with_reducible exact impl_LessPairs.mono _ _ _)
      | (with_reducible exact impl_OfPairs.mono _ _)
      | (with_reducible exact impl_PairsOf.mono _ _)
      | (with_reducible exact laws_sameInts.mono _ _ _)
      | (with_reducible exact spec_DrawLessPairs.mono _ _)
      | (with_reducible exact spec_DrawOfPairs.mono _ _)
      | (with_reducible exact spec_DrawPairsOf.mono _ _)
      | (with_reducible exact spec_LessPairs.mono _ _ _)
      | (with_reducible exact spec_OfPairs.mono _ _)
      | (with_reducible exact spec_PairsOf.mono _ _)
      | (with_reducible exact LeO.refl _)
      | (with_reducible exact LeO.none _)
      | (with_reducible refine LeO.ite ?_ ?_)
      | (with_reducible refine LeO.bind ?_ (fun _ => ?_))
      | exact ih0 _ _ _ _ _
      | exact ih1 _
      | exact ih2 _ _ _ _ _
      | exact ih3 _
      | exact ih4 _ _ _ _ _
      | exact impl_LessPairs.mono _ _ _
      | exact impl_OfPairs.mono _ _
      | exact impl_PairsOf.mono _ _
      | exact laws_sameInts.mono _ _ _
      | exact spec_DrawLessPairs.mono _ _
      | exact spec_DrawOfPairs.mono _ _
      | exact spec_DrawPairsOf.mono _ _
      | exact spec_LessPairs.mono _ _ _
      | exact spec_OfPairs.mono _ _
      | exact spec_PairsOf.mono _ _
      | exact LeO.none _
      | refine LeO.ite ?_ ?_
      | refine LeO.bind ?_ (fun _ => ?_)
    · intro y0 y1 y2 y3 y4
      unfold laws_FnPairs.j2
      repeat' first
      | (with_reducible exact ih0 _ _ _ _ _)
      | (with_reducible exact ih1 _)
      | (with_reducible exact ih2 _ _ _ _ _)
      | (with_reducible exact ih3 _)
      | (with_reducible exact ih4 _ _ _ _ _)
      | (with_reducible exact impl_LessPairs.mono _ _ _)
      | (with_reducible exact impl_OfPairs.mono _ _)
      | (with_reducible exact impl_PairsOf.mono _ _)
      | (with_reducible exact laws_sameInts.mono _ _ _)
      | (with_reducible exact spec_DrawLessPairs.mono _ _)
      | (with_reducible exact spec_DrawOfPairs.mono _ _)
      | (with_reducible exact spec_DrawPairsOf.mono _ _)
      | (with_reducible exact spec_LessPairs.mono _ _ _)
      | (with_reducible exact spec_OfPairs.mono _ _)
      | (with_reducible exact spec_PairsOf.mono _ _)
      | (with_reducible exact LeO.refl _)
      | (with_reducible exact LeO.none _)
      | (with_reducible refine LeO.ite ?_ ?_)
      | (with_reducible refine LeO.bind ?_ (fun _ => ?_))
      | exact ih0 _ _ _ _ _
      | exact ih1 _
      | exact ih2 _ _ _ _ _
      | exact ih3 _
      | exact ih4 _ _ _ _ _
      | exact impl_LessPairs.mono _ _ _
      | exact impl_OfPairs.mono _ _
      | exact impl_PairsOf.mono _ _
      | exact laws_sameInts.mono _ _ _
      | exact spec_DrawLessPairs.mono _ _
      | exact spec_DrawOfPairs.mono _ _
      | exact spec_DrawPairsOf.mono _ _
      | exact spec_LessPairs.mono _ _ _
      | exact spec_OfPairs.mono _ _
      | exact spec_PairsOf.mono _ _
      | exact LeO.none _
      | refine LeO.ite ?_ ?_
      | refine LeO.bind ?_ (fun _ => ?_)
    · intro y0
      unfold laws_FnPairs.j3
      repeat' first
      | (with_reducible exact ih0 _ _ _ _ _)
      | (with_reducible exact ih1 _)
      | (with_reducible exact ih2 _ _ _ _ _)
      | (with_reducible exact ih3 _)
      | (with_reducible exact ih4 _ _ _ _ _)
      | (with_reducible exact impl_LessPairs.mono _ _ _)
      | (with_reducible exact impl_OfPairs.mono _ _)
      | (with_reducible exact impl_PairsOf.mono _ _)
      | (with_reducible exact laws_sameInts.mono _ _ _)
      | (with_reducible exact spec_DrawLessPairs.mono _ _)
      | (with_reducible exact spec_DrawOfPairs.mono _ _)
      | (with_reducible exact spec_DrawPairsOf.mono _ _)
      | (with_reducible exact spec_LessPairs.mono _ _ _)
      | (with_reducible exact spec_OfPairs.mono _ _)
      | (with_reducible exact spec_PairsOf.mono _ _)
      | (with_reducible exact LeO.refl _)
      | (with_reducible exact LeO.none _)
      | (with_reducible refine LeO.ite ?_ ?_)
      | (with_reducible refine LeO.bind ?_ (fun _ => ?_))
      | exact ih0 _ _ _ _ _
      | exact ih1 _
      | exact ih2 _ _ _ _ _
      | exact ih3 _
      | exact ih4 _ _ _ _ _
      | exact impl_LessPairs.mono _ _ _
      | exact impl_OfPairs.mono _ _
      | exact impl_PairsOf.mono _ _
      | exact laws_sameInts.mono _ _ _
      | exact spec_DrawLessPairs.mono _ _
      | exact spec_DrawOfPairs.mono _ _
      | exact spec_DrawPairsOf.mono _ _
      | exact spec_LessPairs.mono _ _ _
      | exact spec_OfPairs.mono _ _
      | exact spec_PairsOf.mono _ _
      | exact LeO.none _
      | refine LeO.ite ?_ ?_
      | refine LeO.bind ?_ (fun _ => ?_)
    · intro y0 y1 y2 y3 y4
      unfold laws_FnPairs.j4
      repeat' first
      | (with_reducible exact ih0 _ _ _ _ _)
      | (with_reducible exact ih1 _)
      | (with_reducible exact ih2 _ _ _ _ _)
      | (with_reducible exact ih3 _)
      | (with_reducible exact ih4 _ _ _ _ _)
      | (with_reducible exact impl_LessPairs.mono _ _ _)
      | (with_reducible exact impl_OfPairs.mono _ _)
      | (with_reducible exact impl_PairsOf.mono _ _)
      | (with_reducible exact laws_sameInts.mono _ _ _)
      | (with_reducible exact spec_DrawLessPairs.mono _ _)
      | (with_reducible exact spec_DrawOfPairs.mono _ _)
      | (with_reducible exact spec_DrawPairsOf.mono _ _)
      | (with_reducible exact spec_LessPairs.mono _ _ _)
      | (with_reducible exact spec_OfPairs.mono _ _)
      | (with_reducible exact spec_PairsOf.mono _ _)
      | (with_reducible exact LeO.refl _)
      | (with_reducible exact LeO.none _)
      | (with_reducible refine LeO.ite ?_ ?_)
      | (with_reducible refine LeO.bind ?_ (fun _ => ?_))
      | exact ih0 _ _ _ _ _
      | exact ih1 _
      | exact ih2 _ _ _ _ _
      | exact ih3 _
      | exact ih4 _ _ _ _ _
      | exact impl_LessPairs.mono _ _ _
      | exact impl_OfPairs.mono _ _
      | exact impl_PairsOf.mono _ _
      | exact laws_sameInts.mono _ _ _
      | exact spec_DrawLessPairs.mono _ _
      | exact spec_DrawOfPairs.mono _ _
      | exact spec_DrawPairsOf.mono _ _
      | exact spec_LessPairs.mono _ _ _
      | exact spec_OfPairs.mono _ _
      | exact spec_PairsOf.mono _ _
      | exact LeO.none _
      | refine LeO.ite ?_ ?_
      | refine LeO.bind ?_ (fun _ => ?_)
theorem laws_FnPairs.mono : ∀ a0 a1 k, LeO (laws_FnPairs.f k a0 a1) (laws_FnPairs.f (k + 1) a0 a1) := by
  intro a0 a1 k
  obtain ⟨ih0, ih1, ih2, ih3, ih4⟩ := laws_FnPairs.mono_l k
  unfold laws_FnPairs.f
  repeat' first
      | (with_reducible exact ih0 _ _ _ _ _)
      | (with_reducible exact ih1 _)
      | (with_reducible exact ih2 _ _ _ _ _)
      | (with_reducible exact ih3 _)
      | (with_reducible exact ih4 _ _ _ _ _)
      | (with_reducible exact impl_LessPairs.mono _ _ _)
      | (with_reducible exact impl_OfPairs.mono _ _)
      | (with_reducible exact impl_PairsOf.mono _ _)
      | (with_reducible exact laws_sameInts.mono _ _ _)
      | (with_reducible exact spec_DrawLessPairs.mono _ _)
      | (with_reducible exact spec_DrawOfPairs.mono _ _)
      | (with_reducible exact spec_DrawPairsOf.mono _ _)
      | (with_reducible exact spec_LessPairs.mono _ _ _)
      | (with_reducible exact spec_OfPairs.mono _ _)
      | (with_reducible exact spec_PairsOf.mono _ _)
      | (with_reducible exact LeO.refl _)
      | (with_reducible exact LeO.none _)
      | (with_reducible refine LeO.ite ?_ ?_)
      | (with_reducible refine LeO.bind ?_ (fun _ => ?_))
      | exact ih0 _ _ _ _ _
      | exact ih1 _
      | exact ih2 _ _ _ _ _
      | exact ih3 _
      | exact ih4 _ _ _ _ _
      | exact impl_LessPairs.mono _ _ _
      | exact impl_OfPairs.mono _ _
      | exact impl_PairsOf.mono _ _
      | exact laws_sameInts.mono _ _ _
      | exact spec_DrawLessPairs.mono _ _
      | exact spec_DrawOfPairs.mono _ _
      | exact spec_DrawPairsOf.mono _ _
      | exact spec_LessPairs.mono _ _ _
      | exact spec_OfPairs.mono _ _
      | exact spec_PairsOf.mono _ _
      | exact LeO.none _
      | refine LeO.ite ?_ ?_
      | refine LeO.bind ?_ (fun _ => ?_)
set_option maxHeartbeats 8000000 in
set_option maxRecDepth 100000 in
theorem laws_FnPairs.calls (k : Nat) (A0 : Option Addr) (c0 : Nat) (l0 : List Int) (A1 : Option Addr) (c1 : Nat) (l1 : List Int) (r : Bool) (w : World) (tb : Go.Proofs.YtgoedenbekedbaaDoor.TabsU.Tabs0 w) (hr_ : r = true) (hr0 : Kd.C (Kd.int .u8) w A0 l0.length l0) (hc0 : l0.length ≤ c0) (hr1 : Kd.C (Kd.int .u8) w A1 l1.length l1) (hc1 : l1.length ≤ c1) (h : laws_FnPairs.f k l0 l1 = some r) :
    Calls Tryd.prog 7 #[.slice A0 l0.length c0, .slice A1 l1.length c1] w fun e w' => e = .returned (.bool r) ∧ Below w.heap.size w w' := by
  have HR_ := Aside0.mk hr_
  clear hr_
  have TB := Aside0.mk tb
  clear tb
  have HR0 := Aside0.mk hr0
  have HC0 := Aside0.mk hc0
  clear hr0 hc0
  have HR1 := Aside0.mk hr1
  have HC1 := Aside0.mk hc1
  clear hr1 hc1
  have HB := Aside0.mk (Below.refl w.heap.size w)
  have H : (if (wrap64 ((l0.length : Int) + (l1.length : Int))) > 1048576 then (some true) else ((spec_DrawPairsOf.f k l0).bind fun t372 => ((impl_PairsOf.f k t372).bind fun bt375 => ((spec_PairsOf.f k t372).bind fun bt379 => (if (bt375.2 != bt379.2) = true then (laws_FnPairs.j0 k l1 t372 bt375.1 bt375.2 true) else ((laws_sameInts.f k bt375.1 bt379.1).bind fun t383 => (laws_FnPairs.j0 k l1 t372 bt375.1 bt375.2 (!t383)))))))) = some r := h
  clear h
  by_cases c3 : (wrap64 ((l0.length : Int) + (l1.length : Int))) > 1048576
  · rw [if_pos c3] at H
    have c3b0 : decide (1048576 < (wrap64 ((l0.length : Int) + (l1.length : Int)))) = true := decide_eq_true c3
    clear c3
    as_aux_lemma =>
      obtain rfl := Option.some.inj H
      go_enter Tryd.func7, Tryd.ntmps7
      go_wp2
      all_goals (try exact absurd ‹some undef = some (Value.bool _)› (by simp [undef]))
      go_ret
      exact ⟨by first | rfl | (simp [errW_none, errW_some] <;> rfl) | (simp [*, errW_none, errW_some] <;> rfl), by repeat (first | (with_reducible first | exact HB.out | apply below_alloc | apply pw_below_drewN | apply below_drew1) | exact HB.out)⟩
  · rw [if_neg c3] at H
    have c3b0 : decide (1048576 < (wrap64 ((l0.length : Int) + (l1.length : Int)))) = false := decide_eq_false c3
    clear c3
    replace H := Option.bind_eq_some_iff.mp H
    obtain ⟨t372, A40, H⟩ := H
    replace H : ((impl_PairsOf.f k t372).bind fun bt375 => ((spec_PairsOf.f k t372).bind fun bt379 => (if (bt375.2 != bt379.2) = true then (laws_FnPairs.j0 k l1 t372 bt375.1 bt375.2 true) else ((laws_sameInts.f k bt375.1 bt379.1).bind fun t383 => (laws_FnPairs.j0 k l1 t372 bt375.1 bt375.2 (!t383)))))) = some r := H
    have A4 := Aside0.mk A40
    clear A40
    replace H := Option.bind_eq_some_iff.mp H
    obtain ⟨⟨t375, t376⟩, A50, H⟩ := H
    replace H : ((spec_PairsOf.f k t372).bind fun bt379 => (if (t376 != bt379.2) = true then (laws_FnPairs.j0 k l1 t372 t375 t376 true) else ((laws_sameInts.f k t375 bt379.1).bind fun t383 => (laws_FnPairs.j0 k l1 t372 t375 t376 (!t383))))) = some r := H
    have A5 := Aside0.mk A50
    clear A50
    replace H := Option.bind_eq_some_iff.mp H
    obtain ⟨⟨t379, t380⟩, A60, H⟩ := H
    replace H : (if (t376 != t380) = true then (laws_FnPairs.j0 k l1 t372 t375 t376 true) else ((laws_sameInts.f k t375 t379).bind fun t383 => (laws_FnPairs.j0 k l1 t372 t375 t376 (!t383)))) = some r := H
    have A6 := Aside0.mk A60
    clear A60
    have HC7 := Aside0.mk H
    clear H
    go_enter Tryd.func7, Tryd.ntmps7
    go_upto_region 6 with (first | ((with_reducible refine gate_callee (f := 43) rfl ?_); refine goesL_ (some 34) rfl rfl Tryd.func43 (by kernel_rfl) rfl #[.slice A0 l0.length c0] rfl (by (try simp only [List.map_toArray, List.map_cons, List.map_nil]); first | done | rfl | (simp only [List.length_drop, List.length_take]; rfl)) ?_; (with_reducible refine (spec_DrawPairsOf.calls k _ _ l0 t372 _ ?side1 ?side2 A4.out).mono ?_); (case side1 => repeat (first | exact HR0.out | (with_reducible refine Kd.C_alloc ?_ _) | (with_reducible refine Kd.C_drewN ?_ _) | (with_reducible refine Kd.C_drew ?_))); (case side2 => exact HC0.out); rintro e w8 ⟨v373, rfl, ho0, hb⟩; refine ⟨_, rfl, ?_⟩; have HO374 := Aside0.mk (Kd.R_lower ho0 (below_size (bU_ HB))); replace HB := bS_ HB hb; (try clear hb); (try clear ho0); obtain ⟨Ao9, co9, eo9⟩ := Kd.R_slice HO374.out; subst eo9) | ((with_reducible refine gate_callee (f := 44) rfl ?_); refine goesL_ (some 37) rfl rfl Tryd.func44 (by kernel_rfl) rfl #[.slice Ao9 t372.length co9] rfl (by (try simp only [List.map_toArray, List.map_cons, List.map_nil]); first | done | rfl | (simp only [List.length_drop, List.length_take]; rfl)) ?_; (with_reducible refine (impl_PairsOf.calls k _ _ t372 t375 t376 _ ?side1 ?side2 A5.out).mono ?_); (case side1 => repeat (first | exact (Kd.R_reads' HO374.out).2.2 | (with_reducible refine Kd.C_alloc ?_ _) | (with_reducible refine Kd.C_drewN ?_ _) | (with_reducible refine Kd.C_drew ?_))); (case side2 => exact (Kd.R_reads' HO374.out).2.1); rintro e w10 ⟨v377, rfl, ho0, hb⟩; refine ⟨_, rfl, ?_⟩; have HO378 := Aside0.mk (Kd.R_lower (Kd.R_new' ho0 (Kd.R_lt (by (with_reducible repeat (first | apply Kd.R_alloc | apply Kd.R_drewN | apply Kd.R_drew)); exact HO374.out))) (below_size (bU_ HB))); replace HO374 := Aside0.mk (Kd.R_elder' (by (with_reducible repeat (first | apply Kd.R_alloc | apply Kd.R_drewN | apply Kd.R_drew)); exact HO374.out) (Kd.R_base ho0) hb); replace HB := bS_ HB hb; (try clear hb); (try clear ho0)) | ((with_reducible refine gate_callee (f := 45) rfl ?_); refine goesL_ (some 42) rfl rfl Tryd.func45 (by kernel_rfl) rfl #[.slice Ao9 t372.length co9] rfl (by (try simp only [List.map_toArray, List.map_cons, List.map_nil]); first | done | rfl | (simp only [List.length_drop, List.length_take]; rfl)) ?_; (with_reducible refine (spec_PairsOf.calls k _ _ t372 t379 t380 _ ?side1 ?side2 A6.out).mono ?_); (case side1 => repeat (first | exact (Kd.R_reads' HO374.out).2.2 | (with_reducible refine Kd.C_alloc ?_ _) | (with_reducible refine Kd.C_drewN ?_ _) | (with_reducible refine Kd.C_drew ?_))); (case side2 => exact (Kd.R_reads' HO374.out).2.1); rintro e w11 ⟨v381, rfl, ho0, hb⟩; refine ⟨_, rfl, ?_⟩; have HO382 := Aside0.mk (Kd.R_lower (Kd.R_new' (Kd.R_new' ho0 (Kd.R_lt (by (with_reducible repeat (first | apply Kd.R_alloc | apply Kd.R_drewN | apply Kd.R_drew)); exact HO374.out))) (Kd.R_lt (by (with_reducible repeat (first | apply Kd.R_alloc | apply Kd.R_drewN | apply Kd.R_drew)); exact HO378.out))) (below_size (bU_ HB))); replace HO374 := Aside0.mk (Kd.R_elder' (by (with_reducible repeat (first | apply Kd.R_alloc | apply Kd.R_drewN | apply Kd.R_drew)); exact HO374.out) (Kd.R_base ho0) hb); replace HO378 := Aside0.mk (Kd.R_elder' (by (with_reducible repeat (first | apply Kd.R_alloc | apply Kd.R_drewN | apply Kd.R_drew)); exact HO378.out) (Kd.R_base ho0) hb); replace HB := bS_ HB hb; (try clear hb); (try clear ho0)))
    (try simp only [Act.put, List.setIfInBounds_toArray, List.set_cons_zero, List.set_cons_succ])
    go_cut [53] (fun v53 wc => ∃ (kq : Nat) (x53_6 : Bool), v53 = .bool x53_6 ∧ Aside0 (laws_FnPairs.j0 kq l1 t372 t375 t376 x53_6 = some r) ∧ Aside0 (kq ≤ k) ∧ Aside0 (Kd.R (Kd.int .i64) 3 wc w.heap.size (fun k_ => some k_ ≠ (v377 : Value).ownBlock) (.slice Ao9 t372.length co9) t372) ∧ Aside0 (Kd.R (Kd.int .i64) 3 wc w.heap.size (fun k_ => some k_ ≠ ((.slice Ao9 t372.length co9) : Value).ownBlock) v377 t375) ∧ Aside0 (Below w.heap.size w wc))
    case first =>
      as_aux_lemma =>
        have H := HC7.out
        clear HC7
        by_cases c12 : (t376 != t380) = true
        · rw [if_pos c12] at H
          have c12b0 : (t376 != t380) = true := c12
          (try (have c12b1 : decide (t376 = t380) = false := by simpa using c12))
          (try (have c12b2 : (t376 == t380) = false := by simpa using c12))
          (try (have c12b3 : ¬ (t376 = t380) := by simpa using c12))
          clear c12
          (first | rw [c12b0] | (simp only [i64_w, i32_w]; rw [c12b0]) | skip)
          exfalso
          cases k with
          | zero => exact absurd H (by simp [laws_FnPairs.j0])
          | succ kz_ => rw [laws_FnPairs.j0, if_pos rfl] at H; exact absurd ((Option.some.inj H).trans HR_.out) (by decide)
        · rw [if_neg c12] at H
          have c12b0 : (t376 != t380) = false := by simpa using c12
          (try (have c12b1 : decide (t376 = t380) = true := by simpa using c12))
          (try (have c12b2 : (t376 == t380) = true := by simpa using c12))
          clear c12
          (first | rw [c12b0] | (simp only [i64_w, i32_w]; rw [c12b0]) | skip)
          replace H := Option.bind_eq_some_iff.mp H
          obtain ⟨t383, A130, H⟩ := H
          replace H : (laws_FnPairs.j0 k l1 t372 t375 t376 (!t383)) = some r := H
          have A13 := Aside0.mk A130
          clear A130
          as_aux_lemma =>
            have H' := Aside0.mk H
            clear H
            obtain ⟨Ao14, co14, eo14⟩ := Kd.R_slice HO378.out
            subst eo14
            obtain ⟨Ao15, co15, eo15⟩ := Kd.R_slice HO382.out
            subst eo15
            go_wp2_with (first | (go_at_call 24; (with_reducible refine (laws_sameInts.calls k _ _ t375 _ _ t379 t383 _ ?side1 ?side2 ?side3 ?side4 A13.out).mono ?_); (case side1 => repeat (first | exact (Kd.R_reads' HO378.out).2.2 | (with_reducible refine Kd.C_alloc ?_ _) | (with_reducible refine Kd.C_drewN ?_ _) | (with_reducible refine Kd.C_drew ?_))); (case side2 => exact (Kd.R_reads' HO378.out).2.1); (case side3 => repeat (first | exact (Kd.R_reads' HO382.out).2.2 | (with_reducible refine Kd.C_alloc ?_ _) | (with_reducible refine Kd.C_drewN ?_ _) | (with_reducible refine Kd.C_drew ?_))); (case side4 => exact (Kd.R_reads' HO382.out).2.1); rintro e w' ⟨rfl, ⟨nd, rfl⟩⟩))
            all_goals (try exact absurd ‹some undef = some (Value.bool _)› (by simp [undef]))
            go_meet
            case rel => exact ⟨_, (!t383), (by first | rfl | (simp; done) | (simp [*]; done)), H', ⟨by first | omega | exact Nat.le_refl _⟩, ⟨by (with_reducible repeat (first | apply Kd.R_alloc | apply Kd.R_drewN | apply Kd.R_drew)); exact Kd.R_mono HO374.out (fun _ hk => hk.1.2)⟩, ⟨by (with_reducible repeat (first | apply Kd.R_alloc | apply Kd.R_drewN | apply Kd.R_drew)); exact Kd.R_mono HO378.out (fun _ hk => hk.1.2)⟩, ⟨by repeat (first | (with_reducible first | exact HB.out | apply below_alloc | apply pw_below_drewN | apply below_drew1) | exact HB.out)⟩⟩
    case rest =>
      as_aux_lemma =>
        clear HC7
        try clear c1
        try clear p2
        try clear c3
        try clear c3b0
        try clear c4
        try clear p6
        try clear c7
        try clear c12
        try clear c12b0
        try clear c12b1
        try clear c12b2
        obtain ⟨kq, x53_6, rfl, HA, HJ6, HO_5, HO_6, HB⟩ := hcut
        cases kq with
        | zero => exact absurd HA.out (by simp [laws_FnPairs.j0])
        | succ kj6 =>
          have H := HA.out
          clear HA
          simp only [laws_FnPairs.j0] at H
          by_cases c16 : x53_6 = true
          · subst c16
            have H1 : (some false) = some r := by rw [if_pos rfl] at H; exact H
            clear H
            have H := H1
            clear H1
            exact absurd ((Option.some.inj H).trans HR_.out) (by decide)
          · replace c16 := Bool.eq_false_iff.mpr c16
            subst c16
            have H1 : (if t376 = true then ((impl_OfPairs.f kj6 t375).bind fun bt384 => (if bt384.2 = true then ((laws_sameInts.f kj6 bt384.1 t372).bind fun t388 => (if t388 = true then (if (t375.length : Int) < (t372.length : Int) then (some false) else (laws_FnPairs.j1 kj6 l1)) else (some false))) else (some false))) else (laws_FnPairs.j1 kj6 l1)) = some r := by rw [if_neg (show ¬ (false = true) by decide)] at H; exact H
            clear H
            have H := H1
            clear H1
            have HC17 := Aside0.mk H
            clear H
            go_upto_if 54 with (fail)
            go_cut [] (fun wc => ∃ (kq : Nat), Aside0 (laws_FnPairs.j1 kq l1 = some r) ∧ Aside0 (kq ≤ kj6) ∧ Aside0 (Below w.heap.size w wc))
            case first =>
              as_aux_lemma =>
                have H := HC17.out
                clear HC17
                by_cases c18 : t376 = true
                · subst c18
                  have H1 : ((impl_OfPairs.f kj6 t375).bind fun bt384 => (if bt384.2 = true then ((laws_sameInts.f kj6 bt384.1 t372).bind fun t388 => (if t388 = true then (if (t375.length : Int) < (t372.length : Int) then (some false) else (laws_FnPairs.j1 kj6 l1)) else (some false))) else (some false))) = some r := by rw [if_pos rfl] at H; exact H
                  clear H
                  have H := H1
                  clear H1
                  replace H := Option.bind_eq_some_iff.mp H
                  obtain ⟨⟨t384, t385⟩, A190, H⟩ := H
                  replace H : (if t385 = true then ((laws_sameInts.f kj6 t384 t372).bind fun t388 => (if t388 = true then (if (t375.length : Int) < (t372.length : Int) then (some false) else (laws_FnPairs.j1 kj6 l1)) else (some false))) else (some false)) = some r := H
                  have A19 := Aside0.mk A190
                  clear A190
                  by_cases c20 : t385 = true
                  · subst c20
                    have H1 : ((laws_sameInts.f kj6 t384 t372).bind fun t388 => (if t388 = true then (if (t375.length : Int) < (t372.length : Int) then (some false) else (laws_FnPairs.j1 kj6 l1)) else (some false))) = some r := by rw [if_pos rfl] at H; exact H
                    clear H
                    have H := H1
                    clear H1
                    replace H := Option.bind_eq_some_iff.mp H
                    obtain ⟨t388, A210, H⟩ := H
                    replace H : (if t388 = true then (if (t375.length : Int) < (t372.length : Int) then (some false) else (laws_FnPairs.j1 kj6 l1)) else (some false)) = some r := H
                    have A21 := Aside0.mk A210
                    clear A210
                    by_cases c22 : t388 = true
                    · subst c22
                      have H1 : (if (t375.length : Int) < (t372.length : Int) then (some false) else (laws_FnPairs.j1 kj6 l1)) = some r := by rw [if_pos rfl] at H; exact H
                      clear H
                      have H := H1
                      clear H1
                      by_cases c23 : (t375.length : Int) < (t372.length : Int)
                      · rw [if_pos c23] at H
                        have c23b0 : decide ((t375.length : Int) < (t372.length : Int)) = true := decide_eq_true c23
                        have c23b1 : decide (t375.length < t372.length) = true := decide_eq_true (Int.ofNat_lt.mp c23)
                        clear c23
                        (first | rw [c23b0] | (simp only [i64_w, i32_w]; rw [c23b0]) | skip)
                        exact absurd ((Option.some.inj H).trans HR_.out) (by decide)
                      · rw [if_neg c23] at H
                        have c23b0 : decide ((t375.length : Int) < (t372.length : Int)) = false := decide_eq_false c23
                        have c23b1 : decide (t375.length < t372.length) = false := decide_eq_false (fun h => c23 (Int.ofNat_lt.mpr h))
                        clear c23
                        (first | rw [c23b0] | (simp only [i64_w, i32_w]; rw [c23b0]) | skip)
                        as_aux_lemma =>
                          have H' := Aside0.mk H
                          clear H
                          obtain ⟨Ao24, co24, eo24⟩ := Kd.R_slice HO_6.out
                          subst eo24
                          go_wp2_with (first | ((with_reducible refine gate_callee (f := 46) rfl ?_); refine goesL_ (some 57) rfl rfl Tryd.func46 (by kernel_rfl) rfl #[.slice Ao24 t375.length co24] rfl (by (try simp only [List.map_toArray, List.map_cons, List.map_nil]); first | done | rfl | (simp only [List.length_drop, List.length_take]; rfl)) ?_; (with_reducible refine (impl_OfPairs.calls kj6 _ _ t375 t384 true _ ?side1 ?side2 A19.out).mono ?_); (case side1 => repeat (first | exact (Kd.R_reads' HO_6.out).2.2 | (with_reducible refine Kd.C_alloc ?_ _) | (with_reducible refine Kd.C_drewN ?_ _) | (with_reducible refine Kd.C_drew ?_))); (case side2 => exact (Kd.R_reads' HO_6.out).2.1); rintro e w25 ⟨v386, rfl, ho0, hb⟩; refine ⟨_, rfl, ?_⟩; have HO387 := Aside0.mk (Kd.R_lower (Kd.R_new' (Kd.R_new' ho0 (Kd.R_lt (by (with_reducible repeat (first | apply Kd.R_alloc | apply Kd.R_drewN | apply Kd.R_drew)); exact HO_5.out))) (Kd.R_lt (by (with_reducible repeat (first | apply Kd.R_alloc | apply Kd.R_drewN | apply Kd.R_drew)); exact HO_6.out))) (below_size (bU_ HB))); replace HO_5 := Aside0.mk (Kd.R_elder' (by (with_reducible repeat (first | apply Kd.R_alloc | apply Kd.R_drewN | apply Kd.R_drew)); exact HO_5.out) (Kd.R_base ho0) hb); replace HO_6 := Aside0.mk (Kd.R_elder' (by (with_reducible repeat (first | apply Kd.R_alloc | apply Kd.R_drewN | apply Kd.R_drew)); exact HO_6.out) (Kd.R_base ho0) hb); replace HB := bS_ HB hb; (try clear hb); (try clear ho0); obtain ⟨Ao26, co26, eo26⟩ := Kd.R_slice HO387.out; subst eo26) | (go_at_call 24; (with_reducible refine (laws_sameInts.calls kj6 _ _ t384 _ _ t372 true _ ?side1 ?side2 ?side3 ?side4 A21.out).mono ?_); (case side1 => repeat (first | exact (Kd.R_reads' HO387.out).2.2 | (with_reducible refine Kd.C_alloc ?_ _) | (with_reducible refine Kd.C_drewN ?_ _) | (with_reducible refine Kd.C_drew ?_))); (case side2 => exact (Kd.R_reads' HO387.out).2.1); (case side3 => repeat (first | exact (Kd.R_reads' HO_5.out).2.2 | (with_reducible refine Kd.C_alloc ?_ _) | (with_reducible refine Kd.C_drewN ?_ _) | (with_reducible refine Kd.C_drew ?_))); (case side4 => exact (Kd.R_reads' HO_5.out).2.1); rintro e w' ⟨rfl, ⟨nd, rfl⟩⟩))
                          all_goals (try exact absurd ‹some undef = some (Value.bool _)› (by simp [undef]))
                          go_meet
                          case rel => exact ⟨_, H', ⟨by have := HJ6.out; first | omega | exact Nat.le_refl _⟩, ⟨by repeat (first | (with_reducible first | exact HB.out | apply below_alloc | apply pw_below_drewN | apply below_drew1) | exact HB.out)⟩⟩
                    · replace c22 := Bool.eq_false_iff.mpr c22
                      subst c22
                      have H1 : (some false) = some r := by rw [if_neg (show ¬ (false = true) by decide)] at H; exact H
                      clear H
                      have H := H1
                      clear H1
                      exact absurd ((Option.some.inj H).trans HR_.out) (by decide)
                  · replace c20 := Bool.eq_false_iff.mpr c20
                    subst c20
                    have H1 : (some false) = some r := by rw [if_neg (show ¬ (false = true) by decide)] at H; exact H
                    clear H
                    have H := H1
                    clear H1
                    exact absurd ((Option.some.inj H).trans HR_.out) (by decide)
                · replace c18 := Bool.eq_false_iff.mpr c18
                  subst c18
                  have H1 : (laws_FnPairs.j1 kj6 l1) = some r := by rw [if_neg (show ¬ (false = true) by decide)] at H; exact H
                  clear H
                  have H := H1
                  clear H1
                  as_aux_lemma =>
                    have H' := Aside0.mk H
                    clear H
                    go_wp2
                    all_goals (try exact absurd ‹some undef = some (Value.bool _)› (by simp [undef]))
                    go_meet
                    case rel => exact ⟨_, H', ⟨by have := HJ6.out; first | omega | exact Nat.le_refl _⟩, ⟨by repeat (first | (with_reducible first | exact HB.out | apply below_alloc | apply pw_below_drewN | apply below_drew1) | exact HB.out)⟩⟩
            case rest =>
              as_aux_lemma =>
                clear HC17
                try clear c1
                try clear c2
                try clear p2
                try clear c3
                try clear c3b0
                try clear c4
                try clear p6
                try clear c7
                try clear c12
                try clear c12b0
                try clear c12b1
                try clear c12b2
                try clear c16
                try clear c18
                try clear c20
                try clear c22
                try clear c23
                try clear c23b0
                try clear c23b1
                try clear p2
                try clear p6
                obtain ⟨kq, HA, HJ16, HB⟩ := hcut
                cases kq with
                | zero => exact absurd HA.out (by simp [laws_FnPairs.j1])
                | succ kj16 =>
                  have H := HA.out
                  clear HA
                  simp only [laws_FnPairs.j1] at H
                  replace H := Option.bind_eq_some_iff.mp H
                  obtain ⟨t389, A270, H⟩ := H
                  replace H : ((impl_OfPairs.f kj16 t389).bind fun bt392 => ((spec_OfPairs.f kj16 t389).bind fun bt396 => (if (bt392.2 != bt396.2) = true then (laws_FnPairs.j2 kj16 l1 t389 bt392.1 bt392.2 true) else ((laws_sameInts.f kj16 bt392.1 bt396.1).bind fun t400 => (laws_FnPairs.j2 kj16 l1 t389 bt392.1 bt392.2 (!t400)))))) = some r := H
                  have A27 := Aside0.mk A270
                  clear A270
                  replace H := Option.bind_eq_some_iff.mp H
                  obtain ⟨⟨t392, t393⟩, A280, H⟩ := H
                  replace H : ((spec_OfPairs.f kj16 t389).bind fun bt396 => (if (t393 != bt396.2) = true then (laws_FnPairs.j2 kj16 l1 t389 t392 t393 true) else ((laws_sameInts.f kj16 t392 bt396.1).bind fun t400 => (laws_FnPairs.j2 kj16 l1 t389 t392 t393 (!t400))))) = some r := H
                  have A28 := Aside0.mk A280
                  clear A280
                  replace H := Option.bind_eq_some_iff.mp H
                  obtain ⟨⟨t396, t397⟩, A290, H⟩ := H
                  replace H : (if (t393 != t397) = true then (laws_FnPairs.j2 kj16 l1 t389 t392 t393 true) else ((laws_sameInts.f kj16 t392 t396).bind fun t400 => (laws_FnPairs.j2 kj16 l1 t389 t392 t393 (!t400)))) = some r := H
                  have A29 := Aside0.mk A290
                  clear A290
                  have HC30 := Aside0.mk H
                  clear H
                  go_upto_region 15 with (first | ((with_reducible refine gate_callee (f := 47) rfl ?_); refine goesL_ (some 76) rfl rfl Tryd.func47 (by kernel_rfl) rfl #[.slice A1 l1.length c1] rfl (by (try simp only [List.map_toArray, List.map_cons, List.map_nil]); first | done | rfl | (simp only [List.length_drop, List.length_take]; rfl)) ?_; (with_reducible refine (spec_DrawOfPairs.calls kj16 _ _ l1 t389 _ ?side1 ?side2 A27.out).mono ?_); (case side1 => repeat (first | exact (Kd.C_below HR1.out HB.out) | (with_reducible refine Kd.C_alloc ?_ _) | (with_reducible refine Kd.C_drewN ?_ _) | (with_reducible refine Kd.C_drew ?_))); (case side2 => exact HC1.out); rintro e w31 ⟨v390, rfl, ho0, hb⟩; refine ⟨_, rfl, ?_⟩; have HO391 := Aside0.mk (Kd.R_lower ho0 (below_size (bU_ HB))); replace HB := bS_ HB hb; (try clear hb); (try clear ho0); obtain ⟨Ao32, co32, eo32⟩ := Kd.R_slice HO391.out; subst eo32) | ((with_reducible refine gate_callee (f := 46) rfl ?_); refine goesL_ (some 79) rfl rfl Tryd.func46 (by kernel_rfl) rfl #[.slice Ao32 t389.length co32] rfl (by (try simp only [List.map_toArray, List.map_cons, List.map_nil]); first | done | rfl | (simp only [List.length_drop, List.length_take]; rfl)) ?_; (with_reducible refine (impl_OfPairs.calls kj16 _ _ t389 t392 t393 _ ?side1 ?side2 A28.out).mono ?_); (case side1 => repeat (first | exact (Kd.R_reads' HO391.out).2.2 | (with_reducible refine Kd.C_alloc ?_ _) | (with_reducible refine Kd.C_drewN ?_ _) | (with_reducible refine Kd.C_drew ?_))); (case side2 => exact (Kd.R_reads' HO391.out).2.1); rintro e w33 ⟨v394, rfl, ho0, hb⟩; refine ⟨_, rfl, ?_⟩; have HO395 := Aside0.mk (Kd.R_lower (Kd.R_new' ho0 (Kd.R_lt (by (with_reducible repeat (first | apply Kd.R_alloc | apply Kd.R_drewN | apply Kd.R_drew)); exact HO391.out))) (below_size (bU_ HB))); replace HO391 := Aside0.mk (Kd.R_elder' (by (with_reducible repeat (first | apply Kd.R_alloc | apply Kd.R_drewN | apply Kd.R_drew)); exact HO391.out) (Kd.R_base ho0) hb); replace HB := bS_ HB hb; (try clear hb); (try clear ho0)) | ((with_reducible refine gate_callee (f := 48) rfl ?_); refine goesL_ (some 84) rfl rfl Tryd.func48 (by kernel_rfl) rfl #[.slice Ao32 t389.length co32] rfl (by (try simp only [List.map_toArray, List.map_cons, List.map_nil]); first | done | rfl | (simp only [List.length_drop, List.length_take]; rfl)) ?_; (with_reducible refine (spec_OfPairs.calls kj16 _ _ t389 t396 t397 _ ?side1 ?side2 A29.out).mono ?_); (case side1 => repeat (first | exact (Kd.R_reads' HO391.out).2.2 | (with_reducible refine Kd.C_alloc ?_ _) | (with_reducible refine Kd.C_drewN ?_ _) | (with_reducible refine Kd.C_drew ?_))); (case side2 => exact (Kd.R_reads' HO391.out).2.1); rintro e w34 ⟨v398, rfl, ho0, hb⟩; refine ⟨_, rfl, ?_⟩; have HO399 := Aside0.mk (Kd.R_lower (Kd.R_new' (Kd.R_new' ho0 (Kd.R_lt (by (with_reducible repeat (first | apply Kd.R_alloc | apply Kd.R_drewN | apply Kd.R_drew)); exact HO391.out))) (Kd.R_lt (by (with_reducible repeat (first | apply Kd.R_alloc | apply Kd.R_drewN | apply Kd.R_drew)); exact HO395.out))) (below_size (bU_ HB))); replace HO391 := Aside0.mk (Kd.R_elder' (by (with_reducible repeat (first | apply Kd.R_alloc | apply Kd.R_drewN | apply Kd.R_drew)); exact HO391.out) (Kd.R_base ho0) hb); replace HO395 := Aside0.mk (Kd.R_elder' (by (with_reducible repeat (first | apply Kd.R_alloc | apply Kd.R_drewN | apply Kd.R_drew)); exact HO395.out) (Kd.R_base ho0) hb); replace HB := bS_ HB hb; (try clear hb); (try clear ho0)))
                  (try simp only [Act.put, List.setIfInBounds_toArray, List.set_cons_zero, List.set_cons_succ])
                  go_cut [95] (fun v95 wc => ∃ (kq : Nat) (x95_29 : Bool), v95 = .bool x95_29 ∧ Aside0 (laws_FnPairs.j2 kq l1 t389 t392 t393 x95_29 = some r) ∧ Aside0 (kq ≤ kj16) ∧ Aside0 (Kd.R (Kd.int .i64) 3 wc w.heap.size (fun k_ => some k_ ≠ (v394 : Value).ownBlock) (.slice Ao32 t389.length co32) t389) ∧ Aside0 (Kd.R (Kd.int .i64) 3 wc w.heap.size (fun k_ => some k_ ≠ ((.slice Ao32 t389.length co32) : Value).ownBlock) v394 t392) ∧ Aside0 (Below w.heap.size w wc))
                  case first =>
                    as_aux_lemma =>
                      have H := HC30.out
                      clear HC30
                      by_cases c35 : (t393 != t397) = true
                      · rw [if_pos c35] at H
                        have c35b0 : (t393 != t397) = true := c35
                        (try (have c35b1 : decide (t393 = t397) = false := by simpa using c35))
                        (try (have c35b2 : (t393 == t397) = false := by simpa using c35))
                        (try (have c35b3 : ¬ (t393 = t397) := by simpa using c35))
                        clear c35
                        (first | rw [c35b0] | (simp only [i64_w, i32_w]; rw [c35b0]) | skip)
                        exfalso
                        cases kj16 with
                        | zero => exact absurd H (by simp [laws_FnPairs.j2])
                        | succ kz_ => rw [laws_FnPairs.j2, if_pos rfl] at H; exact absurd ((Option.some.inj H).trans HR_.out) (by decide)
                      · rw [if_neg c35] at H
                        have c35b0 : (t393 != t397) = false := by simpa using c35
                        (try (have c35b1 : decide (t393 = t397) = true := by simpa using c35))
                        (try (have c35b2 : (t393 == t397) = true := by simpa using c35))
                        clear c35
                        (first | rw [c35b0] | (simp only [i64_w, i32_w]; rw [c35b0]) | skip)
                        replace H := Option.bind_eq_some_iff.mp H
                        obtain ⟨t400, A360, H⟩ := H
                        replace H : (laws_FnPairs.j2 kj16 l1 t389 t392 t393 (!t400)) = some r := H
                        have A36 := Aside0.mk A360
                        clear A360
                        as_aux_lemma =>
                          have H' := Aside0.mk H
                          clear H
                          obtain ⟨Ao37, co37, eo37⟩ := Kd.R_slice HO395.out
                          subst eo37
                          obtain ⟨Ao38, co38, eo38⟩ := Kd.R_slice HO399.out
                          subst eo38
                          go_wp2_with (first | (go_at_call 24; (with_reducible refine (laws_sameInts.calls kj16 _ _ t392 _ _ t396 t400 _ ?side1 ?side2 ?side3 ?side4 A36.out).mono ?_); (case side1 => repeat (first | exact (Kd.R_reads' HO395.out).2.2 | (with_reducible refine Kd.C_alloc ?_ _) | (with_reducible refine Kd.C_drewN ?_ _) | (with_reducible refine Kd.C_drew ?_))); (case side2 => exact (Kd.R_reads' HO395.out).2.1); (case side3 => repeat (first | exact (Kd.R_reads' HO399.out).2.2 | (with_reducible refine Kd.C_alloc ?_ _) | (with_reducible refine Kd.C_drewN ?_ _) | (with_reducible refine Kd.C_drew ?_))); (case side4 => exact (Kd.R_reads' HO399.out).2.1); rintro e w' ⟨rfl, ⟨nd, rfl⟩⟩))
                          all_goals (try exact absurd ‹some undef = some (Value.bool _)› (by simp [undef]))
                          go_meet
                          case rel => exact ⟨_, (!t400), (by first | rfl | (simp; done) | (simp [*]; done)), H', ⟨by have := HJ6.out; have := HJ16.out; first | omega | exact Nat.le_refl _⟩, ⟨by (with_reducible repeat (first | apply Kd.R_alloc | apply Kd.R_drewN | apply Kd.R_drew)); exact Kd.R_mono HO391.out (fun _ hk => hk.1.2)⟩, ⟨by (with_reducible repeat (first | apply Kd.R_alloc | apply Kd.R_drewN | apply Kd.R_drew)); exact Kd.R_mono HO395.out (fun _ hk => hk.1.2)⟩, ⟨by repeat (first | (with_reducible first | exact HB.out | apply below_alloc | apply pw_below_drewN | apply below_drew1) | exact HB.out)⟩⟩
                  case rest =>
                    as_aux_lemma =>
                      clear HC30
                      try clear c1
                      try clear c2
                      try clear p2
                      try clear c3
                      try clear c3b0
                      try clear c4
                      try clear p6
                      try clear c7
                      try clear c12
                      try clear c12b0
                      try clear c12b1
                      try clear c12b2
                      try clear c16
                      try clear c18
                      try clear c20
                      try clear c22
                      try clear c23
                      try clear c23b0
                      try clear c23b1
                      try clear c35
                      try clear c35b0
                      try clear c35b1
                      try clear c35b2
                      try clear p2
                      try clear p6
                      obtain ⟨kq, x95_29, rfl, HA, HJ29, HO_12, HO_13, HB⟩ := hcut
                      cases kq with
                      | zero => exact absurd HA.out (by simp [laws_FnPairs.j2])
                      | succ kj29 =>
                        have H := HA.out
                        clear HA
                        simp only [laws_FnPairs.j2] at H
                        by_cases c39 : x95_29 = true
                        · subst c39
                          have H1 : (some false) = some r := by rw [if_pos rfl] at H; exact H
                          clear H
                          have H := H1
                          clear H1
                          exact absurd ((Option.some.inj H).trans HR_.out) (by decide)
                        · replace c39 := Bool.eq_false_iff.mpr c39
                          subst c39
                          have H1 : (if t393 = true then ((impl_PairsOf.f kj29 t392).bind fun bt401 => (if bt401.2 = true then ((laws_sameInts.f kj29 bt401.1 t389).bind fun t405 => (if t405 = true then (laws_FnPairs.j3 kj29 l1) else (some false))) else (some false))) else (laws_FnPairs.j3 kj29 l1)) = some r := by rw [if_neg (show ¬ (false = true) by decide)] at H; exact H
                          clear H
                          have H := H1
                          clear H1
                          have HC40 := Aside0.mk H
                          clear H
                          go_upto_if 96 with (fail)
                          go_cut [] (fun wc => ∃ (kq : Nat), Aside0 (laws_FnPairs.j3 kq l1 = some r) ∧ Aside0 (kq ≤ kj29) ∧ Aside0 (Below w.heap.size w wc))
                          case first =>
                            as_aux_lemma =>
                              have H := HC40.out
                              clear HC40
                              by_cases c41 : t393 = true
                              · subst c41
                                have H1 : ((impl_PairsOf.f kj29 t392).bind fun bt401 => (if bt401.2 = true then ((laws_sameInts.f kj29 bt401.1 t389).bind fun t405 => (if t405 = true then (laws_FnPairs.j3 kj29 l1) else (some false))) else (some false))) = some r := by rw [if_pos rfl] at H; exact H
                                clear H
                                have H := H1
                                clear H1
                                replace H := Option.bind_eq_some_iff.mp H
                                obtain ⟨⟨t401, t402⟩, A420, H⟩ := H
                                replace H : (if t402 = true then ((laws_sameInts.f kj29 t401 t389).bind fun t405 => (if t405 = true then (laws_FnPairs.j3 kj29 l1) else (some false))) else (some false)) = some r := H
                                have A42 := Aside0.mk A420
                                clear A420
                                by_cases c43 : t402 = true
                                · subst c43
                                  have H1 : ((laws_sameInts.f kj29 t401 t389).bind fun t405 => (if t405 = true then (laws_FnPairs.j3 kj29 l1) else (some false))) = some r := by rw [if_pos rfl] at H; exact H
                                  clear H
                                  have H := H1
                                  clear H1
                                  replace H := Option.bind_eq_some_iff.mp H
                                  obtain ⟨t405, A440, H⟩ := H
                                  replace H : (if t405 = true then (laws_FnPairs.j3 kj29 l1) else (some false)) = some r := H
                                  have A44 := Aside0.mk A440
                                  clear A440
                                  by_cases c45 : t405 = true
                                  · subst c45
                                    have H1 : (laws_FnPairs.j3 kj29 l1) = some r := by rw [if_pos rfl] at H; exact H
                                    clear H
                                    have H := H1
                                    clear H1
                                    as_aux_lemma =>
                                      have H' := Aside0.mk H
                                      clear H
                                      obtain ⟨Ao46, co46, eo46⟩ := Kd.R_slice HO_13.out
                                      subst eo46
                                      go_wp2_with (first | ((with_reducible refine gate_callee (f := 44) rfl ?_); refine goesL_ (some 99) rfl rfl Tryd.func44 (by kernel_rfl) rfl #[.slice Ao46 t392.length co46] rfl (by (try simp only [List.map_toArray, List.map_cons, List.map_nil]); first | done | rfl | (simp only [List.length_drop, List.length_take]; rfl)) ?_; (with_reducible refine (impl_PairsOf.calls kj29 _ _ t392 t401 true _ ?side1 ?side2 A42.out).mono ?_); (case side1 => repeat (first | exact (Kd.R_reads' HO_13.out).2.2 | (with_reducible refine Kd.C_alloc ?_ _) | (with_reducible refine Kd.C_drewN ?_ _) | (with_reducible refine Kd.C_drew ?_))); (case side2 => exact (Kd.R_reads' HO_13.out).2.1); rintro e w47 ⟨v403, rfl, ho0, hb⟩; refine ⟨_, rfl, ?_⟩; have HO404 := Aside0.mk (Kd.R_lower (Kd.R_new' (Kd.R_new' ho0 (Kd.R_lt (by (with_reducible repeat (first | apply Kd.R_alloc | apply Kd.R_drewN | apply Kd.R_drew)); exact HO_12.out))) (Kd.R_lt (by (with_reducible repeat (first | apply Kd.R_alloc | apply Kd.R_drewN | apply Kd.R_drew)); exact HO_13.out))) (below_size (bU_ HB))); replace HO_12 := Aside0.mk (Kd.R_elder' (by (with_reducible repeat (first | apply Kd.R_alloc | apply Kd.R_drewN | apply Kd.R_drew)); exact HO_12.out) (Kd.R_base ho0) hb); replace HO_13 := Aside0.mk (Kd.R_elder' (by (with_reducible repeat (first | apply Kd.R_alloc | apply Kd.R_drewN | apply Kd.R_drew)); exact HO_13.out) (Kd.R_base ho0) hb); replace HB := bS_ HB hb; (try clear hb); (try clear ho0); obtain ⟨Ao48, co48, eo48⟩ := Kd.R_slice HO404.out; subst eo48) | (go_at_call 24; (with_reducible refine (laws_sameInts.calls kj29 _ _ t401 _ _ t389 true _ ?side1 ?side2 ?side3 ?side4 A44.out).mono ?_); (case side1 => repeat (first | exact (Kd.R_reads' HO404.out).2.2 | (with_reducible refine Kd.C_alloc ?_ _) | (with_reducible refine Kd.C_drewN ?_ _) | (with_reducible refine Kd.C_drew ?_))); (case side2 => exact (Kd.R_reads' HO404.out).2.1); (case side3 => repeat (first | exact (Kd.R_reads' HO_12.out).2.2 | (with_reducible refine Kd.C_alloc ?_ _) | (with_reducible refine Kd.C_drewN ?_ _) | (with_reducible refine Kd.C_drew ?_))); (case side4 => exact (Kd.R_reads' HO_12.out).2.1); rintro e w' ⟨rfl, ⟨nd, rfl⟩⟩))
                                      all_goals (try exact absurd ‹some undef = some (Value.bool _)› (by simp [undef]))
                                      go_meet
                                      case rel => exact ⟨_, H', ⟨by have := HJ6.out; have := HJ16.out; have := HJ29.out; first | omega | exact Nat.le_refl _⟩, ⟨by repeat (first | (with_reducible first | exact HB.out | apply below_alloc | apply pw_below_drewN | apply below_drew1) | exact HB.out)⟩⟩
                                  · replace c45 := Bool.eq_false_iff.mpr c45
                                    subst c45
                                    have H1 : (some false) = some r := by rw [if_neg (show ¬ (false = true) by decide)] at H; exact H
                                    clear H
                                    have H := H1
                                    clear H1
                                    exact absurd ((Option.some.inj H).trans HR_.out) (by decide)
                                · replace c43 := Bool.eq_false_iff.mpr c43
                                  subst c43
                                  have H1 : (some false) = some r := by rw [if_neg (show ¬ (false = true) by decide)] at H; exact H
                                  clear H
                                  have H := H1
                                  clear H1
                                  exact absurd ((Option.some.inj H).trans HR_.out) (by decide)
                              · replace c41 := Bool.eq_false_iff.mpr c41
                                subst c41
                                have H1 : (laws_FnPairs.j3 kj29 l1) = some r := by rw [if_neg (show ¬ (false = true) by decide)] at H; exact H
                                clear H
                                have H := H1
                                clear H1
                                as_aux_lemma =>
                                  have H' := Aside0.mk H
                                  clear H
                                  go_wp2
                                  all_goals (try exact absurd ‹some undef = some (Value.bool _)› (by simp [undef]))
                                  go_meet
                                  case rel => exact ⟨_, H', ⟨by have := HJ6.out; have := HJ16.out; have := HJ29.out; first | omega | exact Nat.le_refl _⟩, ⟨by repeat (first | (with_reducible first | exact HB.out | apply below_alloc | apply pw_below_drewN | apply below_drew1) | exact HB.out)⟩⟩
                          case rest =>
                            as_aux_lemma =>
                              clear HC40
                              try clear c1
                              try clear c2
                              try clear p2
                              try clear c3
                              try clear c3b0
                              try clear c4
                              try clear p6
                              try clear c7
                              try clear c12
                              try clear c12b0
                              try clear c12b1
                              try clear c12b2
                              try clear c16
                              try clear c18
                              try clear c20
                              try clear c22
                              try clear c23
                              try clear c23b0
                              try clear c23b1
                              try clear c35
                              try clear c35b0
                              try clear c35b1
                              try clear c35b2
                              try clear c39
                              try clear c41
                              try clear c43
                              try clear c44
                              try clear c45
                              try clear c46
                              try clear c47
                              try clear c48
                              try clear p2
                              try clear p6
                              obtain ⟨kq, HA, HJ39, HB⟩ := hcut
                              cases kq with
                              | zero => exact absurd HA.out (by simp [laws_FnPairs.j3])
                              | succ kj39 =>
                                have H := HA.out
                                clear HA
                                simp only [laws_FnPairs.j3] at H
                                replace H := Option.bind_eq_some_iff.mp H
                                obtain ⟨⟨t406, t407⟩, A490, H⟩ := H
                                replace H : ((impl_LessPairs.f kj39 t406 t407).bind fun bt408 => ((spec_LessPairs.f kj39 t406 t407).bind fun bt410 => (if (bt408.2 != bt410.2) = true then (laws_FnPairs.j4 kj39 t406 t407 bt408.1 bt408.2 true) else (laws_FnPairs.j4 kj39 t406 t407 bt408.1 bt408.2 (bt408.1 != bt410.1))))) = some r := H
                                have A49 := Aside0.mk A490
                                clear A490
                                replace H := Option.bind_eq_some_iff.mp H
                                obtain ⟨⟨t408, t409⟩, A500, H⟩ := H
                                replace H : ((spec_LessPairs.f kj39 t406 t407).bind fun bt410 => (if (t409 != bt410.2) = true then (laws_FnPairs.j4 kj39 t406 t407 t408 t409 true) else (laws_FnPairs.j4 kj39 t406 t407 t408 t409 (t408 != bt410.1)))) = some r := H
                                have A50 := Aside0.mk A500
                                clear A500
                                replace H := Option.bind_eq_some_iff.mp H
                                obtain ⟨⟨t410, t411⟩, A510, H⟩ := H
                                replace H : (if (t409 != t411) = true then (laws_FnPairs.j4 kj39 t406 t407 t408 t409 true) else (laws_FnPairs.j4 kj39 t406 t407 t408 t409 (t408 != t410))) = some r := H
                                have A51 := Aside0.mk A510
                                clear A510
                                have HC52 := Aside0.mk H
                                clear H
                                go_upto_region 24 with (first | ((with_reducible refine gate_callee (f := 49) rfl ?_); refine goesL_ (some 112) rfl rfl Tryd.func49 (by kernel_rfl) rfl #[.slice A1 l1.length c1] rfl (by (try simp only [List.map_toArray, List.map_cons, List.map_nil]); first | done | rfl | (simp only [List.length_drop, List.length_take]; rfl)) ?_; (with_reducible refine (spec_DrawLessPairs.calls kj39 _ _ l1 t406 t407 _ ?side1 ?side2 A49.out).mono ?_); (case side1 => repeat (first | exact (Kd.C_below HR1.out HB.out) | (with_reducible refine Kd.C_alloc ?_ _) | (with_reducible refine Kd.C_drewN ?_ _) | (with_reducible refine Kd.C_drew ?_))); (case side2 => exact HC1.out); rintro e w53 ⟨rfl, hb⟩; refine ⟨_, rfl, ?_⟩; replace HB := bS_ HB hb; (try clear hb)) | ((with_reducible refine gate_callee (f := 50) rfl ?_); refine goesL_ (some 118) rfl rfl Tryd.func50 (by kernel_rfl) rfl #[.string t406, .string t407] rfl (by (try simp only [List.map_toArray, List.map_cons, List.map_nil]); first | done | rfl | (simp only [List.length_drop, List.length_take]; rfl)) ?_; (with_reducible refine (impl_LessPairs.calls kj39 t406 t407 t408 t409 _ ?side1 A50.out).mono ?_); (case side1 => exact Go.Proofs.YtgoedenbekedbaaDoor.TabsU.Tabs0.of_below TB.out (bU_ HB)); rintro e w54 ⟨rfl, hb⟩; refine ⟨_, rfl, ?_⟩; replace HB := bS_ HB hb; (try clear hb)) | ((with_reducible refine gate_callee (f := 51) rfl ?_); refine goesL_ (some 124) rfl rfl Tryd.func51 (by kernel_rfl) rfl #[.string t406, .string t407] rfl (by (try simp only [List.map_toArray, List.map_cons, List.map_nil]); first | done | rfl | (simp only [List.length_drop, List.length_take]; rfl)) ?_; (with_reducible refine (spec_LessPairs.calls kj39 t406 t407 t410 t411 _ A51.out).mono ?_); rintro e w55 ⟨rfl, hb⟩; refine ⟨_, rfl, ?_⟩; replace HB := bS_ HB hb; (try clear hb)))
                                (try simp only [Act.put, List.setIfInBounds_toArray, List.set_cons_zero, List.set_cons_succ])
                                go_cut [134] (fun v134 wc => ∃ (kq : Nat) (x134_51 : Bool), v134 = .bool x134_51 ∧ Aside0 (laws_FnPairs.j4 kq t406 t407 t408 t409 x134_51 = some r) ∧ Aside0 (kq ≤ kj39) ∧ Aside0 (Below w.heap.size w wc))
                                case first =>
                                  as_aux_lemma =>
                                    have H := HC52.out
                                    clear HC52
                                    by_cases c56 : (t409 != t411) = true
                                    · rw [if_pos c56] at H
                                      have c56b0 : (t409 != t411) = true := c56
                                      (try (have c56b1 : decide (t409 = t411) = false := by simpa using c56))
                                      (try (have c56b2 : (t409 == t411) = false := by simpa using c56))
                                      (try (have c56b3 : ¬ (t409 = t411) := by simpa using c56))
                                      clear c56
                                      (first | rw [c56b0] | (simp only [i64_w, i32_w]; rw [c56b0]) | skip)
                                      exfalso
                                      cases kj39 with
                                      | zero => exact absurd H (by simp [laws_FnPairs.j4])
                                      | succ kz_ => rw [laws_FnPairs.j4, if_pos rfl] at H; exact absurd ((Option.some.inj H).trans HR_.out) (by decide)
                                    · rw [if_neg c56] at H
                                      have c56b0 : (t409 != t411) = false := by simpa using c56
                                      (try (have c56b1 : decide (t409 = t411) = true := by simpa using c56))
                                      (try (have c56b2 : (t409 == t411) = true := by simpa using c56))
                                      clear c56
                                      (first | rw [c56b0] | (simp only [i64_w, i32_w]; rw [c56b0]) | skip)
                                      as_aux_lemma =>
                                        have H' := Aside0.mk H
                                        clear H
                                        go_wp2
                                        all_goals (try exact absurd ‹some undef = some (Value.bool _)› (by simp [undef]))
                                        go_meet
                                        case rel => exact ⟨_, ((t408 != t410)), (by first | rfl | (simp; done) | (simp [*]; done)), H', ⟨by have := HJ6.out; have := HJ16.out; have := HJ29.out; have := HJ39.out; first | omega | exact Nat.le_refl _⟩, ⟨by repeat (first | (with_reducible first | exact HB.out | apply below_alloc | apply pw_below_drewN | apply below_drew1) | exact HB.out)⟩⟩
                                case rest =>
                                  as_aux_lemma =>
                                    clear HC52
                                    try clear c1
                                    try clear c2
                                    try clear p2
                                    try clear c3
                                    try clear c3b0
                                    try clear c4
                                    try clear c5
                                    try clear p6
                                    try clear c7
                                    try clear c12
                                    try clear c12b0
                                    try clear c12b1
                                    try clear c12b2
                                    try clear c16
                                    try clear c18
                                    try clear c20
                                    try clear c22
                                    try clear c23
                                    try clear c23b0
                                    try clear c23b1
                                    try clear c35
                                    try clear c35b0
                                    try clear c35b1
                                    try clear c35b2
                                    try clear c39
                                    try clear c41
                                    try clear c43
                                    try clear c44
                                    try clear c45
                                    try clear c46
                                    try clear c47
                                    try clear c48
                                    try clear c49
                                    try clear c50
                                    try clear c51
                                    try clear c56
                                    try clear c56b0
                                    try clear c56b1
                                    try clear c56b2
                                    try clear p2
                                    try clear p6
                                    obtain ⟨kq, x134_51, rfl, HA, HJ51, HB⟩ := hcut
                                    cases kq with
                                    | zero => exact absurd HA.out (by simp [laws_FnPairs.j4])
                                    | succ kj51 =>
                                      have H := HA.out
                                      clear HA
                                      simp only [laws_FnPairs.j4] at H
                                      by_cases c57 : x134_51 = true
                                      · subst c57
                                        have H1 : (some false) = some r := by rw [if_pos rfl] at H; exact H
                                        clear H
                                        have H := H1
                                        clear H1
                                        exact absurd ((Option.some.inj H).trans HR_.out) (by decide)
                                      · replace c57 := Bool.eq_false_iff.mpr c57
                                        subst c57
                                        have H1 : (if t409 = true then ((impl_LessPairs.f kj51 t407 t406).bind fun bt412 => (if bt412.2 = true then (if t408 = true then (if bt412.1 = true then (some false) else (some true)) else (if bt412.1 = true then (some true) else (some (t406.toList == t407.toList)))) else (some false))) else (some true)) = some r := by rw [if_neg (show ¬ (false = true) by decide)] at H; exact H
                                        clear H
                                        have H := H1
                                        clear H1
                                        by_cases c58 : t409 = true
                                        · subst c58
                                          have H1 : ((impl_LessPairs.f kj51 t407 t406).bind fun bt412 => (if bt412.2 = true then (if t408 = true then (if bt412.1 = true then (some false) else (some true)) else (if bt412.1 = true then (some true) else (some (t406.toList == t407.toList)))) else (some false))) = some r := by rw [if_pos rfl] at H; exact H
                                          clear H
                                          have H := H1
                                          clear H1
                                          replace H := Option.bind_eq_some_iff.mp H
                                          obtain ⟨⟨t412, t413⟩, A590, H⟩ := H
                                          replace H : (if t413 = true then (if t408 = true then (if t412 = true then (some false) else (some true)) else (if t412 = true then (some true) else (some (t406.toList == t407.toList)))) else (some false)) = some r := H
                                          have A59 := Aside0.mk A590
                                          clear A590
                                          by_cases c60 : t413 = true
                                          · subst c60
                                            have H1 : (if t408 = true then (if t412 = true then (some false) else (some true)) else (if t412 = true then (some true) else (some (t406.toList == t407.toList)))) = some r := by rw [if_pos rfl] at H; exact H
                                            clear H
                                            have H := H1
                                            clear H1
                                            by_cases c61 : t408 = true
                                            · subst c61
                                              have H1 : (if t412 = true then (some false) else (some true)) = some r := by rw [if_pos rfl] at H; exact H
                                              clear H
                                              have H := H1
                                              clear H1
                                              by_cases c62 : t412 = true
                                              · subst c62
                                                have H1 : (some false) = some r := by rw [if_pos rfl] at H; exact H
                                                clear H
                                                have H := H1
                                                clear H1
                                                exact absurd ((Option.some.inj H).trans HR_.out) (by decide)
                                              · replace c62 := Bool.eq_false_iff.mpr c62
                                                subst c62
                                                have H1 : (some true) = some r := by rw [if_neg (show ¬ (false = true) by decide)] at H; exact H
                                                clear H
                                                have H := H1
                                                clear H1
                                                as_aux_lemma =>
                                                  obtain rfl := Option.some.inj H
                                                  go_wp2_with (first | ((with_reducible refine gate_callee (f := 50) rfl ?_); refine goesL_ (some 139) rfl rfl Tryd.func50 (by kernel_rfl) rfl #[.string t407, .string t406] rfl (by (try simp only [List.map_toArray, List.map_cons, List.map_nil]); first | done | rfl | (simp only [List.length_drop, List.length_take]; rfl)) ?_; (with_reducible refine (impl_LessPairs.calls kj51 t407 t406 false true _ ?side1 A59.out).mono ?_); (case side1 => exact Go.Proofs.YtgoedenbekedbaaDoor.TabsU.Tabs0.of_below TB.out (bU_ HB)); rintro e w63 ⟨rfl, hb⟩; refine ⟨_, rfl, ?_⟩; replace HB := bS_ HB hb; (try clear hb)))
                                                  all_goals (try exact absurd ‹some undef = some (Value.bool _)› (by simp [undef]))
                                                  go_ret
                                                  exact ⟨by first | rfl | (simp [errW_none, errW_some] <;> rfl) | (simp [*, errW_none, errW_some] <;> rfl), by repeat (first | (with_reducible first | exact HB.out | apply below_alloc | apply pw_below_drewN | apply below_drew1) | exact HB.out)⟩
                                            · replace c61 := Bool.eq_false_iff.mpr c61
                                              subst c61
                                              have H1 : (if t412 = true then (some true) else (some (t406.toList == t407.toList))) = some r := by rw [if_neg (show ¬ (false = true) by decide)] at H; exact H
                                              clear H
                                              have H := H1
                                              clear H1
                                              by_cases c64 : t412 = true
                                              · subst c64
                                                have H1 : (some true) = some r := by rw [if_pos rfl] at H; exact H
                                                clear H
                                                have H := H1
                                                clear H1
                                                as_aux_lemma =>
                                                  obtain rfl := Option.some.inj H
                                                  go_wp2_with (first | ((with_reducible refine gate_callee (f := 50) rfl ?_); refine goesL_ (some 139) rfl rfl Tryd.func50 (by kernel_rfl) rfl #[.string t407, .string t406] rfl (by (try simp only [List.map_toArray, List.map_cons, List.map_nil]); first | done | rfl | (simp only [List.length_drop, List.length_take]; rfl)) ?_; (with_reducible refine (impl_LessPairs.calls kj51 t407 t406 true true _ ?side1 A59.out).mono ?_); (case side1 => exact Go.Proofs.YtgoedenbekedbaaDoor.TabsU.Tabs0.of_below TB.out (bU_ HB)); rintro e w65 ⟨rfl, hb⟩; refine ⟨_, rfl, ?_⟩; replace HB := bS_ HB hb; (try clear hb)))
                                                  all_goals (try exact absurd ‹some undef = some (Value.bool _)› (by simp [undef]))
                                                  go_ret
                                                  exact ⟨by first | rfl | (simp [errW_none, errW_some] <;> rfl) | (simp [*, errW_none, errW_some] <;> rfl), by repeat (first | (with_reducible first | exact HB.out | apply below_alloc | apply pw_below_drewN | apply below_drew1) | exact HB.out)⟩
                                              · replace c64 := Bool.eq_false_iff.mpr c64
                                                subst c64
                                                have H1 : (some (t406.toList == t407.toList)) = some r := by rw [if_neg (show ¬ (false = true) by decide)] at H; exact H
                                                clear H
                                                have H := H1
                                                clear H1
                                                as_aux_lemma =>
                                                  obtain rfl := Option.some.inj H
                                                  go_wp2_with (first | ((with_reducible refine gate_callee (f := 50) rfl ?_); refine goesL_ (some 139) rfl rfl Tryd.func50 (by kernel_rfl) rfl #[.string t407, .string t406] rfl (by (try simp only [List.map_toArray, List.map_cons, List.map_nil]); first | done | rfl | (simp only [List.length_drop, List.length_take]; rfl)) ?_; (with_reducible refine (impl_LessPairs.calls kj51 t407 t406 false true _ ?side1 A59.out).mono ?_); (case side1 => exact Go.Proofs.YtgoedenbekedbaaDoor.TabsU.Tabs0.of_below TB.out (bU_ HB)); rintro e w66 ⟨rfl, hb⟩; refine ⟨_, rfl, ?_⟩; replace HB := bS_ HB hb; (try clear hb)))
                                                  all_goals (try exact absurd ‹some undef = some (Value.bool _)› (by simp [undef]))
                                                  go_ret
                                                  exact ⟨by first | rfl | (simp [errW_none, errW_some] <;> rfl) | (simp [*, errW_none, errW_some] <;> rfl), by repeat (first | (with_reducible first | exact HB.out | apply below_alloc | apply pw_below_drewN | apply below_drew1) | exact HB.out)⟩
                                          · replace c60 := Bool.eq_false_iff.mpr c60
                                            subst c60
                                            have H1 : (some false) = some r := by rw [if_neg (show ¬ (false = true) by decide)] at H; exact H
                                            clear H
                                            have H := H1
                                            clear H1
                                            exact absurd ((Option.some.inj H).trans HR_.out) (by decide)
                                        · replace c58 := Bool.eq_false_iff.mpr c58
                                          subst c58
                                          have H1 : (some true) = some r := by rw [if_neg (show ¬ (false = true) by decide)] at H; exact H
                                          clear H
                                          have H := H1
                                          clear H1
                                          as_aux_lemma =>
                                            obtain rfl := Option.some.inj H
                                            go_wp2
                                            all_goals (try exact absurd ‹some undef = some (Value.bool _)› (by simp [undef]))
                                            go_ret
                                            exact ⟨by first | rfl | (simp [errW_none, errW_some] <;> rfl) | (simp [*, errW_none, errW_some] <;> rfl), by repeat (first | (with_reducible first | exact HB.out | apply below_alloc | apply pw_below_drewN | apply below_drew1) | exact HB.out)⟩

/-- THE ONE PURE STATEMENT of laws_FnPairs: yours. -/
def laws_FnPairs.Pure : Prop := ∀ (l0 : List Int) (l1 : List Int), l0.length ≤ maxLen → l0.length * 1 ≤ 140737488351232 → (∀ x ∈ l0, (Lit.int .u8 x).wf = true) → l1.length ≤ maxLen → l1.length * 1 ≤ 140737488351232 → (∀ x ∈ l1, (Lit.int .u8 x).wf = true) → ∃ k, laws_FnPairs.f k l0 l1 = some true
theorem laws_FnPairs.walk (P : laws_FnPairs.Pure) (a0 : Option Addr) (len0 cap0 : Nat) (z0 : List Int) (a1 : Option Addr) (len1 cap1 : Nat) (z1 : List Int) (w : World) (tb : Go.Proofs.YtgoedenbekedbaaDoor.TabsU.Tabs0 w) (w0 : (a0 = none ∧ len0 = 0 ∧ cap0 = 0 ∧ z0 = []) ∨ ∃ x, a0 = some x ∧ len0 ≤ cap0 ∧ cap0 ≤ maxLen ∧ z0.length = cap0 ∧ (∀ i, i < z0.length → w.cell? (x.add i) = some (.int .u8 (z0.getD i 0))) ∧ ∀ n ∈ z0, (Lit.int .u8 n).wf = true) (y0 : len0 * 1 ≤ 140737488351232) (w1 : (a1 = none ∧ len1 = 0 ∧ cap1 = 0 ∧ z1 = []) ∨ ∃ x, a1 = some x ∧ len1 ≤ cap1 ∧ cap1 ≤ maxLen ∧ z1.length = cap1 ∧ (∀ i, i < z1.length → w.cell? (x.add i) = some (.int .u8 (z1.getD i 0))) ∧ ∀ n ∈ z1, (Lit.int .u8 n).wf = true) (y1 : len1 * 1 ≤ 140737488351232) :
    Calls Tryd.prog 7 #[.slice a0 len0 cap0, .slice a1 len1 cap1] w fun e w' => e = .returned (.bool true) ∧ Below w.heap.size w w' := by
  obtain ⟨l0, rfl, hr0, hm0, hw0, hc0⟩ := ReadsInt.ofRowC w0
  obtain ⟨l1, rfl, hr1, hm1, hw1, hc1⟩ := ReadsInt.ofRowC w1
  obtain ⟨k, h⟩ := P l0 l1 hm0 y0 hw0 hm1 y1 hw1
  refine (laws_FnPairs.calls k _ _ l0 _ _ l1 true w tb rfl (Kd.C_of_reads (d := (0 : Int)) (h1 := fun _ => rfl) hr0) hc0 (Kd.C_of_reads (d := (0 : Int)) (h1 := fun _ => rfl) hr1) hc1 h).mono ?_
  rintro e w' ⟨rfl, hd⟩
  exact ⟨rfl, hd⟩

end
end Go.Proofs.YtgoedenbekedbaaDoor.PFnPairs
