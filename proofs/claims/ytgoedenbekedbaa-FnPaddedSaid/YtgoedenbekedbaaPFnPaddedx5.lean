-- Printed for this claim by a changed copy of the kit's printing program (wip/tools/patch_print.py); Lean checks it.
import Derived.Test.YtgoedenbekedbaaPFnPaddedx0
import Derived.Test.YtgoedenbekedbaaPFnPaddedx1
import Derived.Test.YtgoedenbekedbaaPFnPaddedx2
import Derived.Test.YtgoedenbekedbaaPFnPaddedx3
import Derived.Test.YtgoedenbekedbaaPFnPaddedx4
namespace Go.Proofs.Ytgoedenbekedbaa.PFnPadded
open Go.RowKit Go.Proofs.YtgoedenbekedbaaW.PrintWords Go.Proofs.YtgoedenbekedbaaW.PrintLast Go.Proofs.YtgoedenbekedbaaW.PrintMore
attribute [local go_sem] max2_int min2_int max_two min_two max_three min_three max_four min_four   -- for this text's walks alone
set_option linter.unusedVariables false
set_option linter.unusedSimpArgs false

noncomputable section
/-! ### laws_FnPadded: function 3 -/
mutual
def laws_FnPadded.j0 : Nat → List Int → ByteArray → ByteArray → Bool → Bool → Option (Bool)
  | 0, _, _, _, _, _ => none
  | k + 1, x1, x5, x6, x7, x52 => if x52 = true then (some false) else (if x7 = true then ((impl_UnpadText.f k x6).bind fun bt184 => (if ((x6.size : Int) % 64) = 0 then (if (x6.size : Int) > (wrap64 ((x5.size : Int) + 72)) then (some false) else (if bt184.2 = true then (if bt184.1.toList = x5.toList then (laws_FnPadded.j1 k x1) else (some false)) else (some false))) else (some false))) else (laws_FnPadded.j1 k x1))
def laws_FnPadded.j1 : Nat → List Int → Option (Bool)
  | 0, _ => none
  | k + 1, x1 => (spec_DrawUnpadText.f k x1).bind fun t186 => ((impl_UnpadText.f k t186).bind fun bt187 => ((spec_UnpadText.f k t186).bind fun bt189 => (if (bt187.2 != bt189.2) = true then (laws_FnPadded.j2 k x1 t186 bt187.1 bt187.2 true) else (laws_FnPadded.j2 k x1 t186 bt187.1 bt187.2 (bt187.1.toList != bt189.1.toList)))))
def laws_FnPadded.j2 : Nat → List Int → ByteArray → ByteArray → Bool → Bool → Option (Bool)
  | 0, _, _, _, _, _ => none
  | k + 1, x1, x12, x13, x14, x99 => if x99 = true then (some false) else (if x14 = true then ((impl_PadText.f k x13).bind fun bt191 => (if bt191.2 = true then (if bt191.1.toList = x12.toList then (laws_FnPadded.j3 k x1) else (some false)) else (some false))) else (laws_FnPadded.j3 k x1))
def laws_FnPadded.j3 : Nat → List Int → Option (Bool)
  | 0, _ => none
  | k + 1, x1 => (spec_DrawTurnWord.f x1).bind fun bt193 => ((impl_TurnWord.f bt193.1 bt193.2).bind fun bt195 => ((spec_TurnWord.f bt193.1 bt193.2).bind fun bt197 => (if (bt195.2 != bt197.2) = true then (laws_FnPadded.j4 k bt193.1 bt193.2 bt195.1 bt195.2 true) else (laws_FnPadded.j4 k bt193.1 bt193.2 bt195.1 bt195.2 (bt195.1 != bt197.1)))))
def laws_FnPadded.j4 : Nat → Int → Int → Int → Bool → Bool → Option (Bool)
  | 0, _, _, _, _, _ => none
  | k + 1, x19, x20, x21, x22, x137 => if x137 = true then (some false) else (if x22 = true then ((impl_TurnWord.f x21 (Int.tmod (wrap64 (32 - x20)) 32)).bind fun bt199 => (if bt199.2 = true then (some (bt199.1 == x19)) else (some false))) else (some true))
end
def laws_FnPadded.f (k : Nat) (l0 : List Int) (l1 : List Int) : Option (Bool) := if (wrap64 ((l0.length : Int) + (l1.length : Int))) > 1048576 then (some true) else ((spec_DrawPadText.f k l0).bind fun t179 => ((impl_PadText.f k t179).bind fun bt180 => ((spec_PadText.f k t179).bind fun bt182 => (if (bt180.2 != bt182.2) = true then (laws_FnPadded.j0 k l1 t179 bt180.1 bt180.2 true) else (laws_FnPadded.j0 k l1 t179 bt180.1 bt180.2 (bt180.1.toList != bt182.1.toList))))))
theorem laws_FnPadded.mono_l : ∀ k, (∀ y0 y1 y2 y3 y4, LeO (laws_FnPadded.j0 k y0 y1 y2 y3 y4) (laws_FnPadded.j0 (k + 1) y0 y1 y2 y3 y4)) ∧ (∀ y0, LeO (laws_FnPadded.j1 k y0) (laws_FnPadded.j1 (k + 1) y0)) ∧ (∀ y0 y1 y2 y3 y4, LeO (laws_FnPadded.j2 k y0 y1 y2 y3 y4) (laws_FnPadded.j2 (k + 1) y0 y1 y2 y3 y4)) ∧ (∀ y0, LeO (laws_FnPadded.j3 k y0) (laws_FnPadded.j3 (k + 1) y0)) ∧ (∀ y0 y1 y2 y3 y4, LeO (laws_FnPadded.j4 k y0 y1 y2 y3 y4) (laws_FnPadded.j4 (k + 1) y0 y1 y2 y3 y4))
  | 0 => ⟨fun _ _ _ _ _ r h => by simp [laws_FnPadded.j0] at h, fun _ r h => by simp [laws_FnPadded.j1] at h, fun _ _ _ _ _ r h => by simp [laws_FnPadded.j2] at h, fun _ r h => by simp [laws_FnPadded.j3] at h, fun _ _ _ _ _ r h => by simp [laws_FnPadded.j4] at h⟩
  | k + 1 => by
    obtain ⟨ih0, ih1, ih2, ih3, ih4⟩ := laws_FnPadded.mono_l k
    refine ⟨?_, ?_, ?_, ?_, ?_⟩
    · intro y0 y1 y2 y3 y4
      unfold laws_FnPadded.j0
      repeat' first
      | (with_reducible exact ih0 _ _ _ _ _)
      | (with_reducible exact ih1 _)
      | (with_reducible exact ih2 _ _ _ _ _)
      | (with_reducible exact ih3 _)
      | (with_reducible exact ih4 _ _ _ _ _)
      | (with_reducible exact impl_PadText.mono _ _)
      | (with_reducible exact impl_UnpadText.mono _ _)
      | (with_reducible exact spec_DrawPadText.mono _ _)
      | (with_reducible exact spec_DrawUnpadText.mono _ _)
      | (with_reducible exact spec_PadText.mono _ _)
      | (with_reducible exact spec_UnpadText.mono _ _)
      | (with_reducible exact LeO.refl _)
      | (with_reducible exact LeO.none _)
      | (with_reducible refine LeO.ite ?_ ?_)
      | (with_reducible refine LeO.bind ?_ (fun _ => ?_))
      | exact ih0 _ _ _ _ _
      | exact ih1 _
      | exact ih2 _ _ _ _ _
      | exact ih3 _
      | exact ih4 _ _ _ _ _
      | exact impl_PadText.mono _ _
      | exact impl_UnpadText.mono _ _
      | exact spec_DrawPadText.mono _ _
      | exact spec_DrawUnpadText.mono _ _
      | exact spec_PadText.mono _ _
      | exact spec_UnpadText.mono _ _
      | exact LeO.none _
      | refine LeO.ite ?_ ?_
      | refine LeO.bind ?_ (fun _ => ?_)
    · intro y0
      unfold laws_FnPadded.j1
      repeat' first
      | (with_reducible exact ih0 _ _ _ _ _)
      | (with_reducible exact ih1 _)
      | (with_reducible exact ih2 _ _ _ _ _)
      | (with_reducible exact ih3 _)
      | (with_reducible exact ih4 _ _ _ _ _)
      | (with_reducible exact impl_PadText.mono _ _)
      | (with_reducible exact impl_UnpadText.mono _ _)
      | (with_reducible exact spec_DrawPadText.mono _ _)
      | (with_reducible exact spec_DrawUnpadText.mono _ _)
      | (with_reducible exact spec_PadText.mono _ _)
      | (with_reducible exact spec_UnpadText.mono _ _)
      | (with_reducible exact LeO.refl _)
      | (with_reducible exact LeO.none _)
      | (with_reducible refine LeO.ite ?_ ?_)
      | (with_reducible refine LeO.bind ?_ (fun _ => ?_))
      | exact ih0 _ _ _ _ _
      | exact ih1 _
      | exact ih2 _ _ _ _ _
      | exact ih3 _
      | exact ih4 _ _ _ _ _
      | exact impl_PadText.mono _ _
      | exact impl_UnpadText.mono _ _
      | exact spec_DrawPadText.mono _ _
      | exact spec_DrawUnpadText.mono _ _
      | exact spec_PadText.mono _ _
      | exact spec_UnpadText.mono _ _
      | exact LeO.none _
      | refine LeO.ite ?_ ?_
      | refine LeO.bind ?_ (fun _ => ?_)
    · intro y0 y1 y2 y3 y4
      unfold laws_FnPadded.j2
      repeat' first
      | (with_reducible exact ih0 _ _ _ _ _)
      | (with_reducible exact ih1 _)
      | (with_reducible exact ih2 _ _ _ _ _)
      | (with_reducible exact ih3 _)
      | (with_reducible exact ih4 _ _ _ _ _)
      | (with_reducible exact impl_PadText.mono _ _)
      | (with_reducible exact impl_UnpadText.mono _ _)
      | (with_reducible exact spec_DrawPadText.mono _ _)
      | (with_reducible exact spec_DrawUnpadText.mono _ _)
      | (with_reducible exact spec_PadText.mono _ _)
      | (with_reducible exact spec_UnpadText.mono _ _)
      | (with_reducible exact LeO.refl _)
      | (with_reducible exact LeO.none _)
      | (with_reducible refine LeO.ite ?_ ?_)
      | (with_reducible refine LeO.bind ?_ (fun _ => ?_))
      | exact ih0 _ _ _ _ _
      | exact ih1 _
      | exact ih2 _ _ _ _ _
      | exact ih3 _
      | exact ih4 _ _ _ _ _
      | exact impl_PadText.mono _ _
      | exact impl_UnpadText.mono _ _
      | exact spec_DrawPadText.mono _ _
      | exact spec_DrawUnpadText.mono _ _
      | exact spec_PadText.mono _ _
      | exact spec_UnpadText.mono _ _
      | exact LeO.none _
      | refine LeO.ite ?_ ?_
      | refine LeO.bind ?_ (fun _ => ?_)
    · intro y0
      unfold laws_FnPadded.j3
      repeat' first
      | (with_reducible exact ih0 _ _ _ _ _)
      | (with_reducible exact ih1 _)
      | (with_reducible exact ih2 _ _ _ _ _)
      | (with_reducible exact ih3 _)
      | (with_reducible exact ih4 _ _ _ _ _)
      | (with_reducible exact impl_PadText.mono _ _)
      | (with_reducible exact impl_UnpadText.mono _ _)
      | (with_reducible exact spec_DrawPadText.mono _ _)
      | (with_reducible exact spec_DrawUnpadText.mono _ _)
      | (with_reducible exact spec_PadText.mono _ _)
      | (with_reducible exact spec_UnpadText.mono _ _)
      | (with_reducible exact LeO.refl _)
      | (with_reducible exact LeO.none _)
      | (with_reducible refine LeO.ite ?_ ?_)
      | (with_reducible refine LeO.bind ?_ (fun _ => ?_))
      | exact ih0 _ _ _ _ _
      | exact ih1 _
      | exact ih2 _ _ _ _ _
      | exact ih3 _
      | exact ih4 _ _ _ _ _
      | exact impl_PadText.mono _ _
      | exact impl_UnpadText.mono _ _
      | exact spec_DrawPadText.mono _ _
      | exact spec_DrawUnpadText.mono _ _
      | exact spec_PadText.mono _ _
      | exact spec_UnpadText.mono _ _
      | exact LeO.none _
      | refine LeO.ite ?_ ?_
      | refine LeO.bind ?_ (fun _ => ?_)
    · intro y0 y1 y2 y3 y4
      unfold laws_FnPadded.j4
      repeat' first
      | (with_reducible exact ih0 _ _ _ _ _)
      | (with_reducible exact ih1 _)
      | (with_reducible exact ih2 _ _ _ _ _)
      | (with_reducible exact ih3 _)
      | (with_reducible exact ih4 _ _ _ _ _)
      | (with_reducible exact impl_PadText.mono _ _)
      | (with_reducible exact impl_UnpadText.mono _ _)
      | (with_reducible exact spec_DrawPadText.mono _ _)
      | (with_reducible exact spec_DrawUnpadText.mono _ _)
      | (with_reducible exact spec_PadText.mono _ _)
      | (with_reducible exact spec_UnpadText.mono _ _)
      | (with_reducible exact LeO.refl _)
      | (with_reducible exact LeO.none _)
      | (with_reducible refine LeO.ite ?_ ?_)
      | (with_reducible refine LeO.bind ?_ (fun _ => ?_))
      | exact ih0 _ _ _ _ _
      | exact ih1 _
      | exact ih2 _ _ _ _ _
      | exact ih3 _
      | exact ih4 _ _ _ _ _
      | exact impl_PadText.mono _ _
      | exact impl_UnpadText.mono _ _
      | exact spec_DrawPadText.mono _ _
      | exact spec_DrawUnpadText.mono _ _
      | exact spec_PadText.mono _ _
      | exact spec_UnpadText.mono _ _
      | exact LeO.none _
      | refine LeO.ite ?_ ?_
      | refine LeO.bind ?_ (fun _ => ?_)
theorem laws_FnPadded.mono : ∀ a0 a1 k, LeO (laws_FnPadded.f k a0 a1) (laws_FnPadded.f (k + 1) a0 a1) := by
  intro a0 a1 k
  obtain ⟨ih0, ih1, ih2, ih3, ih4⟩ := laws_FnPadded.mono_l k
  unfold laws_FnPadded.f
  repeat' first
      | (with_reducible exact ih0 _ _ _ _ _)
      | (with_reducible exact ih1 _)
      | (with_reducible exact ih2 _ _ _ _ _)
      | (with_reducible exact ih3 _)
      | (with_reducible exact ih4 _ _ _ _ _)
      | (with_reducible exact impl_PadText.mono _ _)
      | (with_reducible exact impl_UnpadText.mono _ _)
      | (with_reducible exact spec_DrawPadText.mono _ _)
      | (with_reducible exact spec_DrawUnpadText.mono _ _)
      | (with_reducible exact spec_PadText.mono _ _)
      | (with_reducible exact spec_UnpadText.mono _ _)
      | (with_reducible exact LeO.refl _)
      | (with_reducible exact LeO.none _)
      | (with_reducible refine LeO.ite ?_ ?_)
      | (with_reducible refine LeO.bind ?_ (fun _ => ?_))
      | exact ih0 _ _ _ _ _
      | exact ih1 _
      | exact ih2 _ _ _ _ _
      | exact ih3 _
      | exact ih4 _ _ _ _ _
      | exact impl_PadText.mono _ _
      | exact impl_UnpadText.mono _ _
      | exact spec_DrawPadText.mono _ _
      | exact spec_DrawUnpadText.mono _ _
      | exact spec_PadText.mono _ _
      | exact spec_UnpadText.mono _ _
      | exact LeO.none _
      | refine LeO.ite ?_ ?_
      | refine LeO.bind ?_ (fun _ => ?_)
set_option maxHeartbeats 8000000 in
set_option maxRecDepth 100000 in
theorem laws_FnPadded.calls (k : Nat) (A0 : Option Addr) (c0 : Nat) (l0 : List Int) (A1 : Option Addr) (c1 : Nat) (l1 : List Int) (r : Bool) (w : World) (hr_ : r = true) (hr0 : Kd.C (Kd.int .u8) w A0 l0.length l0) (hc0 : l0.length ≤ c0) (hr1 : Kd.C (Kd.int .u8) w A1 l1.length l1) (hc1 : l1.length ≤ c1) (h : laws_FnPadded.f k l0 l1 = some r) :
    Calls Try.prog 3 #[.slice A0 l0.length c0, .slice A1 l1.length c1] w fun e w' => e = .returned (.bool r) ∧ Below w.heap.size w w' := by
  have HR_ := Aside0.mk hr_
  clear hr_
  have HR0 := Aside0.mk hr0
  have HC0 := Aside0.mk hc0
  clear hr0 hc0
  have HR1 := Aside0.mk hr1
  have HC1 := Aside0.mk hc1
  clear hr1 hc1
  have HB := Aside0.mk (Below.refl w.heap.size w)
  have H : (if (wrap64 ((l0.length : Int) + (l1.length : Int))) > 1048576 then (some true) else ((spec_DrawPadText.f k l0).bind fun t179 => ((impl_PadText.f k t179).bind fun bt180 => ((spec_PadText.f k t179).bind fun bt182 => (if (bt180.2 != bt182.2) = true then (laws_FnPadded.j0 k l1 t179 bt180.1 bt180.2 true) else (laws_FnPadded.j0 k l1 t179 bt180.1 bt180.2 (bt180.1.toList != bt182.1.toList))))))) = some r := h
  clear h
  by_cases c3 : (wrap64 ((l0.length : Int) + (l1.length : Int))) > 1048576
  · rw [if_pos c3] at H
    have c3b0 : decide (1048576 < (wrap64 ((l0.length : Int) + (l1.length : Int)))) = true := decide_eq_true c3
    clear c3
    obtain rfl := Option.some.inj H
    go_enter Try.func3, Try.ntmps3
    go_wp2
    go_ret
    exact ⟨by first | rfl | (simp [errW_none, errW_some] <;> rfl) | (simp [*, errW_none, errW_some] <;> rfl), by repeat (first | (with_reducible first | exact HB.out | apply below_alloc | apply pw_below_drewN | apply below_drew1) | exact HB.out)⟩
  · rw [if_neg c3] at H
    have c3b0 : decide (1048576 < (wrap64 ((l0.length : Int) + (l1.length : Int)))) = false := decide_eq_false c3
    clear c3
    replace H := Option.bind_eq_some_iff.mp H
    obtain ⟨t179, A40, H⟩ := H
    replace H : ((impl_PadText.f k t179).bind fun bt180 => ((spec_PadText.f k t179).bind fun bt182 => (if (bt180.2 != bt182.2) = true then (laws_FnPadded.j0 k l1 t179 bt180.1 bt180.2 true) else (laws_FnPadded.j0 k l1 t179 bt180.1 bt180.2 (bt180.1.toList != bt182.1.toList))))) = some r := H
    have A4 := Aside0.mk A40
    clear A40
    replace H := Option.bind_eq_some_iff.mp H
    obtain ⟨⟨t180, t181⟩, A50, H⟩ := H
    replace H : ((spec_PadText.f k t179).bind fun bt182 => (if (t181 != bt182.2) = true then (laws_FnPadded.j0 k l1 t179 t180 t181 true) else (laws_FnPadded.j0 k l1 t179 t180 t181 (t180.toList != bt182.1.toList)))) = some r := H
    have A5 := Aside0.mk A50
    clear A50
    replace H := Option.bind_eq_some_iff.mp H
    obtain ⟨⟨t182, t183⟩, A60, H⟩ := H
    replace H : (if (t181 != t183) = true then (laws_FnPadded.j0 k l1 t179 t180 t181 true) else (laws_FnPadded.j0 k l1 t179 t180 t181 (t180.toList != t182.toList))) = some r := H
    have A6 := Aside0.mk A60
    clear A60
    have HC7 := Aside0.mk H
    clear H
    go_enter Try.func3, Try.ntmps3
    go_upto_region 6 with (first | ((with_reducible refine gate_callee (f := 4) rfl ?_); refine goesL_ (some 34) rfl rfl Try.func4 (by kernel_rfl) rfl #[.slice A0 l0.length c0] rfl (by (try simp only [List.map_toArray, List.map_cons, List.map_nil]); first | done | rfl | (simp only [List.length_drop, List.length_take]; rfl)) ?_; (with_reducible refine (spec_DrawPadText.calls k _ _ l0 t179 _ ?side1 ?side2 A4.out).mono ?_); (case side1 => repeat (first | exact HR0.out | (with_reducible refine Kd.C_alloc ?_ _) | (with_reducible refine Kd.C_drewN ?_ _) | (with_reducible refine Kd.C_drew ?_))); (case side2 => exact HC0.out); rintro e w8 ⟨rfl, hb⟩; refine ⟨_, rfl, ?_⟩; have n0_ := Aside0.mk (below_step (by repeat (first | (with_reducible first | exact HB.out | apply below_alloc | apply pw_below_drewN | apply below_drew1) | exact HB.out)) hb); clear HB; have HB := n0_; clear n0_; (try clear hb); (try clear hb2); (try clear hk); (try clear hi)) | ((with_reducible refine gate_callee (f := 5) rfl ?_); refine goesL_ (some 37) rfl rfl Try.func5 (by kernel_rfl) rfl #[.string t179] rfl (by (try simp only [List.map_toArray, List.map_cons, List.map_nil]); first | done | rfl | (simp only [List.length_drop, List.length_take]; rfl)) ?_; (with_reducible refine (impl_PadText.calls k t179 t180 t181 _ A5.out).mono ?_); rintro e w9 ⟨rfl, hb⟩; refine ⟨_, rfl, ?_⟩; have n0_ := Aside0.mk (below_step (by repeat (first | (with_reducible first | exact HB.out | apply below_alloc | apply pw_below_drewN | apply below_drew1) | exact HB.out)) hb); clear HB; have HB := n0_; clear n0_; (try clear hb); (try clear hb2); (try clear hk); (try clear hi)) | ((with_reducible refine gate_callee (f := 6) rfl ?_); refine goesL_ (some 42) rfl rfl Try.func6 (by kernel_rfl) rfl #[.string t179] rfl (by (try simp only [List.map_toArray, List.map_cons, List.map_nil]); first | done | rfl | (simp only [List.length_drop, List.length_take]; rfl)) ?_; (with_reducible refine (spec_PadText.calls k t179 t182 t183 _ A6.out).mono ?_); rintro e w10 ⟨rfl, hb⟩; refine ⟨_, rfl, ?_⟩; have n0_ := Aside0.mk (below_step (by repeat (first | (with_reducible first | exact HB.out | apply below_alloc | apply pw_below_drewN | apply below_drew1) | exact HB.out)) hb); clear HB; have HB := n0_; clear n0_; (try clear hb); (try clear hb2); (try clear hk); (try clear hi)))
    (try simp only [Act.put, List.setIfInBounds_toArray, List.set_cons_zero, List.set_cons_succ])
    go_cut [52] (fun v52 wc => ∃ (kq : Nat) (x52_6 : Bool), v52 = .bool x52_6 ∧ Aside0 (laws_FnPadded.j0 kq l1 t179 t180 t181 x52_6 = some r) ∧ Aside0 (kq ≤ k) ∧ Aside0 (Below w.heap.size w wc))
    case first =>
      have H := HC7.out
      clear HC7
      by_cases c11 : (t181 != t183) = true
      · rw [if_pos c11] at H
        have c11b0 : (t181 != t183) = true := c11
        (try (have c11b1 : decide (t181 = t183) = false := by simpa using c11))
        (try (have c11b2 : (t181 == t183) = false := by simpa using c11))
        (try (have c11b3 : ¬ (t181 = t183) := by simpa using c11))
        clear c11
        (first | rw [c11b0] | (simp only [i64_w, i32_w]; rw [c11b0]) | skip)
        exfalso
        cases k with
        | zero => exact absurd H (by simp [laws_FnPadded.j0])
        | succ kz_ => rw [laws_FnPadded.j0, if_pos rfl] at H; exact absurd ((Option.some.inj H).trans HR_.out) (by decide)
      · rw [if_neg c11] at H
        have c11b0 : (t181 != t183) = false := by simpa using c11
        (try (have c11b1 : decide (t181 = t183) = true := by simpa using c11))
        (try (have c11b2 : (t181 == t183) = true := by simpa using c11))
        clear c11
        (first | rw [c11b0] | (simp only [i64_w, i32_w]; rw [c11b0]) | skip)
        have H' := Aside0.mk H
        clear H
        go_wp2
        go_meet
        case rel => exact ⟨_, ((t180.toList != t182.toList)), (by first | rfl | (simp; done) | (simp [*]; done)), H', ⟨by first | omega | exact Nat.le_refl _⟩, ⟨by repeat (first | (with_reducible first | exact HB.out | apply below_alloc | apply pw_below_drewN | apply below_drew1) | exact HB.out)⟩⟩
    case rest =>
      clear HC7
      try clear c1
      try clear p2
      try clear c3
      try clear c3b0
      try clear c4
      try clear c5
      try clear c6
      try clear p6
      try clear c11
      try clear c11b0
      try clear c11b1
      try clear c11b2
      obtain ⟨kq, x52_6, rfl, HA, HJ6, HB⟩ := hcut
      cases kq with
      | zero => exact absurd HA.out (by simp [laws_FnPadded.j0])
      | succ kj6 =>
        have H := HA.out
        clear HA
        simp only [laws_FnPadded.j0] at H
        by_cases c12 : x52_6 = true
        · subst c12
          have H1 : (some false) = some r := by rw [if_pos rfl] at H; exact H
          clear H
          have H := H1
          clear H1
          exact absurd ((Option.some.inj H).trans HR_.out) (by decide)
        · replace c12 := Bool.eq_false_iff.mpr c12
          subst c12
          have H1 : (if t181 = true then ((impl_UnpadText.f kj6 t180).bind fun bt184 => (if ((t180.size : Int) % 64) = 0 then (if (t180.size : Int) > (wrap64 ((t179.size : Int) + 72)) then (some false) else (if bt184.2 = true then (if bt184.1.toList = t179.toList then (laws_FnPadded.j1 kj6 l1) else (some false)) else (some false))) else (some false))) else (laws_FnPadded.j1 kj6 l1)) = some r := by rw [if_neg (show ¬ (false = true) by decide)] at H; exact H
          clear H
          have H := H1
          clear H1
          have HC13 := Aside0.mk H
          clear H
          go_upto_if 53 with (fail)
          go_cut [] (fun wc => ∃ (kq : Nat), Aside0 (laws_FnPadded.j1 kq l1 = some r) ∧ Aside0 (kq ≤ kj6) ∧ Aside0 (Below w.heap.size w wc))
          case first =>
            have H := HC13.out
            clear HC13
            by_cases c14 : t181 = true
            · subst c14
              have H1 : ((impl_UnpadText.f kj6 t180).bind fun bt184 => (if ((t180.size : Int) % 64) = 0 then (if (t180.size : Int) > (wrap64 ((t179.size : Int) + 72)) then (some false) else (if bt184.2 = true then (if bt184.1.toList = t179.toList then (laws_FnPadded.j1 kj6 l1) else (some false)) else (some false))) else (some false))) = some r := by rw [if_pos rfl] at H; exact H
              clear H
              have H := H1
              clear H1
              replace H := Option.bind_eq_some_iff.mp H
              obtain ⟨⟨t184, t185⟩, A150, H⟩ := H
              replace H : (if ((t180.size : Int) % 64) = 0 then (if (t180.size : Int) > (wrap64 ((t179.size : Int) + 72)) then (some false) else (if t185 = true then (if t184.toList = t179.toList then (laws_FnPadded.j1 kj6 l1) else (some false)) else (some false))) else (some false)) = some r := H
              have A15 := Aside0.mk A150
              clear A150
              by_cases c16 : ((t180.size : Int) % 64) = 0
              · rw [if_pos c16] at H
                have c16b0 : (((t180.size : Int) % 64) == 0) = true := beq_iff_eq.mpr c16
                have c16b1 : (((t180.size : Int) % 64) != 0) = false := bne_eq_false_iff_eq.mpr c16
                clear c16
                (first | rw [c16b0] | (simp only [i64_w, i32_w]; rw [c16b0]) | skip)
                by_cases c17 : (t180.size : Int) > (wrap64 ((t179.size : Int) + 72))
                · rw [if_pos c17] at H
                  have c17b0 : decide ((wrap64 ((t179.size : Int) + 72)) < (t180.size : Int)) = true := decide_eq_true c17
                  clear c17
                  exact absurd ((Option.some.inj H).trans HR_.out) (by decide)
                · rw [if_neg c17] at H
                  have c17b0 : decide ((wrap64 ((t179.size : Int) + 72)) < (t180.size : Int)) = false := decide_eq_false c17
                  clear c17
                  by_cases c18 : t185 = true
                  · subst c18
                    have H1 : (if t184.toList = t179.toList then (laws_FnPadded.j1 kj6 l1) else (some false)) = some r := by rw [if_pos rfl] at H; exact H
                    clear H
                    have H := H1
                    clear H1
                    by_cases c19 : t184.toList = t179.toList
                    · rw [if_pos c19] at H
                      have c19b0 : (t184.toList == t179.toList) = true := beq_iff_eq.mpr c19
                      have c19b1 : (t184.toList != t179.toList) = false := bne_eq_false_iff_eq.mpr c19
                      clear c19
                      have H' := Aside0.mk H
                      clear H
                      go_wp2_with (first | ((with_reducible refine gate_callee (f := 7) rfl ?_); refine goesL_ (some 56) rfl rfl Try.func7 (by kernel_rfl) rfl #[.string t180] rfl (by (try simp only [List.map_toArray, List.map_cons, List.map_nil]); first | done | rfl | (simp only [List.length_drop, List.length_take]; rfl)) ?_; (with_reducible refine (impl_UnpadText.calls kj6 t180 t184 true _ A15.out).mono ?_); rintro e w20 ⟨rfl, hb⟩; refine ⟨_, rfl, ?_⟩; have n0_ := Aside0.mk (below_step (by repeat (first | (with_reducible first | exact HB.out | apply below_alloc | apply pw_below_drewN | apply below_drew1) | exact HB.out)) hb); clear HB; have HB := n0_; clear n0_; (try clear hb); (try clear hb2); (try clear hk); (try clear hi)))
                      go_meet
                      case rel => exact ⟨_, H', ⟨by have := HJ6.out; first | omega | exact Nat.le_refl _⟩, ⟨by repeat (first | (with_reducible first | exact HB.out | apply below_alloc | apply pw_below_drewN | apply below_drew1) | exact HB.out)⟩⟩
                    · rw [if_neg c19] at H
                      have c19b0 : (t184.toList == t179.toList) = false := beq_eq_false_iff_ne.mpr c19
                      have c19b1 : (t184.toList != t179.toList) = true := bne_iff_ne.mpr c19
                      exact absurd ((Option.some.inj H).trans HR_.out) (by decide)
                  · replace c18 := Bool.eq_false_iff.mpr c18
                    subst c18
                    have H1 : (some false) = some r := by rw [if_neg (show ¬ (false = true) by decide)] at H; exact H
                    clear H
                    have H := H1
                    clear H1
                    exact absurd ((Option.some.inj H).trans HR_.out) (by decide)
              · rw [if_neg c16] at H
                have c16b0 : (((t180.size : Int) % 64) == 0) = false := beq_eq_false_iff_ne.mpr c16
                have c16b1 : (((t180.size : Int) % 64) != 0) = true := bne_iff_ne.mpr c16
                (first | rw [c16b0] | (simp only [i64_w, i32_w]; rw [c16b0]) | skip)
                exact absurd ((Option.some.inj H).trans HR_.out) (by decide)
            · replace c14 := Bool.eq_false_iff.mpr c14
              subst c14
              have H1 : (laws_FnPadded.j1 kj6 l1) = some r := by rw [if_neg (show ¬ (false = true) by decide)] at H; exact H
              clear H
              have H := H1
              clear H1
              have H' := Aside0.mk H
              clear H
              go_wp2
              go_meet
              case rel => exact ⟨_, H', ⟨by have := HJ6.out; first | omega | exact Nat.le_refl _⟩, ⟨by repeat (first | (with_reducible first | exact HB.out | apply below_alloc | apply pw_below_drewN | apply below_drew1) | exact HB.out)⟩⟩
          case rest =>
            clear HC13
            try clear c1
            try clear p2
            try clear c3
            try clear c3b0
            try clear c4
            try clear c5
            try clear c6
            try clear p6
            try clear c7
            try clear c11
            try clear c11b0
            try clear c11b1
            try clear c11b2
            try clear c12
            try clear c14
            try clear c16
            try clear c16b0
            try clear c16b1
            try clear c17
            try clear c17b0
            try clear c18
            try clear c19
            try clear c19b0
            try clear c19b1
            try clear p2
            try clear p6
            obtain ⟨kq, HA, HJ12, HB⟩ := hcut
            cases kq with
            | zero => exact absurd HA.out (by simp [laws_FnPadded.j1])
            | succ kj12 =>
              have H := HA.out
              clear HA
              simp only [laws_FnPadded.j1] at H
              replace H := Option.bind_eq_some_iff.mp H
              obtain ⟨t186, A210, H⟩ := H
              replace H : ((impl_UnpadText.f kj12 t186).bind fun bt187 => ((spec_UnpadText.f kj12 t186).bind fun bt189 => (if (bt187.2 != bt189.2) = true then (laws_FnPadded.j2 kj12 l1 t186 bt187.1 bt187.2 true) else (laws_FnPadded.j2 kj12 l1 t186 bt187.1 bt187.2 (bt187.1.toList != bt189.1.toList))))) = some r := H
              have A21 := Aside0.mk A210
              clear A210
              replace H := Option.bind_eq_some_iff.mp H
              obtain ⟨⟨t187, t188⟩, A220, H⟩ := H
              replace H : ((spec_UnpadText.f kj12 t186).bind fun bt189 => (if (t188 != bt189.2) = true then (laws_FnPadded.j2 kj12 l1 t186 t187 t188 true) else (laws_FnPadded.j2 kj12 l1 t186 t187 t188 (t187.toList != bt189.1.toList)))) = some r := H
              have A22 := Aside0.mk A220
              clear A220
              replace H := Option.bind_eq_some_iff.mp H
              obtain ⟨⟨t189, t190⟩, A230, H⟩ := H
              replace H : (if (t188 != t190) = true then (laws_FnPadded.j2 kj12 l1 t186 t187 t188 true) else (laws_FnPadded.j2 kj12 l1 t186 t187 t188 (t187.toList != t189.toList))) = some r := H
              have A23 := Aside0.mk A230
              clear A230
              have HC24 := Aside0.mk H
              clear H
              go_upto_region 15 with (first | ((with_reducible refine gate_callee (f := 8) rfl ?_); refine goesL_ (some 81) rfl rfl Try.func8 (by kernel_rfl) rfl #[.slice A1 l1.length c1] rfl (by (try simp only [List.map_toArray, List.map_cons, List.map_nil]); first | done | rfl | (simp only [List.length_drop, List.length_take]; rfl)) ?_; (with_reducible refine (spec_DrawUnpadText.calls kj12 _ _ l1 t186 _ ?side1 ?side2 A21.out).mono ?_); (case side1 => repeat (first | exact (Kd.C_below HR1.out HB.out) | (with_reducible refine Kd.C_alloc ?_ _) | (with_reducible refine Kd.C_drewN ?_ _) | (with_reducible refine Kd.C_drew ?_))); (case side2 => exact HC1.out); rintro e w25 ⟨rfl, hb⟩; refine ⟨_, rfl, ?_⟩; have n0_ := Aside0.mk (below_step (by repeat (first | (with_reducible first | exact HB.out | apply below_alloc | apply pw_below_drewN | apply below_drew1) | exact HB.out)) hb); clear HB; have HB := n0_; clear n0_; (try clear hb); (try clear hb2); (try clear hk); (try clear hi)) | ((with_reducible refine gate_callee (f := 7) rfl ?_); refine goesL_ (some 84) rfl rfl Try.func7 (by kernel_rfl) rfl #[.string t186] rfl (by (try simp only [List.map_toArray, List.map_cons, List.map_nil]); first | done | rfl | (simp only [List.length_drop, List.length_take]; rfl)) ?_; (with_reducible refine (impl_UnpadText.calls kj12 t186 t187 t188 _ A22.out).mono ?_); rintro e w26 ⟨rfl, hb⟩; refine ⟨_, rfl, ?_⟩; have n0_ := Aside0.mk (below_step (by repeat (first | (with_reducible first | exact HB.out | apply below_alloc | apply pw_below_drewN | apply below_drew1) | exact HB.out)) hb); clear HB; have HB := n0_; clear n0_; (try clear hb); (try clear hb2); (try clear hk); (try clear hi)) | ((with_reducible refine gate_callee (f := 9) rfl ?_); refine goesL_ (some 89) rfl rfl Try.func9 (by kernel_rfl) rfl #[.string t186] rfl (by (try simp only [List.map_toArray, List.map_cons, List.map_nil]); first | done | rfl | (simp only [List.length_drop, List.length_take]; rfl)) ?_; (with_reducible refine (spec_UnpadText.calls kj12 t186 t189 t190 _ A23.out).mono ?_); rintro e w27 ⟨rfl, hb⟩; refine ⟨_, rfl, ?_⟩; have n0_ := Aside0.mk (below_step (by repeat (first | (with_reducible first | exact HB.out | apply below_alloc | apply pw_below_drewN | apply below_drew1) | exact HB.out)) hb); clear HB; have HB := n0_; clear n0_; (try clear hb); (try clear hb2); (try clear hk); (try clear hi)))
              (try simp only [Act.put, List.setIfInBounds_toArray, List.set_cons_zero, List.set_cons_succ])
              go_cut [99] (fun v99 wc => ∃ (kq : Nat) (x99_23 : Bool), v99 = .bool x99_23 ∧ Aside0 (laws_FnPadded.j2 kq l1 t186 t187 t188 x99_23 = some r) ∧ Aside0 (kq ≤ kj12) ∧ Aside0 (Below w.heap.size w wc))
              case first =>
                have H := HC24.out
                clear HC24
                by_cases c28 : (t188 != t190) = true
                · rw [if_pos c28] at H
                  have c28b0 : (t188 != t190) = true := c28
                  (try (have c28b1 : decide (t188 = t190) = false := by simpa using c28))
                  (try (have c28b2 : (t188 == t190) = false := by simpa using c28))
                  (try (have c28b3 : ¬ (t188 = t190) := by simpa using c28))
                  clear c28
                  (first | rw [c28b0] | (simp only [i64_w, i32_w]; rw [c28b0]) | skip)
                  exfalso
                  cases kj12 with
                  | zero => exact absurd H (by simp [laws_FnPadded.j2])
                  | succ kz_ => rw [laws_FnPadded.j2, if_pos rfl] at H; exact absurd ((Option.some.inj H).trans HR_.out) (by decide)
                · rw [if_neg c28] at H
                  have c28b0 : (t188 != t190) = false := by simpa using c28
                  (try (have c28b1 : decide (t188 = t190) = true := by simpa using c28))
                  (try (have c28b2 : (t188 == t190) = true := by simpa using c28))
                  clear c28
                  (first | rw [c28b0] | (simp only [i64_w, i32_w]; rw [c28b0]) | skip)
                  have H' := Aside0.mk H
                  clear H
                  go_wp2
                  go_meet
                  case rel => exact ⟨_, ((t187.toList != t189.toList)), (by first | rfl | (simp; done) | (simp [*]; done)), H', ⟨by have := HJ6.out; have := HJ12.out; first | omega | exact Nat.le_refl _⟩, ⟨by repeat (first | (with_reducible first | exact HB.out | apply below_alloc | apply pw_below_drewN | apply below_drew1) | exact HB.out)⟩⟩
              case rest =>
                clear HC24
                try clear c1
                try clear c2
                try clear p2
                try clear c3
                try clear c3b0
                try clear c4
                try clear c5
                try clear c6
                try clear p6
                try clear c7
                try clear c8
                try clear c9
                try clear c11
                try clear c11b0
                try clear c11b1
                try clear c11b2
                try clear c12
                try clear c14
                try clear c16
                try clear c16b0
                try clear c16b1
                try clear c17
                try clear c17b0
                try clear c18
                try clear c19
                try clear c19b0
                try clear c19b1
                try clear c28
                try clear c28b0
                try clear c28b1
                try clear c28b2
                try clear p2
                try clear p6
                obtain ⟨kq, x99_23, rfl, HA, HJ23, HB⟩ := hcut
                cases kq with
                | zero => exact absurd HA.out (by simp [laws_FnPadded.j2])
                | succ kj23 =>
                  have H := HA.out
                  clear HA
                  simp only [laws_FnPadded.j2] at H
                  by_cases c29 : x99_23 = true
                  · subst c29
                    have H1 : (some false) = some r := by rw [if_pos rfl] at H; exact H
                    clear H
                    have H := H1
                    clear H1
                    exact absurd ((Option.some.inj H).trans HR_.out) (by decide)
                  · replace c29 := Bool.eq_false_iff.mpr c29
                    subst c29
                    have H1 : (if t188 = true then ((impl_PadText.f kj23 t187).bind fun bt191 => (if bt191.2 = true then (if bt191.1.toList = t186.toList then (laws_FnPadded.j3 kj23 l1) else (some false)) else (some false))) else (laws_FnPadded.j3 kj23 l1)) = some r := by rw [if_neg (show ¬ (false = true) by decide)] at H; exact H
                    clear H
                    have H := H1
                    clear H1
                    have HC30 := Aside0.mk H
                    clear H
                    go_upto_if 100 with (fail)
                    go_cut [] (fun wc => ∃ (kq : Nat), Aside0 (laws_FnPadded.j3 kq l1 = some r) ∧ Aside0 (kq ≤ kj23) ∧ Aside0 (Below w.heap.size w wc))
                    case first =>
                      have H := HC30.out
                      clear HC30
                      by_cases c31 : t188 = true
                      · subst c31
                        have H1 : ((impl_PadText.f kj23 t187).bind fun bt191 => (if bt191.2 = true then (if bt191.1.toList = t186.toList then (laws_FnPadded.j3 kj23 l1) else (some false)) else (some false))) = some r := by rw [if_pos rfl] at H; exact H
                        clear H
                        have H := H1
                        clear H1
                        replace H := Option.bind_eq_some_iff.mp H
                        obtain ⟨⟨t191, t192⟩, A320, H⟩ := H
                        replace H : (if t192 = true then (if t191.toList = t186.toList then (laws_FnPadded.j3 kj23 l1) else (some false)) else (some false)) = some r := H
                        have A32 := Aside0.mk A320
                        clear A320
                        by_cases c33 : t192 = true
                        · subst c33
                          have H1 : (if t191.toList = t186.toList then (laws_FnPadded.j3 kj23 l1) else (some false)) = some r := by rw [if_pos rfl] at H; exact H
                          clear H
                          have H := H1
                          clear H1
                          by_cases c34 : t191.toList = t186.toList
                          · rw [if_pos c34] at H
                            have c34b0 : (t191.toList == t186.toList) = true := beq_iff_eq.mpr c34
                            have c34b1 : (t191.toList != t186.toList) = false := bne_eq_false_iff_eq.mpr c34
                            clear c34
                            (first | rw [c34b0] | (simp only [i64_w, i32_w]; rw [c34b0]) | skip)
                            have H' := Aside0.mk H
                            clear H
                            go_wp2_with (first | ((with_reducible refine gate_callee (f := 5) rfl ?_); refine goesL_ (some 103) rfl rfl Try.func5 (by kernel_rfl) rfl #[.string t187] rfl (by (try simp only [List.map_toArray, List.map_cons, List.map_nil]); first | done | rfl | (simp only [List.length_drop, List.length_take]; rfl)) ?_; (with_reducible refine (impl_PadText.calls kj23 t187 t191 true _ A32.out).mono ?_); rintro e w35 ⟨rfl, hb⟩; refine ⟨_, rfl, ?_⟩; have n0_ := Aside0.mk (below_step (by repeat (first | (with_reducible first | exact HB.out | apply below_alloc | apply pw_below_drewN | apply below_drew1) | exact HB.out)) hb); clear HB; have HB := n0_; clear n0_; (try clear hb); (try clear hb2); (try clear hk); (try clear hi)))
                            go_meet
                            case rel => exact ⟨_, H', ⟨by have := HJ6.out; have := HJ12.out; have := HJ23.out; first | omega | exact Nat.le_refl _⟩, ⟨by repeat (first | (with_reducible first | exact HB.out | apply below_alloc | apply pw_below_drewN | apply below_drew1) | exact HB.out)⟩⟩
                          · rw [if_neg c34] at H
                            have c34b0 : (t191.toList == t186.toList) = false := beq_eq_false_iff_ne.mpr c34
                            have c34b1 : (t191.toList != t186.toList) = true := bne_iff_ne.mpr c34
                            (first | rw [c34b0] | (simp only [i64_w, i32_w]; rw [c34b0]) | skip)
                            exact absurd ((Option.some.inj H).trans HR_.out) (by decide)
                        · replace c33 := Bool.eq_false_iff.mpr c33
                          subst c33
                          have H1 : (some false) = some r := by rw [if_neg (show ¬ (false = true) by decide)] at H; exact H
                          clear H
                          have H := H1
                          clear H1
                          exact absurd ((Option.some.inj H).trans HR_.out) (by decide)
                      · replace c31 := Bool.eq_false_iff.mpr c31
                        subst c31
                        have H1 : (laws_FnPadded.j3 kj23 l1) = some r := by rw [if_neg (show ¬ (false = true) by decide)] at H; exact H
                        clear H
                        have H := H1
                        clear H1
                        have H' := Aside0.mk H
                        clear H
                        go_wp2
                        go_meet
                        case rel => exact ⟨_, H', ⟨by have := HJ6.out; have := HJ12.out; have := HJ23.out; first | omega | exact Nat.le_refl _⟩, ⟨by repeat (first | (with_reducible first | exact HB.out | apply below_alloc | apply pw_below_drewN | apply below_drew1) | exact HB.out)⟩⟩
                    case rest =>
                      clear HC30
                      try clear c1
                      try clear c2
                      try clear p2
                      try clear c3
                      try clear c3b0
                      try clear c4
                      try clear c5
                      try clear c6
                      try clear p6
                      try clear c7
                      try clear c8
                      try clear c9
                      try clear c11
                      try clear c11b0
                      try clear c11b1
                      try clear c11b2
                      try clear c12
                      try clear c14
                      try clear c16
                      try clear c16b0
                      try clear c16b1
                      try clear c17
                      try clear c17b0
                      try clear c18
                      try clear c19
                      try clear c19b0
                      try clear c19b1
                      try clear c28
                      try clear c28b0
                      try clear c28b1
                      try clear c28b2
                      try clear c29
                      try clear c31
                      try clear c33
                      try clear c34
                      try clear c34b0
                      try clear c34b1
                      try clear p2
                      try clear p6
                      obtain ⟨kq, HA, HJ29, HB⟩ := hcut
                      cases kq with
                      | zero => exact absurd HA.out (by simp [laws_FnPadded.j3])
                      | succ kj29 =>
                        have H := HA.out
                        clear HA
                        simp only [laws_FnPadded.j3] at H
                        replace H := Option.bind_eq_some_iff.mp H
                        obtain ⟨⟨t193, t194⟩, A360, H⟩ := H
                        replace H : ((impl_TurnWord.f t193 t194).bind fun bt195 => ((spec_TurnWord.f t193 t194).bind fun bt197 => (if (bt195.2 != bt197.2) = true then (laws_FnPadded.j4 kj29 t193 t194 bt195.1 bt195.2 true) else (laws_FnPadded.j4 kj29 t193 t194 bt195.1 bt195.2 (bt195.1 != bt197.1))))) = some r := H
                        have A36 := Aside0.mk A360
                        clear A360
                        replace H := Option.bind_eq_some_iff.mp H
                        obtain ⟨⟨t195, t196⟩, A370, H⟩ := H
                        replace H : ((spec_TurnWord.f t193 t194).bind fun bt197 => (if (t196 != bt197.2) = true then (laws_FnPadded.j4 kj29 t193 t194 t195 t196 true) else (laws_FnPadded.j4 kj29 t193 t194 t195 t196 (t195 != bt197.1)))) = some r := H
                        have A37 := Aside0.mk A370
                        clear A370
                        replace H := Option.bind_eq_some_iff.mp H
                        obtain ⟨⟨t197, t198⟩, A380, H⟩ := H
                        replace H : (if (t196 != t198) = true then (laws_FnPadded.j4 kj29 t193 t194 t195 t196 true) else (laws_FnPadded.j4 kj29 t193 t194 t195 t196 (t195 != t197))) = some r := H
                        have A38 := Aside0.mk A380
                        clear A380
                        have HC39 := Aside0.mk H
                        clear H
                        go_upto_region 24 with (first | ((with_reducible refine gate_callee (f := 10) rfl ?_); refine goesL_ (some 115) rfl rfl Try.func10 (by kernel_rfl) rfl #[.slice A1 l1.length c1] rfl (by (try simp only [List.map_toArray, List.map_cons, List.map_nil]); first | done | rfl | (simp only [List.length_drop, List.length_take]; rfl)) ?_; (with_reducible refine (spec_DrawTurnWord.calls _ _ l1 t193 t194 _ ?side1 ?side2 A36.out).mono ?_); (case side1 => repeat (first | exact (Kd.C_below HR1.out HB.out) | (with_reducible refine Kd.C_alloc ?_ _) | (with_reducible refine Kd.C_drewN ?_ _) | (with_reducible refine Kd.C_drew ?_))); (case side2 => exact HC1.out); rintro e w40 ⟨rfl, hb⟩; refine ⟨_, rfl, ?_⟩; have n0_ := Aside0.mk (below_step (by repeat (first | (with_reducible first | exact HB.out | apply below_alloc | apply pw_below_drewN | apply below_drew1) | exact HB.out)) hb); clear HB; have HB := n0_; clear n0_; (try clear hb); (try clear hb2); (try clear hk); (try clear hi)) | ((with_reducible refine gate_callee (f := 11) rfl ?_); refine goesL_ (some 121) rfl rfl Try.func11 (by kernel_rfl) rfl #[.int .i64 t193, .int .i64 t194] rfl (by (try simp only [List.map_toArray, List.map_cons, List.map_nil]); first | done | rfl | (simp only [List.length_drop, List.length_take]; rfl)) ?_; (with_reducible refine (impl_TurnWord.calls t193 t194 t195 t196 _ A37.out).mono ?_); rintro e w' ⟨rfl, ⟨nd, rfl⟩⟩; refine ⟨_, rfl, ?_⟩) | ((with_reducible refine gate_callee (f := 12) rfl ?_); refine goesL_ (some 127) rfl rfl Try.func12 (by kernel_rfl) rfl #[.int .i64 t193, .int .i64 t194] rfl (by (try simp only [List.map_toArray, List.map_cons, List.map_nil]); first | done | rfl | (simp only [List.length_drop, List.length_take]; rfl)) ?_; (with_reducible refine (spec_TurnWord.calls t193 t194 t197 t198 _ A38.out).mono ?_); rintro e w' ⟨rfl, ⟨nd, rfl⟩⟩; refine ⟨_, rfl, ?_⟩))
                        (try simp only [Act.put, List.setIfInBounds_toArray, List.set_cons_zero, List.set_cons_succ])
                        go_cut [137] (fun v137 wc => ∃ (kq : Nat) (x137_38 : Bool), v137 = .bool x137_38 ∧ Aside0 (laws_FnPadded.j4 kq t193 t194 t195 t196 x137_38 = some r) ∧ Aside0 (kq ≤ kj29) ∧ Aside0 (Below w.heap.size w wc))
                        case first =>
                          have H := HC39.out
                          clear HC39
                          by_cases c41 : (t196 != t198) = true
                          · rw [if_pos c41] at H
                            have c41b0 : (t196 != t198) = true := c41
                            (try (have c41b1 : decide (t196 = t198) = false := by simpa using c41))
                            (try (have c41b2 : (t196 == t198) = false := by simpa using c41))
                            (try (have c41b3 : ¬ (t196 = t198) := by simpa using c41))
                            clear c41
                            (first | rw [c41b0] | (simp only [i64_w, i32_w]; rw [c41b0]) | skip)
                            exfalso
                            cases kj29 with
                            | zero => exact absurd H (by simp [laws_FnPadded.j4])
                            | succ kz_ => rw [laws_FnPadded.j4, if_pos rfl] at H; exact absurd ((Option.some.inj H).trans HR_.out) (by decide)
                          · rw [if_neg c41] at H
                            have c41b0 : (t196 != t198) = false := by simpa using c41
                            (try (have c41b1 : decide (t196 = t198) = true := by simpa using c41))
                            (try (have c41b2 : (t196 == t198) = true := by simpa using c41))
                            clear c41
                            (first | rw [c41b0] | (simp only [i64_w, i32_w]; rw [c41b0]) | skip)
                            have H' := Aside0.mk H
                            clear H
                            go_wp2
                            go_meet
                            case rel => exact ⟨_, ((t195 != t197)), (by first | rfl | (simp; done) | (simp [*]; done)), H', ⟨by have := HJ6.out; have := HJ12.out; have := HJ23.out; have := HJ29.out; first | omega | exact Nat.le_refl _⟩, ⟨by repeat (first | (with_reducible first | exact HB.out | apply below_alloc | apply pw_below_drewN | apply below_drew1) | exact HB.out)⟩⟩
                        case rest =>
                          clear HC39
                          try clear c1
                          try clear c2
                          try clear p2
                          try clear c3
                          try clear c3b0
                          try clear c4
                          try clear c5
                          try clear c6
                          try clear p6
                          try clear c7
                          try clear c8
                          try clear c9
                          try clear c10
                          try clear c11
                          try clear c11b0
                          try clear c11b1
                          try clear c11b2
                          try clear c12
                          try clear c14
                          try clear c16
                          try clear c16b0
                          try clear c16b1
                          try clear c17
                          try clear c17b0
                          try clear c18
                          try clear c19
                          try clear c19b0
                          try clear c19b1
                          try clear c28
                          try clear c28b0
                          try clear c28b1
                          try clear c28b2
                          try clear c29
                          try clear c31
                          try clear c33
                          try clear c34
                          try clear c34b0
                          try clear c34b1
                          try clear c41
                          try clear c41b0
                          try clear c41b1
                          try clear c41b2
                          try clear p2
                          try clear p6
                          obtain ⟨kq, x137_38, rfl, HA, HJ38, HB⟩ := hcut
                          cases kq with
                          | zero => exact absurd HA.out (by simp [laws_FnPadded.j4])
                          | succ kj38 =>
                            have H := HA.out
                            clear HA
                            simp only [laws_FnPadded.j4] at H
                            by_cases c42 : x137_38 = true
                            · subst c42
                              have H1 : (some false) = some r := by rw [if_pos rfl] at H; exact H
                              clear H
                              have H := H1
                              clear H1
                              exact absurd ((Option.some.inj H).trans HR_.out) (by decide)
                            · replace c42 := Bool.eq_false_iff.mpr c42
                              subst c42
                              have H1 : (if t196 = true then ((impl_TurnWord.f t195 (Int.tmod (wrap64 (32 - t194)) 32)).bind fun bt199 => (if bt199.2 = true then (some (bt199.1 == t193)) else (some false))) else (some true)) = some r := by rw [if_neg (show ¬ (false = true) by decide)] at H; exact H
                              clear H
                              have H := H1
                              clear H1
                              by_cases c43 : t196 = true
                              · subst c43
                                have H1 : ((impl_TurnWord.f t195 (Int.tmod (wrap64 (32 - t194)) 32)).bind fun bt199 => (if bt199.2 = true then (some (bt199.1 == t193)) else (some false))) = some r := by rw [if_pos rfl] at H; exact H
                                clear H
                                have H := H1
                                clear H1
                                replace H := Option.bind_eq_some_iff.mp H
                                obtain ⟨⟨t199, t200⟩, A440, H⟩ := H
                                replace H : (if t200 = true then (some (t199 == t193)) else (some false)) = some r := H
                                have A44 := Aside0.mk A440
                                clear A440
                                by_cases c45 : t200 = true
                                · subst c45
                                  have H1 : (some (t199 == t193)) = some r := by rw [if_pos rfl] at H; exact H
                                  clear H
                                  have H := H1
                                  clear H1
                                  obtain rfl := Option.some.inj H
                                  go_wp2_with (first | ((with_reducible refine gate_callee (f := 11) rfl ?_); refine goesL_ (some 144) rfl rfl Try.func11 (by kernel_rfl) rfl #[.int .i64 t195, .int .i64 (Int.tmod (wrap64 (32 - t194)) 32)] rfl (by (try simp only [List.map_toArray, List.map_cons, List.map_nil]); first | done | rfl | (simp only [List.length_drop, List.length_take]; rfl)) ?_; (with_reducible refine (impl_TurnWord.calls t195 (Int.tmod (wrap64 (32 - t194)) 32) t199 true _ A44.out).mono ?_); rintro e w' ⟨rfl, ⟨nd, rfl⟩⟩; refine ⟨_, rfl, ?_⟩))
                                  go_ret
                                  exact ⟨by first | rfl | (simp [errW_none, errW_some] <;> rfl) | (simp [*, errW_none, errW_some] <;> rfl), by repeat (first | (with_reducible first | exact HB.out | apply below_alloc | apply pw_below_drewN | apply below_drew1) | exact HB.out)⟩
                                · replace c45 := Bool.eq_false_iff.mpr c45
                                  subst c45
                                  have H1 : (some false) = some r := by rw [if_neg (show ¬ (false = true) by decide)] at H; exact H
                                  clear H
                                  have H := H1
                                  clear H1
                                  exact absurd ((Option.some.inj H).trans HR_.out) (by decide)
                              · replace c43 := Bool.eq_false_iff.mpr c43
                                subst c43
                                have H1 : (some true) = some r := by rw [if_neg (show ¬ (false = true) by decide)] at H; exact H
                                clear H
                                have H := H1
                                clear H1
                                obtain rfl := Option.some.inj H
                                go_wp2
                                go_ret
                                exact ⟨by first | rfl | (simp [errW_none, errW_some] <;> rfl) | (simp [*, errW_none, errW_some] <;> rfl), by repeat (first | (with_reducible first | exact HB.out | apply below_alloc | apply pw_below_drewN | apply below_drew1) | exact HB.out)⟩

/-- THE ONE PURE STATEMENT of laws_FnPadded: yours. -/
def laws_FnPadded.Pure : Prop := ∀ (l0 : List Int) (l1 : List Int), l0.length ≤ maxLen → l0.length * 1 ≤ 140737488351232 → (∀ x ∈ l0, (Lit.int .u8 x).wf = true) → l1.length ≤ maxLen → l1.length * 1 ≤ 140737488351232 → (∀ x ∈ l1, (Lit.int .u8 x).wf = true) → ∃ k, laws_FnPadded.f k l0 l1 = some true
theorem laws_FnPadded.walk (P : laws_FnPadded.Pure) (a0 : Option Addr) (len0 cap0 : Nat) (z0 : List Int) (a1 : Option Addr) (len1 cap1 : Nat) (z1 : List Int) (w : World) (w0 : (a0 = none ∧ len0 = 0 ∧ cap0 = 0 ∧ z0 = []) ∨ ∃ x, a0 = some x ∧ len0 ≤ cap0 ∧ cap0 ≤ maxLen ∧ z0.length = cap0 ∧ (∀ i, i < z0.length → w.cell? (x.add i) = some (.int .u8 (z0.getD i 0))) ∧ ∀ n ∈ z0, (Lit.int .u8 n).wf = true) (y0 : len0 * 1 ≤ 140737488351232) (w1 : (a1 = none ∧ len1 = 0 ∧ cap1 = 0 ∧ z1 = []) ∨ ∃ x, a1 = some x ∧ len1 ≤ cap1 ∧ cap1 ≤ maxLen ∧ z1.length = cap1 ∧ (∀ i, i < z1.length → w.cell? (x.add i) = some (.int .u8 (z1.getD i 0))) ∧ ∀ n ∈ z1, (Lit.int .u8 n).wf = true) (y1 : len1 * 1 ≤ 140737488351232) :
    Calls Try.prog 3 #[.slice a0 len0 cap0, .slice a1 len1 cap1] w fun e w' => e = .returned (.bool true) ∧ Below w.heap.size w w' := by
  obtain ⟨l0, rfl, hr0, hm0, hw0, hc0⟩ := ReadsInt.ofRowC w0
  obtain ⟨l1, rfl, hr1, hm1, hw1, hc1⟩ := ReadsInt.ofRowC w1
  obtain ⟨k, h⟩ := P l0 l1 hm0 y0 hw0 hm1 y1 hw1
  refine (laws_FnPadded.calls k _ _ l0 _ _ l1 true w rfl (Kd.C_of_reads (d := (0 : Int)) (h1 := fun _ => rfl) hr0) hc0 (Kd.C_of_reads (d := (0 : Int)) (h1 := fun _ => rfl) hr1) hc1 h).mono ?_
  rintro e w' ⟨rfl, hd⟩
  exact ⟨rfl, hd⟩

end
end Go.Proofs.Ytgoedenbekedbaa.PFnPadded
