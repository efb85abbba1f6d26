-- Printed for this claim by a changed copy of the kit's printing program (wip/tools/patch_print.py); Lean checks it.
import Derived.Test.YtdlljfejfgfmgaaPFnPowersx0
import Derived.Test.YtdlljfejfgfmgaaPFnPowersx1
import Derived.Test.YtdlljfejfgfmgaaPFnPowersx2
import Derived.Test.YtdlljfejfgfmgaaPFnPowersx3
import Derived.Test.YtdlljfejfgfmgaaPFnPowersx4
import Derived.Test.YtdlljfejfgfmgaaPFnPowersx5
namespace Go.Proofs.Ytdlljfejfgfmgaa.PFnPowers
open Go.RowKit Go.Proofs.YtdlljfejfgfmgaaW.PrintWords Go.Proofs.YtdlljfejfgfmgaaW.PrintLast Go.Proofs.YtdlljfejfgfmgaaW.PrintMore
attribute [local go_sem] max2_int min2_int max_two min_two max_three min_three max_four min_four   -- for this text's walks alone
set_option linter.unusedVariables false
set_option linter.unusedSimpArgs false

noncomputable section
/-! ### laws_FnPowers: function 3 -/
mutual
def laws_FnPowers.j0 : Nat → List Int → Int → Int → Int → Int → Bool → Bool → Option (Bool)
  | 0, _, _, _, _, _, _, _ => none
  | k + 1, x1, x5, x6, x7, x8, x9, x73 => if x73 = true then (some false) else (if x9 = true then ((laws_numberOf.f k x1).bind fun t243 => ((impl_PowerMod.f k x5 (Int.tmod t243 1000) x7).bind fun bt244 => ((impl_PowerMod.f k x5 (wrap64 (x6 + (Int.tmod t243 1000))) x7).bind fun bt246 => ((impl_PowerMod.f k x5 (wrap64 (x7 - 1)) x7).bind fun bt248 => (if bt244.2 = true then (if bt246.2 = true then (if x7 = 0 then (none) else (if bt246.1 = (Int.tmod (wrap64 (x8 * bt244.1)) x7) then (if bt248.2 = true then (if x5 = 0 then (if bt248.1 = 0 then (laws_FnPowers.j1 k x1) else (some false)) else (if bt248.1 = 1 then (laws_FnPowers.j1 k x1) else (some false))) else (some false)) else (some false))) else (if bt248.2 = true then (if x5 = 0 then (if bt248.1 = 0 then (laws_FnPowers.j1 k x1) else (some false)) else (if bt248.1 = 1 then (laws_FnPowers.j1 k x1) else (some false))) else (some false))) else (some false)))))) else (laws_FnPowers.j1 k x1))
def laws_FnPowers.j1 : Nat → List Int → Option (Bool)
  | 0, _ => none
  | k + 1, x1 => (spec_DrawInverseMod.f k x1).bind fun bt250 => ((impl_InverseMod.f k bt250.1 bt250.2).bind fun bt252 => ((spec_InverseMod.f k bt250.1 bt250.2).bind fun bt254 => (if (bt252.2 != bt254.2) = true then (laws_FnPowers.j2 k x1 true) else (if bt252.1 = bt254.1 then (if bt252.2 = true then (if bt250.2 = 0 then (none) else (laws_FnPowers.j2 k x1 ((Int.tmod (wrap64 (bt250.1 * bt252.1)) bt250.2) != 1))) else (laws_FnPowers.j2 k x1 false)) else (laws_FnPowers.j2 k x1 true)))))
def laws_FnPowers.j2 : Nat → List Int → Bool → Option (Bool)
  | 0, _, _ => none
  | k + 1, x1, x171 => if x171 = true then (some false) else ((spec_DrawBothEuclid.f x1).bind fun bt256 => ((impl_BothEuclid.f k bt256.1 bt256.2).bind fun bt258 => ((spec_BothEuclid.f k bt256.1 bt256.2).bind fun bt262 => (if (bt258.2.2.2 != bt262.2.2.2) = true then (laws_FnPowers.j3 k x1 bt256.1 bt256.2 bt258.1 bt258.2.1 bt258.2.2.1 bt258.2.2.2 true) else (if bt258.1 = bt262.1 then (if bt258.2.1 = bt262.2.1 then (laws_FnPowers.j3 k x1 bt256.1 bt256.2 bt258.1 bt258.2.1 bt258.2.2.1 bt258.2.2.2 (bt258.2.2.1 != bt262.2.2.1)) else (laws_FnPowers.j3 k x1 bt256.1 bt256.2 bt258.1 bt258.2.1 bt258.2.2.1 bt258.2.2.2 true)) else (laws_FnPowers.j3 k x1 bt256.1 bt256.2 bt258.1 bt258.2.1 bt258.2.2.1 bt258.2.2.2 true))))))
def laws_FnPowers.j3 : Nat → List Int → Int → Int → Int → Int → Int → Bool → Bool → Option (Bool)
  | 0, _, _, _, _, _, _, _, _ => none
  | k + 1, x1, x25, x26, x27, x28, x29, x30, x210 => if x210 = true then (some false) else (if x30 = true then (if x27 < 1 then (laws_FnPowers.j4 k x1 true) else (if (wrap64 ((wrap64 (x28 * x25)) + (wrap64 (x29 * x26)))) = x27 then (if x27 = 0 then (none) else (if (Int.tmod x25 x27) = 0 then (laws_FnPowers.j4 k x1 ((Int.tmod x26 x27) != 0)) else (laws_FnPowers.j4 k x1 true))) else (laws_FnPowers.j4 k x1 true))) else (laws_FnPowers.j4 k x1 false))
def laws_FnPowers.j4 : Nat → List Int → Bool → Option (Bool)
  | 0, _, _ => none
  | k + 1, x1, x238 => if x238 = true then (some false) else ((spec_DrawIsPrime.f x1).bind fun t266 => ((impl_IsPrime.f k t266).bind fun bt267 => ((spec_IsPrime.f k t266).bind fun bt269 => (if (bt267.2 == bt269.2) = true then (some (bt267.1 == bt269.1)) else (some false)))))
end
def laws_FnPowers.f (k : Nat) (l0 : List Int) (l1 : List Int) : Option (Bool) := if (wrap64 ((l0.length : Int) + (l1.length : Int))) > 1048576 then (some true) else ((spec_DrawPowerMod.f k l0).bind fun bt236 => ((impl_PowerMod.f k bt236.1 bt236.2.1 bt236.2.2).bind fun bt239 => ((spec_PowerMod.f k bt236.1 bt236.2.1 bt236.2.2).bind fun bt241 => (if (bt239.2 != bt241.2) = true then (laws_FnPowers.j0 k l1 bt236.1 bt236.2.1 bt236.2.2 bt239.1 bt239.2 true) else (laws_FnPowers.j0 k l1 bt236.1 bt236.2.1 bt236.2.2 bt239.1 bt239.2 (bt239.1 != bt241.1))))))
theorem laws_FnPowers.mono_l : ∀ k, (∀ y0 y1 y2 y3 y4 y5 y6, LeO (laws_FnPowers.j0 k y0 y1 y2 y3 y4 y5 y6) (laws_FnPowers.j0 (k + 1) y0 y1 y2 y3 y4 y5 y6)) ∧ (∀ y0, LeO (laws_FnPowers.j1 k y0) (laws_FnPowers.j1 (k + 1) y0)) ∧ (∀ y0 y1, LeO (laws_FnPowers.j2 k y0 y1) (laws_FnPowers.j2 (k + 1) y0 y1)) ∧ (∀ y0 y1 y2 y3 y4 y5 y6 y7, LeO (laws_FnPowers.j3 k y0 y1 y2 y3 y4 y5 y6 y7) (laws_FnPowers.j3 (k + 1) y0 y1 y2 y3 y4 y5 y6 y7)) ∧ (∀ y0 y1, LeO (laws_FnPowers.j4 k y0 y1) (laws_FnPowers.j4 (k + 1) y0 y1))
  | 0 => ⟨fun _ _ _ _ _ _ _ r h => by simp [laws_FnPowers.j0] at h, fun _ r h => by simp [laws_FnPowers.j1] at h, fun _ _ r h => by simp [laws_FnPowers.j2] at h, fun _ _ _ _ _ _ _ _ r h => by simp [laws_FnPowers.j3] at h, fun _ _ r h => by simp [laws_FnPowers.j4] at h⟩
  | k + 1 => by
    obtain ⟨ih0, ih1, ih2, ih3, ih4⟩ := laws_FnPowers.mono_l k
    refine ⟨?_, ?_, ?_, ?_, ?_⟩
    · intro y0 y1 y2 y3 y4 y5 y6
      unfold laws_FnPowers.j0
      repeat' first
      | (with_reducible exact ih0 _ _ _ _ _ _ _)
      | (with_reducible exact ih1 _)
      | (with_reducible exact ih2 _ _)
      | (with_reducible exact ih3 _ _ _ _ _ _ _ _)
      | (with_reducible exact ih4 _ _)
      | (with_reducible exact impl_BothEuclid.mono _ _ _)
      | (with_reducible exact impl_InverseMod.mono _ _ _)
      | (with_reducible exact impl_IsPrime.mono _ _)
      | (with_reducible exact impl_PowerMod.mono _ _ _ _)
      | (with_reducible exact laws_numberOf.mono _ _)
      | (with_reducible exact spec_BothEuclid.mono _ _ _)
      | (with_reducible exact spec_DrawInverseMod.mono _ _)
      | (with_reducible exact spec_DrawPowerMod.mono _ _)
      | (with_reducible exact spec_InverseMod.mono _ _ _)
      | (with_reducible exact spec_IsPrime.mono _ _)
      | (with_reducible exact spec_PowerMod.mono _ _ _ _)
      | (with_reducible exact LeO.refl _)
      | (with_reducible exact LeO.none _)
      | (with_reducible refine LeO.ite ?_ ?_)
      | (with_reducible refine LeO.bind ?_ (fun _ => ?_))
      | exact ih0 _ _ _ _ _ _ _
      | exact ih1 _
      | exact ih2 _ _
      | exact ih3 _ _ _ _ _ _ _ _
      | exact ih4 _ _
      | exact impl_BothEuclid.mono _ _ _
      | exact impl_InverseMod.mono _ _ _
      | exact impl_IsPrime.mono _ _
      | exact impl_PowerMod.mono _ _ _ _
      | exact laws_numberOf.mono _ _
      | exact spec_BothEuclid.mono _ _ _
      | exact spec_DrawInverseMod.mono _ _
      | exact spec_DrawPowerMod.mono _ _
      | exact spec_InverseMod.mono _ _ _
      | exact spec_IsPrime.mono _ _
      | exact spec_PowerMod.mono _ _ _ _
      | exact LeO.none _
      | refine LeO.ite ?_ ?_
      | refine LeO.bind ?_ (fun _ => ?_)
    · intro y0
      unfold laws_FnPowers.j1
      repeat' first
      | (with_reducible exact ih0 _ _ _ _ _ _ _)
      | (with_reducible exact ih1 _)
      | (with_reducible exact ih2 _ _)
      | (with_reducible exact ih3 _ _ _ _ _ _ _ _)
      | (with_reducible exact ih4 _ _)
      | (with_reducible exact impl_BothEuclid.mono _ _ _)
      | (with_reducible exact impl_InverseMod.mono _ _ _)
      | (with_reducible exact impl_IsPrime.mono _ _)
      | (with_reducible exact impl_PowerMod.mono _ _ _ _)
      | (with_reducible exact laws_numberOf.mono _ _)
      | (with_reducible exact spec_BothEuclid.mono _ _ _)
      | (with_reducible exact spec_DrawInverseMod.mono _ _)
      | (with_reducible exact spec_DrawPowerMod.mono _ _)
      | (with_reducible exact spec_InverseMod.mono _ _ _)
      | (with_reducible exact spec_IsPrime.mono _ _)
      | (with_reducible exact spec_PowerMod.mono _ _ _ _)
      | (with_reducible exact LeO.refl _)
      | (with_reducible exact LeO.none _)
      | (with_reducible refine LeO.ite ?_ ?_)
      | (with_reducible refine LeO.bind ?_ (fun _ => ?_))
      | exact ih0 _ _ _ _ _ _ _
      | exact ih1 _
      | exact ih2 _ _
      | exact ih3 _ _ _ _ _ _ _ _
      | exact ih4 _ _
      | exact impl_BothEuclid.mono _ _ _
      | exact impl_InverseMod.mono _ _ _
      | exact impl_IsPrime.mono _ _
      | exact impl_PowerMod.mono _ _ _ _
      | exact laws_numberOf.mono _ _
      | exact spec_BothEuclid.mono _ _ _
      | exact spec_DrawInverseMod.mono _ _
      | exact spec_DrawPowerMod.mono _ _
      | exact spec_InverseMod.mono _ _ _
      | exact spec_IsPrime.mono _ _
      | exact spec_PowerMod.mono _ _ _ _
      | exact LeO.none _
      | refine LeO.ite ?_ ?_
      | refine LeO.bind ?_ (fun _ => ?_)
    · intro y0 y1
      unfold laws_FnPowers.j2
      repeat' first
      | (with_reducible exact ih0 _ _ _ _ _ _ _)
      | (with_reducible exact ih1 _)
      | (with_reducible exact ih2 _ _)
      | (with_reducible exact ih3 _ _ _ _ _ _ _ _)
      | (with_reducible exact ih4 _ _)
      | (with_reducible exact impl_BothEuclid.mono _ _ _)
      | (with_reducible exact impl_InverseMod.mono _ _ _)
      | (with_reducible exact impl_IsPrime.mono _ _)
      | (with_reducible exact impl_PowerMod.mono _ _ _ _)
      | (with_reducible exact laws_numberOf.mono _ _)
      | (with_reducible exact spec_BothEuclid.mono _ _ _)
      | (with_reducible exact spec_DrawInverseMod.mono _ _)
      | (with_reducible exact spec_DrawPowerMod.mono _ _)
      | (with_reducible exact spec_InverseMod.mono _ _ _)
      | (with_reducible exact spec_IsPrime.mono _ _)
      | (with_reducible exact spec_PowerMod.mono _ _ _ _)
      | (with_reducible exact LeO.refl _)
      | (with_reducible exact LeO.none _)
      | (with_reducible refine LeO.ite ?_ ?_)
      | (with_reducible refine LeO.bind ?_ (fun _ => ?_))
      | exact ih0 _ _ _ _ _ _ _
      | exact ih1 _
      | exact ih2 _ _
      | exact ih3 _ _ _ _ _ _ _ _
      | exact ih4 _ _
      | exact impl_BothEuclid.mono _ _ _
      | exact impl_InverseMod.mono _ _ _
      | exact impl_IsPrime.mono _ _
      | exact impl_PowerMod.mono _ _ _ _
      | exact laws_numberOf.mono _ _
      | exact spec_BothEuclid.mono _ _ _
      | exact spec_DrawInverseMod.mono _ _
      | exact spec_DrawPowerMod.mono _ _
      | exact spec_InverseMod.mono _ _ _
      | exact spec_IsPrime.mono _ _
      | exact spec_PowerMod.mono _ _ _ _
      | exact LeO.none _
      | refine LeO.ite ?_ ?_
      | refine LeO.bind ?_ (fun _ => ?_)
    · intro y0 y1 y2 y3 y4 y5 y6 y7
      unfold laws_FnPowers.j3
      repeat' first
      | (with_reducible exact ih0 _ _ _ _ _ _ _)
      | (with_reducible exact ih1 _)
      | (with_reducible exact ih2 _ _)
      | (with_reducible exact ih3 _ _ _ _ _ _ _ _)
      | (with_reducible exact ih4 _ _)
      | (with_reducible exact impl_BothEuclid.mono _ _ _)
      | (with_reducible exact impl_InverseMod.mono _ _ _)
      | (with_reducible exact impl_IsPrime.mono _ _)
      | (with_reducible exact impl_PowerMod.mono _ _ _ _)
      | (with_reducible exact laws_numberOf.mono _ _)
      | (with_reducible exact spec_BothEuclid.mono _ _ _)
      | (with_reducible exact spec_DrawInverseMod.mono _ _)
      | (with_reducible exact spec_DrawPowerMod.mono _ _)
      | (with_reducible exact spec_InverseMod.mono _ _ _)
      | (with_reducible exact spec_IsPrime.mono _ _)
      | (with_reducible exact spec_PowerMod.mono _ _ _ _)
      | (with_reducible exact LeO.refl _)
      | (with_reducible exact LeO.none _)
      | (with_reducible refine LeO.ite ?_ ?_)
      | (with_reducible refine LeO.bind ?_ (fun _ => ?_))
      | exact ih0 _ _ _ _ _ _ _
      | exact ih1 _
      | exact ih2 _ _
      | exact ih3 _ _ _ _ _ _ _ _
      | exact ih4 _ _
      | exact impl_BothEuclid.mono _ _ _
      | exact impl_InverseMod.mono _ _ _
      | exact impl_IsPrime.mono _ _
      | exact impl_PowerMod.mono _ _ _ _
      | exact laws_numberOf.mono _ _
      | exact spec_BothEuclid.mono _ _ _
      | exact spec_DrawInverseMod.mono _ _
      | exact spec_DrawPowerMod.mono _ _
      | exact spec_InverseMod.mono _ _ _
      | exact spec_IsPrime.mono _ _
      | exact spec_PowerMod.mono _ _ _ _
      | exact LeO.none _
      | refine LeO.ite ?_ ?_
      | refine LeO.bind ?_ (fun _ => ?_)
    · intro y0 y1
      unfold laws_FnPowers.j4
      repeat' first
      | (with_reducible exact ih0 _ _ _ _ _ _ _)
      | (with_reducible exact ih1 _)
      | (with_reducible exact ih2 _ _)
      | (with_reducible exact ih3 _ _ _ _ _ _ _ _)
      | (with_reducible exact ih4 _ _)
      | (with_reducible exact impl_BothEuclid.mono _ _ _)
      | (with_reducible exact impl_InverseMod.mono _ _ _)
      | (with_reducible exact impl_IsPrime.mono _ _)
      | (with_reducible exact impl_PowerMod.mono _ _ _ _)
      | (with_reducible exact laws_numberOf.mono _ _)
      | (with_reducible exact spec_BothEuclid.mono _ _ _)
      | (with_reducible exact spec_DrawInverseMod.mono _ _)
      | (with_reducible exact spec_DrawPowerMod.mono _ _)
      | (with_reducible exact spec_InverseMod.mono _ _ _)
      | (with_reducible exact spec_IsPrime.mono _ _)
      | (with_reducible exact spec_PowerMod.mono _ _ _ _)
      | (with_reducible exact LeO.refl _)
      | (with_reducible exact LeO.none _)
      | (with_reducible refine LeO.ite ?_ ?_)
      | (with_reducible refine LeO.bind ?_ (fun _ => ?_))
      | exact ih0 _ _ _ _ _ _ _
      | exact ih1 _
      | exact ih2 _ _
      | exact ih3 _ _ _ _ _ _ _ _
      | exact ih4 _ _
      | exact impl_BothEuclid.mono _ _ _
      | exact impl_InverseMod.mono _ _ _
      | exact impl_IsPrime.mono _ _
      | exact impl_PowerMod.mono _ _ _ _
      | exact laws_numberOf.mono _ _
      | exact spec_BothEuclid.mono _ _ _
      | exact spec_DrawInverseMod.mono _ _
      | exact spec_DrawPowerMod.mono _ _
      | exact spec_InverseMod.mono _ _ _
      | exact spec_IsPrime.mono _ _
      | exact spec_PowerMod.mono _ _ _ _
      | exact LeO.none _
      | refine LeO.ite ?_ ?_
      | refine LeO.bind ?_ (fun _ => ?_)
theorem laws_FnPowers.mono : ∀ a0 a1 k, LeO (laws_FnPowers.f k a0 a1) (laws_FnPowers.f (k + 1) a0 a1) := by
  intro a0 a1 k
  obtain ⟨ih0, ih1, ih2, ih3, ih4⟩ := laws_FnPowers.mono_l k
  unfold laws_FnPowers.f
  repeat' first
      | (with_reducible exact ih0 _ _ _ _ _ _ _)
      | (with_reducible exact ih1 _)
      | (with_reducible exact ih2 _ _)
      | (with_reducible exact ih3 _ _ _ _ _ _ _ _)
      | (with_reducible exact ih4 _ _)
      | (with_reducible exact impl_BothEuclid.mono _ _ _)
      | (with_reducible exact impl_InverseMod.mono _ _ _)
      | (with_reducible exact impl_IsPrime.mono _ _)
      | (with_reducible exact impl_PowerMod.mono _ _ _ _)
      | (with_reducible exact laws_numberOf.mono _ _)
      | (with_reducible exact spec_BothEuclid.mono _ _ _)
      | (with_reducible exact spec_DrawInverseMod.mono _ _)
      | (with_reducible exact spec_DrawPowerMod.mono _ _)
      | (with_reducible exact spec_InverseMod.mono _ _ _)
      | (with_reducible exact spec_IsPrime.mono _ _)
      | (with_reducible exact spec_PowerMod.mono _ _ _ _)
      | (with_reducible exact LeO.refl _)
      | (with_reducible exact LeO.none _)
      | (with_reducible refine LeO.ite ?_ ?_)
      | (with_reducible refine LeO.bind ?_ (fun _ => ?_))
      | exact ih0 _ _ _ _ _ _ _
      | exact ih1 _
      | exact ih2 _ _
      | exact ih3 _ _ _ _ _ _ _ _
      | exact ih4 _ _
      | exact impl_BothEuclid.mono _ _ _
      | exact impl_InverseMod.mono _ _ _
      | exact impl_IsPrime.mono _ _
      | exact impl_PowerMod.mono _ _ _ _
      | exact laws_numberOf.mono _ _
      | exact spec_BothEuclid.mono _ _ _
      | exact spec_DrawInverseMod.mono _ _
      | exact spec_DrawPowerMod.mono _ _
      | exact spec_InverseMod.mono _ _ _
      | exact spec_IsPrime.mono _ _
      | exact spec_PowerMod.mono _ _ _ _
      | exact LeO.none _
      | refine LeO.ite ?_ ?_
      | refine LeO.bind ?_ (fun _ => ?_)
set_option maxHeartbeats 8000000 in
set_option maxRecDepth 100000 in
theorem laws_FnPowers.calls (k : Nat) (A0 : Option Addr) (c0 : Nat) (l0 : List Int) (A1 : Option Addr) (c1 : Nat) (l1 : List Int) (r : Bool) (w : World) (hr0 : Kd.C (Kd.int .u8) w A0 l0.length l0) (hc0 : l0.length ≤ c0) (hr1 : Kd.C (Kd.int .u8) w A1 l1.length l1) (hc1 : l1.length ≤ c1) (h : laws_FnPowers.f k l0 l1 = some r) :
    Calls Try.prog 3 #[.slice A0 l0.length c0, .slice A1 l1.length c1] w fun e w' => e = .returned (.bool r) ∧ Below w.heap.size w w' := by
  have HR0 := Aside0.mk hr0
  have HC0 := Aside0.mk hc0
  clear hr0 hc0
  have HR1 := Aside0.mk hr1
  have HC1 := Aside0.mk hc1
  clear hr1 hc1
  have HB := Aside0.mk (Below.refl w.heap.size w)
  have H : (if (wrap64 ((l0.length : Int) + (l1.length : Int))) > 1048576 then (some true) else ((spec_DrawPowerMod.f k l0).bind fun bt236 => ((impl_PowerMod.f k bt236.1 bt236.2.1 bt236.2.2).bind fun bt239 => ((spec_PowerMod.f k bt236.1 bt236.2.1 bt236.2.2).bind fun bt241 => (if (bt239.2 != bt241.2) = true then (laws_FnPowers.j0 k l1 bt236.1 bt236.2.1 bt236.2.2 bt239.1 bt239.2 true) else (laws_FnPowers.j0 k l1 bt236.1 bt236.2.1 bt236.2.2 bt239.1 bt239.2 (bt239.1 != bt241.1))))))) = some r := h
  clear h
  by_cases c3 : (wrap64 ((l0.length : Int) + (l1.length : Int))) > 1048576
  · rw [if_pos c3] at H
    have c3b0 : decide (1048576 < (wrap64 ((l0.length : Int) + (l1.length : Int)))) = true := decide_eq_true c3
    clear c3
    as_aux_lemma =>
      obtain rfl := Option.some.inj H
      go_enter Try.func3, Try.ntmps3
      go_wp2
      go_ret
      exact ⟨by first | rfl | (simp [errW_none, errW_some] <;> rfl) | (simp [*, errW_none, errW_some] <;> rfl), by repeat (first | (with_reducible first | exact HB.out | apply below_alloc | apply pw_below_drewN | apply below_drew1) | exact HB.out)⟩
  · rw [if_neg c3] at H
    have c3b0 : decide (1048576 < (wrap64 ((l0.length : Int) + (l1.length : Int)))) = false := decide_eq_false c3
    clear c3
    replace H := Option.bind_eq_some_iff.mp H
    obtain ⟨⟨t236, t237, t238⟩, A40, H⟩ := H
    replace H : ((impl_PowerMod.f k t236 t237 t238).bind fun bt239 => ((spec_PowerMod.f k t236 t237 t238).bind fun bt241 => (if (bt239.2 != bt241.2) = true then (laws_FnPowers.j0 k l1 t236 t237 t238 bt239.1 bt239.2 true) else (laws_FnPowers.j0 k l1 t236 t237 t238 bt239.1 bt239.2 (bt239.1 != bt241.1))))) = some r := H
    have A4 := Aside0.mk A40
    clear A40
    replace H := Option.bind_eq_some_iff.mp H
    obtain ⟨⟨t239, t240⟩, A50, H⟩ := H
    replace H : ((spec_PowerMod.f k t236 t237 t238).bind fun bt241 => (if (t240 != bt241.2) = true then (laws_FnPowers.j0 k l1 t236 t237 t238 t239 t240 true) else (laws_FnPowers.j0 k l1 t236 t237 t238 t239 t240 (t239 != bt241.1)))) = some r := H
    have A5 := Aside0.mk A50
    clear A50
    replace H := Option.bind_eq_some_iff.mp H
    obtain ⟨⟨t241, t242⟩, A60, H⟩ := H
    replace H : (if (t240 != t242) = true then (laws_FnPowers.j0 k l1 t236 t237 t238 t239 t240 true) else (laws_FnPowers.j0 k l1 t236 t237 t238 t239 t240 (t239 != t241))) = some r := H
    have A6 := Aside0.mk A60
    clear A60
    have HC7 := Aside0.mk H
    clear H
    go_enter Try.func3, Try.ntmps3
    go_upto_region 6 with (first | ((with_reducible refine gate_callee (f := 7) rfl ?_); refine goesL_ (some 48) rfl rfl Try.func7 (by kernel_rfl) rfl #[.slice A0 l0.length c0] rfl (by (try simp only [List.map_toArray, List.map_cons, List.map_nil]); first | done | rfl | (simp only [List.length_drop, List.length_take]; rfl)) ?_; (with_reducible refine (spec_DrawPowerMod.calls k _ _ l0 t236 t237 t238 _ ?side1 ?side2 A4.out).mono ?_); (case side1 => repeat (first | exact HR0.out | (with_reducible refine Kd.C_alloc ?_ _) | (with_reducible refine Kd.C_drewN ?_ _) | (with_reducible refine Kd.C_drew ?_))); (case side2 => exact HC0.out); rintro e w8 ⟨rfl, hb⟩; refine ⟨_, rfl, ?_⟩; have n0_ := Aside0.mk (below_step (by repeat (first | (with_reducible first | exact HB.out | apply below_alloc | apply pw_below_drewN | apply below_drew1) | exact HB.out)) hb); clear HB; have HB := n0_; clear n0_; (try clear hb); (try clear hb2); (try clear hk); (try clear hi)) | ((with_reducible refine gate_callee (f := 8) rfl ?_); refine goesL_ (some 56) rfl rfl Try.func8 (by kernel_rfl) rfl #[.int .i64 t236, .int .i64 t237, .int .i64 t238] rfl (by (try simp only [List.map_toArray, List.map_cons, List.map_nil]); first | done | rfl | (simp only [List.length_drop, List.length_take]; rfl)) ?_; (with_reducible refine (impl_PowerMod.calls k t236 t237 t238 t239 t240 _ A5.out).mono ?_); rintro e w' ⟨rfl, ⟨nd, rfl⟩⟩; refine ⟨_, rfl, ?_⟩) | ((with_reducible refine gate_callee (f := 9) rfl ?_); refine goesL_ (some 63) rfl rfl Try.func9 (by kernel_rfl) rfl #[.int .i64 t236, .int .i64 t237, .int .i64 t238] rfl (by (try simp only [List.map_toArray, List.map_cons, List.map_nil]); first | done | rfl | (simp only [List.length_drop, List.length_take]; rfl)) ?_; (with_reducible refine (spec_PowerMod.calls k t236 t237 t238 t241 t242 _ A6.out).mono ?_); rintro e w' ⟨rfl, ⟨nd, rfl⟩⟩; refine ⟨_, rfl, ?_⟩))
    (try simp only [Act.put, List.setIfInBounds_toArray, List.set_cons_zero, List.set_cons_succ])
    go_cut [73] (fun v73 wc => ∃ (kq : Nat) (x73_6 : Bool), v73 = .bool x73_6 ∧ Aside0 (laws_FnPowers.j0 kq l1 t236 t237 t238 t239 t240 x73_6 = some r) ∧ Aside0 (kq ≤ k) ∧ Aside0 (Below w.heap.size w wc))
    case first =>
      have H := HC7.out
      clear HC7
      by_cases c9 : (t240 != t242) = true
      · rw [if_pos c9] at H
        have c9b0 : (t240 != t242) = true := c9
        (try (have c9b1 : decide (t240 = t242) = false := by simpa using c9))
        (try (have c9b2 : (t240 == t242) = false := by simpa using c9))
        (try (have c9b3 : ¬ (t240 = t242) := by simpa using c9))
        clear c9
        (first | rw [c9b0] | (simp only [i64_w, i32_w]; rw [c9b0]) | skip)
        as_aux_lemma =>
          have H' := Aside0.mk H
          clear H
          go_wp2
          go_meet
          case rel => exact ⟨_, (true), (by first | rfl | (simp; done) | (simp [*]; done)), H', ⟨by first | omega | exact Nat.le_refl _⟩, ⟨by repeat (first | (with_reducible first | exact HB.out | apply below_alloc | apply pw_below_drewN | apply below_drew1) | exact HB.out)⟩⟩
      · rw [if_neg c9] at H
        have c9b0 : (t240 != t242) = false := by simpa using c9
        (try (have c9b1 : decide (t240 = t242) = true := by simpa using c9))
        (try (have c9b2 : (t240 == t242) = true := by simpa using c9))
        clear c9
        (first | rw [c9b0] | (simp only [i64_w, i32_w]; rw [c9b0]) | skip)
        as_aux_lemma =>
          have H' := Aside0.mk H
          clear H
          go_wp2
          go_meet
          case rel => exact ⟨_, ((t239 != t241)), (by first | rfl | (simp; done) | (simp [*]; done)), H', ⟨by first | omega | exact Nat.le_refl _⟩, ⟨by repeat (first | (with_reducible first | exact HB.out | apply below_alloc | apply pw_below_drewN | apply below_drew1) | exact HB.out)⟩⟩
    case rest =>
      clear HC7
      try clear c1
      try clear p2
      try clear c3
      try clear c3b0
      try clear p6
      try clear c7
      try clear c8
      try clear c9
      try clear c9b0
      try clear c9b1
      try clear c9b2
      obtain ⟨kq, x73_6, rfl, HA, HJ6, HB⟩ := hcut
      cases kq with
      | zero => exact absurd HA.out (by simp [laws_FnPowers.j0])
      | succ kj6 =>
        have H := HA.out
        clear HA
        simp only [laws_FnPowers.j0] at H
        by_cases c10 : x73_6 = true
        · subst c10
          have H1 : (some false) = some r := by rw [if_pos rfl] at H; exact H
          clear H
          have H := H1
          clear H1
          as_aux_lemma =>
            obtain rfl := Option.some.inj H
            go_wp2
            go_ret
            exact ⟨by first | rfl | (simp [errW_none, errW_some] <;> rfl) | (simp [*, errW_none, errW_some] <;> rfl), by repeat (first | (with_reducible first | exact HB.out | apply below_alloc | apply pw_below_drewN | apply below_drew1) | exact HB.out)⟩
        · replace c10 := Bool.eq_false_iff.mpr c10
          subst c10
          have H1 : (if t240 = true then ((laws_numberOf.f kj6 l1).bind fun t243 => ((impl_PowerMod.f kj6 t236 (Int.tmod t243 1000) t238).bind fun bt244 => ((impl_PowerMod.f kj6 t236 (wrap64 (t237 + (Int.tmod t243 1000))) t238).bind fun bt246 => ((impl_PowerMod.f kj6 t236 (wrap64 (t238 - 1)) t238).bind fun bt248 => (if bt244.2 = true then (if bt246.2 = true then (if t238 = 0 then (none) else (if bt246.1 = (Int.tmod (wrap64 (t239 * bt244.1)) t238) then (if bt248.2 = true then (if t236 = 0 then (if bt248.1 = 0 then (laws_FnPowers.j1 kj6 l1) else (some false)) else (if bt248.1 = 1 then (laws_FnPowers.j1 kj6 l1) else (some false))) else (some false)) else (some false))) else (if bt248.2 = true then (if t236 = 0 then (if bt248.1 = 0 then (laws_FnPowers.j1 kj6 l1) else (some false)) else (if bt248.1 = 1 then (laws_FnPowers.j1 kj6 l1) else (some false))) else (some false))) else (some false)))))) else (laws_FnPowers.j1 kj6 l1)) = some r := by rw [if_neg (show ¬ (false = true) by decide)] at H; exact H
          clear H
          have H := H1
          clear H1
          have HC11 := Aside0.mk H
          clear H
          go_upto_if 74 with (fail)
          go_cut [] (fun wc => ∃ (kq : Nat), Aside0 (laws_FnPowers.j1 kq l1 = some r) ∧ Aside0 (kq ≤ kj6) ∧ Aside0 (Below w.heap.size w wc))
          case first =>
            have H := HC11.out
            clear HC11
            by_cases c12 : t240 = true
            · subst c12
              have H1 : ((laws_numberOf.f kj6 l1).bind fun t243 => ((impl_PowerMod.f kj6 t236 (Int.tmod t243 1000) t238).bind fun bt244 => ((impl_PowerMod.f kj6 t236 (wrap64 (t237 + (Int.tmod t243 1000))) t238).bind fun bt246 => ((impl_PowerMod.f kj6 t236 (wrap64 (t238 - 1)) t238).bind fun bt248 => (if bt244.2 = true then (if bt246.2 = true then (if t238 = 0 then (none) else (if bt246.1 = (Int.tmod (wrap64 (t239 * bt244.1)) t238) then (if bt248.2 = true then (if t236 = 0 then (if bt248.1 = 0 then (laws_FnPowers.j1 kj6 l1) else (some false)) else (if bt248.1 = 1 then (laws_FnPowers.j1 kj6 l1) else (some false))) else (some false)) else (some false))) else (if bt248.2 = true then (if t236 = 0 then (if bt248.1 = 0 then (laws_FnPowers.j1 kj6 l1) else (some false)) else (if bt248.1 = 1 then (laws_FnPowers.j1 kj6 l1) else (some false))) else (some false))) else (some false)))))) = some r := by rw [if_pos rfl] at H; exact H
              clear H
              have H := H1
              clear H1
              replace H := Option.bind_eq_some_iff.mp H
              obtain ⟨t243, A130, H⟩ := H
              replace H : ((impl_PowerMod.f kj6 t236 (Int.tmod t243 1000) t238).bind fun bt244 => ((impl_PowerMod.f kj6 t236 (wrap64 (t237 + (Int.tmod t243 1000))) t238).bind fun bt246 => ((impl_PowerMod.f kj6 t236 (wrap64 (t238 - 1)) t238).bind fun bt248 => (if bt244.2 = true then (if bt246.2 = true then (if t238 = 0 then (none) else (if bt246.1 = (Int.tmod (wrap64 (t239 * bt244.1)) t238) then (if bt248.2 = true then (if t236 = 0 then (if bt248.1 = 0 then (laws_FnPowers.j1 kj6 l1) else (some false)) else (if bt248.1 = 1 then (laws_FnPowers.j1 kj6 l1) else (some false))) else (some false)) else (some false))) else (if bt248.2 = true then (if t236 = 0 then (if bt248.1 = 0 then (laws_FnPowers.j1 kj6 l1) else (some false)) else (if bt248.1 = 1 then (laws_FnPowers.j1 kj6 l1) else (some false))) else (some false))) else (some false))))) = some r := H
              have A13 := Aside0.mk A130
              clear A130
              replace H := Option.bind_eq_some_iff.mp H
              obtain ⟨⟨t244, t245⟩, A140, H⟩ := H
              replace H : ((impl_PowerMod.f kj6 t236 (wrap64 (t237 + (Int.tmod t243 1000))) t238).bind fun bt246 => ((impl_PowerMod.f kj6 t236 (wrap64 (t238 - 1)) t238).bind fun bt248 => (if t245 = true then (if bt246.2 = true then (if t238 = 0 then (none) else (if bt246.1 = (Int.tmod (wrap64 (t239 * t244)) t238) then (if bt248.2 = true then (if t236 = 0 then (if bt248.1 = 0 then (laws_FnPowers.j1 kj6 l1) else (some false)) else (if bt248.1 = 1 then (laws_FnPowers.j1 kj6 l1) else (some false))) else (some false)) else (some false))) else (if bt248.2 = true then (if t236 = 0 then (if bt248.1 = 0 then (laws_FnPowers.j1 kj6 l1) else (some false)) else (if bt248.1 = 1 then (laws_FnPowers.j1 kj6 l1) else (some false))) else (some false))) else (some false)))) = some r := H
              have A14 := Aside0.mk A140
              clear A140
              replace H := Option.bind_eq_some_iff.mp H
              obtain ⟨⟨t246, t247⟩, A150, H⟩ := H
              replace H : ((impl_PowerMod.f kj6 t236 (wrap64 (t238 - 1)) t238).bind fun bt248 => (if t245 = true then (if t247 = true then (if t238 = 0 then (none) else (if t246 = (Int.tmod (wrap64 (t239 * t244)) t238) then (if bt248.2 = true then (if t236 = 0 then (if bt248.1 = 0 then (laws_FnPowers.j1 kj6 l1) else (some false)) else (if bt248.1 = 1 then (laws_FnPowers.j1 kj6 l1) else (some false))) else (some false)) else (some false))) else (if bt248.2 = true then (if t236 = 0 then (if bt248.1 = 0 then (laws_FnPowers.j1 kj6 l1) else (some false)) else (if bt248.1 = 1 then (laws_FnPowers.j1 kj6 l1) else (some false))) else (some false))) else (some false))) = some r := H
              have A15 := Aside0.mk A150
              clear A150
              replace H := Option.bind_eq_some_iff.mp H
              obtain ⟨⟨t248, t249⟩, A160, H⟩ := H
              replace H : (if t245 = true then (if t247 = true then (if t238 = 0 then (none) else (if t246 = (Int.tmod (wrap64 (t239 * t244)) t238) then (if t249 = true then (if t236 = 0 then (if t248 = 0 then (laws_FnPowers.j1 kj6 l1) else (some false)) else (if t248 = 1 then (laws_FnPowers.j1 kj6 l1) else (some false))) else (some false)) else (some false))) else (if t249 = true then (if t236 = 0 then (if t248 = 0 then (laws_FnPowers.j1 kj6 l1) else (some false)) else (if t248 = 1 then (laws_FnPowers.j1 kj6 l1) else (some false))) else (some false))) else (some false)) = some r := H
              have A16 := Aside0.mk A160
              clear A160
              by_cases c17 : t245 = true
              · subst c17
                have H1 : (if t247 = true then (if t238 = 0 then (none) else (if t246 = (Int.tmod (wrap64 (t239 * t244)) t238) then (if t249 = true then (if t236 = 0 then (if t248 = 0 then (laws_FnPowers.j1 kj6 l1) else (some false)) else (if t248 = 1 then (laws_FnPowers.j1 kj6 l1) else (some false))) else (some false)) else (some false))) else (if t249 = true then (if t236 = 0 then (if t248 = 0 then (laws_FnPowers.j1 kj6 l1) else (some false)) else (if t248 = 1 then (laws_FnPowers.j1 kj6 l1) else (some false))) else (some false))) = some r := by rw [if_pos rfl] at H; exact H
                clear H
                have H := H1
                clear H1
                by_cases c18 : t247 = true
                · subst c18
                  have H1 : (if t238 = 0 then (none) else (if t246 = (Int.tmod (wrap64 (t239 * t244)) t238) then (if t249 = true then (if t236 = 0 then (if t248 = 0 then (laws_FnPowers.j1 kj6 l1) else (some false)) else (if t248 = 1 then (laws_FnPowers.j1 kj6 l1) else (some false))) else (some false)) else (some false))) = some r := by rw [if_pos rfl] at H; exact H
                  clear H
                  have H := H1
                  clear H1
                  by_cases c19 : t238 = 0
                  · rw [if_pos c19] at H
                    exact absurd H (by simp)
                  · rw [if_neg c19] at H
                    have c19b0 : (t238 == 0) = false := beq_eq_false_iff_ne.mpr c19
                    have c19b1 : (t238 != 0) = true := bne_iff_ne.mpr c19
                    (first | rw [c19b0] | (simp only [i64_w, i32_w]; rw [c19b0]) | skip)
                    by_cases c20 : t246 = (Int.tmod (wrap64 (t239 * t244)) t238)
                    · rw [if_pos c20] at H
                      have c20b0 : (t246 == (Int.tmod (wrap64 (t239 * t244)) t238)) = true := beq_iff_eq.mpr c20
                      have c20b1 : (t246 != (Int.tmod (wrap64 (t239 * t244)) t238)) = false := bne_eq_false_iff_eq.mpr c20
                      clear c20
                      by_cases c21 : t249 = true
                      · subst c21
                        have H1 : (if t236 = 0 then (if t248 = 0 then (laws_FnPowers.j1 kj6 l1) else (some false)) else (if t248 = 1 then (laws_FnPowers.j1 kj6 l1) else (some false))) = some r := by rw [if_pos rfl] at H; exact H
                        clear H
                        have H := H1
                        clear H1
                        by_cases c22 : t236 = 0
                        · rw [if_pos c22] at H
                          have c22b0 : (t236 == 0) = true := beq_iff_eq.mpr c22
                          have c22b1 : (t236 != 0) = false := bne_eq_false_iff_eq.mpr c22
                          clear c22
                          by_cases c23 : t248 = 0
                          · rw [if_pos c23] at H
                            have c23b0 : (t248 == 0) = true := beq_iff_eq.mpr c23
                            have c23b1 : (t248 != 0) = false := bne_eq_false_iff_eq.mpr c23
                            clear c23
                            as_aux_lemma =>
                              have H' := Aside0.mk H
                              clear H
                              go_wp2_with (first | ((with_reducible refine gate_callee (f := 10) rfl ?_); refine goesL_ (some 76) rfl rfl Try.func10 (by kernel_rfl) rfl #[.slice A1 l1.length c1] rfl (by (try simp only [List.map_toArray, List.map_cons, List.map_nil]); first | done | rfl | (simp only [List.length_drop, List.length_take]; rfl)) ?_; (with_reducible refine (laws_numberOf.calls kj6 _ _ l1 t243 _ ?side1 ?side2 A13.out).mono ?_); (case side1 => repeat (first | exact (Kd.C_below HR1.out HB.out) | (with_reducible refine Kd.C_alloc ?_ _) | (with_reducible refine Kd.C_drewN ?_ _) | (with_reducible refine Kd.C_drew ?_))); (case side2 => exact HC1.out); rintro e w' ⟨rfl, ⟨nd, rfl⟩⟩; refine ⟨_, rfl, ?_⟩) | ((with_reducible refine gate_callee (f := 8) rfl ?_); refine goesL_ (some 82) rfl rfl Try.func8 (by kernel_rfl) rfl #[.int .i64 t236, .int .i64 (Int.tmod t243 1000), .int .i64 t238] rfl (by (try simp only [List.map_toArray, List.map_cons, List.map_nil]); first | done | rfl | (simp only [List.length_drop, List.length_take]; rfl)) ?_; (with_reducible refine (impl_PowerMod.calls kj6 t236 (Int.tmod t243 1000) t238 t244 true _ A14.out).mono ?_); rintro e w' ⟨rfl, ⟨nd, rfl⟩⟩; refine ⟨_, rfl, ?_⟩) | ((with_reducible refine gate_callee (f := 8) rfl ?_); refine goesL_ (some 91) rfl rfl Try.func8 (by kernel_rfl) rfl #[.int .i64 t236, .int .i64 (wrap64 (t237 + (Int.tmod t243 1000))), .int .i64 t238] rfl (by (try simp only [List.map_toArray, List.map_cons, List.map_nil]); first | done | rfl | (simp only [List.length_drop, List.length_take]; rfl)) ?_; (with_reducible refine (impl_PowerMod.calls kj6 t236 (wrap64 (t237 + (Int.tmod t243 1000))) t238 t246 true _ A15.out).mono ?_); rintro e w' ⟨rfl, ⟨nd, rfl⟩⟩; refine ⟨_, rfl, ?_⟩) | ((with_reducible refine gate_callee (f := 8) rfl ?_); refine goesL_ (some 99) rfl rfl Try.func8 (by kernel_rfl) rfl #[.int .i64 t236, .int .i64 (wrap64 (t238 - 1)), .int .i64 t238] rfl (by (try simp only [List.map_toArray, List.map_cons, List.map_nil]); first | done | rfl | (simp only [List.length_drop, List.length_take]; rfl)) ?_; (with_reducible refine (impl_PowerMod.calls kj6 t236 (wrap64 (t238 - 1)) t238 t248 true _ A16.out).mono ?_); rintro e w' ⟨rfl, ⟨nd, rfl⟩⟩; refine ⟨_, rfl, ?_⟩))
                              go_meet
                              case rel => exact ⟨_, H', ⟨by have := HJ6.out; first | omega | exact Nat.le_refl _⟩, ⟨by repeat (first | (with_reducible first | exact HB.out | apply below_alloc | apply pw_below_drewN | apply below_drew1) | exact HB.out)⟩⟩
                          · rw [if_neg c23] at H
                            have c23b0 : (t248 == 0) = false := beq_eq_false_iff_ne.mpr c23
                            have c23b1 : (t248 != 0) = true := bne_iff_ne.mpr c23
                            as_aux_lemma =>
                              obtain rfl := Option.some.inj H
                              go_wp2_with (first | ((with_reducible refine gate_callee (f := 10) rfl ?_); refine goesL_ (some 76) rfl rfl Try.func10 (by kernel_rfl) rfl #[.slice A1 l1.length c1] rfl (by (try simp only [List.map_toArray, List.map_cons, List.map_nil]); first | done | rfl | (simp only [List.length_drop, List.length_take]; rfl)) ?_; (with_reducible refine (laws_numberOf.calls kj6 _ _ l1 t243 _ ?side1 ?side2 A13.out).mono ?_); (case side1 => repeat (first | exact (Kd.C_below HR1.out HB.out) | (with_reducible refine Kd.C_alloc ?_ _) | (with_reducible refine Kd.C_drewN ?_ _) | (with_reducible refine Kd.C_drew ?_))); (case side2 => exact HC1.out); rintro e w' ⟨rfl, ⟨nd, rfl⟩⟩; refine ⟨_, rfl, ?_⟩) | ((with_reducible refine gate_callee (f := 8) rfl ?_); refine goesL_ (some 82) rfl rfl Try.func8 (by kernel_rfl) rfl #[.int .i64 t236, .int .i64 (Int.tmod t243 1000), .int .i64 t238] rfl (by (try simp only [List.map_toArray, List.map_cons, List.map_nil]); first | done | rfl | (simp only [List.length_drop, List.length_take]; rfl)) ?_; (with_reducible refine (impl_PowerMod.calls kj6 t236 (Int.tmod t243 1000) t238 t244 true _ A14.out).mono ?_); rintro e w' ⟨rfl, ⟨nd, rfl⟩⟩; refine ⟨_, rfl, ?_⟩) | ((with_reducible refine gate_callee (f := 8) rfl ?_); refine goesL_ (some 91) rfl rfl Try.func8 (by kernel_rfl) rfl #[.int .i64 t236, .int .i64 (wrap64 (t237 + (Int.tmod t243 1000))), .int .i64 t238] rfl (by (try simp only [List.map_toArray, List.map_cons, List.map_nil]); first | done | rfl | (simp only [List.length_drop, List.length_take]; rfl)) ?_; (with_reducible refine (impl_PowerMod.calls kj6 t236 (wrap64 (t237 + (Int.tmod t243 1000))) t238 t246 true _ A15.out).mono ?_); rintro e w' ⟨rfl, ⟨nd, rfl⟩⟩; refine ⟨_, rfl, ?_⟩) | ((with_reducible refine gate_callee (f := 8) rfl ?_); refine goesL_ (some 99) rfl rfl Try.func8 (by kernel_rfl) rfl #[.int .i64 t236, .int .i64 (wrap64 (t238 - 1)), .int .i64 t238] rfl (by (try simp only [List.map_toArray, List.map_cons, List.map_nil]); first | done | rfl | (simp only [List.length_drop, List.length_take]; rfl)) ?_; (with_reducible refine (impl_PowerMod.calls kj6 t236 (wrap64 (t238 - 1)) t238 t248 true _ A16.out).mono ?_); rintro e w' ⟨rfl, ⟨nd, rfl⟩⟩; refine ⟨_, rfl, ?_⟩))
                              go_ret
                              exact ⟨by first | rfl | (simp [errW_none, errW_some] <;> rfl) | (simp [*, errW_none, errW_some] <;> rfl), by repeat (first | (with_reducible first | exact HB.out | apply below_alloc | apply pw_below_drewN | apply below_drew1) | exact HB.out)⟩
                        · rw [if_neg c22] at H
                          have c22b0 : (t236 == 0) = false := beq_eq_false_iff_ne.mpr c22
                          have c22b1 : (t236 != 0) = true := bne_iff_ne.mpr c22
                          by_cases c24 : t248 = 1
                          · rw [if_pos c24] at H
                            have c24b0 : (t248 == 1) = true := beq_iff_eq.mpr c24
                            have c24b1 : (t248 != 1) = false := bne_eq_false_iff_eq.mpr c24
                            clear c24
                            as_aux_lemma =>
                              have H' := Aside0.mk H
                              clear H
                              go_wp2_with (first | ((with_reducible refine gate_callee (f := 10) rfl ?_); refine goesL_ (some 76) rfl rfl Try.func10 (by kernel_rfl) rfl #[.slice A1 l1.length c1] rfl (by (try simp only [List.map_toArray, List.map_cons, List.map_nil]); first | done | rfl | (simp only [List.length_drop, List.length_take]; rfl)) ?_; (with_reducible refine (laws_numberOf.calls kj6 _ _ l1 t243 _ ?side1 ?side2 A13.out).mono ?_); (case side1 => repeat (first | exact (Kd.C_below HR1.out HB.out) | (with_reducible refine Kd.C_alloc ?_ _) | (with_reducible refine Kd.C_drewN ?_ _) | (with_reducible refine Kd.C_drew ?_))); (case side2 => exact HC1.out); rintro e w' ⟨rfl, ⟨nd, rfl⟩⟩; refine ⟨_, rfl, ?_⟩) | ((with_reducible refine gate_callee (f := 8) rfl ?_); refine goesL_ (some 82) rfl rfl Try.func8 (by kernel_rfl) rfl #[.int .i64 t236, .int .i64 (Int.tmod t243 1000), .int .i64 t238] rfl (by (try simp only [List.map_toArray, List.map_cons, List.map_nil]); first | done | rfl | (simp only [List.length_drop, List.length_take]; rfl)) ?_; (with_reducible refine (impl_PowerMod.calls kj6 t236 (Int.tmod t243 1000) t238 t244 true _ A14.out).mono ?_); rintro e w' ⟨rfl, ⟨nd, rfl⟩⟩; refine ⟨_, rfl, ?_⟩) | ((with_reducible refine gate_callee (f := 8) rfl ?_); refine goesL_ (some 91) rfl rfl Try.func8 (by kernel_rfl) rfl #[.int .i64 t236, .int .i64 (wrap64 (t237 + (Int.tmod t243 1000))), .int .i64 t238] rfl (by (try simp only [List.map_toArray, List.map_cons, List.map_nil]); first | done | rfl | (simp only [List.length_drop, List.length_take]; rfl)) ?_; (with_reducible refine (impl_PowerMod.calls kj6 t236 (wrap64 (t237 + (Int.tmod t243 1000))) t238 t246 true _ A15.out).mono ?_); rintro e w' ⟨rfl, ⟨nd, rfl⟩⟩; refine ⟨_, rfl, ?_⟩) | ((with_reducible refine gate_callee (f := 8) rfl ?_); refine goesL_ (some 99) rfl rfl Try.func8 (by kernel_rfl) rfl #[.int .i64 t236, .int .i64 (wrap64 (t238 - 1)), .int .i64 t238] rfl (by (try simp only [List.map_toArray, List.map_cons, List.map_nil]); first | done | rfl | (simp only [List.length_drop, List.length_take]; rfl)) ?_; (with_reducible refine (impl_PowerMod.calls kj6 t236 (wrap64 (t238 - 1)) t238 t248 true _ A16.out).mono ?_); rintro e w' ⟨rfl, ⟨nd, rfl⟩⟩; refine ⟨_, rfl, ?_⟩))
                              go_meet
                              case rel => exact ⟨_, H', ⟨by have := HJ6.out; first | omega | exact Nat.le_refl _⟩, ⟨by repeat (first | (with_reducible first | exact HB.out | apply below_alloc | apply pw_below_drewN | apply below_drew1) | exact HB.out)⟩⟩
                          · rw [if_neg c24] at H
                            have c24b0 : (t248 == 1) = false := beq_eq_false_iff_ne.mpr c24
                            have c24b1 : (t248 != 1) = true := bne_iff_ne.mpr c24
                            as_aux_lemma =>
                              obtain rfl := Option.some.inj H
                              go_wp2_with (first | ((with_reducible refine gate_callee (f := 10) rfl ?_); refine goesL_ (some 76) rfl rfl Try.func10 (by kernel_rfl) rfl #[.slice A1 l1.length c1] rfl (by (try simp only [List.map_toArray, List.map_cons, List.map_nil]); first | done | rfl | (simp only [List.length_drop, List.length_take]; rfl)) ?_; (with_reducible refine (laws_numberOf.calls kj6 _ _ l1 t243 _ ?side1 ?side2 A13.out).mono ?_); (case side1 => repeat (first | exact (Kd.C_below HR1.out HB.out) | (with_reducible refine Kd.C_alloc ?_ _) | (with_reducible refine Kd.C_drewN ?_ _) | (with_reducible refine Kd.C_drew ?_))); (case side2 => exact HC1.out); rintro e w' ⟨rfl, ⟨nd, rfl⟩⟩; refine ⟨_, rfl, ?_⟩) | ((with_reducible refine gate_callee (f := 8) rfl ?_); refine goesL_ (some 82) rfl rfl Try.func8 (by kernel_rfl) rfl #[.int .i64 t236, .int .i64 (Int.tmod t243 1000), .int .i64 t238] rfl (by (try simp only [List.map_toArray, List.map_cons, List.map_nil]); first | done | rfl | (simp only [List.length_drop, List.length_take]; rfl)) ?_; (with_reducible refine (impl_PowerMod.calls kj6 t236 (Int.tmod t243 1000) t238 t244 true _ A14.out).mono ?_); rintro e w' ⟨rfl, ⟨nd, rfl⟩⟩; refine ⟨_, rfl, ?_⟩) | ((with_reducible refine gate_callee (f := 8) rfl ?_); refine goesL_ (some 91) rfl rfl Try.func8 (by kernel_rfl) rfl #[.int .i64 t236, .int .i64 (wrap64 (t237 + (Int.tmod t243 1000))), .int .i64 t238] rfl (by (try simp only [List.map_toArray, List.map_cons, List.map_nil]); first | done | rfl | (simp only [List.length_drop, List.length_take]; rfl)) ?_; (with_reducible refine (impl_PowerMod.calls kj6 t236 (wrap64 (t237 + (Int.tmod t243 1000))) t238 t246 true _ A15.out).mono ?_); rintro e w' ⟨rfl, ⟨nd, rfl⟩⟩; refine ⟨_, rfl, ?_⟩) | ((with_reducible refine gate_callee (f := 8) rfl ?_); refine goesL_ (some 99) rfl rfl Try.func8 (by kernel_rfl) rfl #[.int .i64 t236, .int .i64 (wrap64 (t238 - 1)), .int .i64 t238] rfl (by (try simp only [List.map_toArray, List.map_cons, List.map_nil]); first | done | rfl | (simp only [List.length_drop, List.length_take]; rfl)) ?_; (with_reducible refine (impl_PowerMod.calls kj6 t236 (wrap64 (t238 - 1)) t238 t248 true _ A16.out).mono ?_); rintro e w' ⟨rfl, ⟨nd, rfl⟩⟩; refine ⟨_, rfl, ?_⟩))
                              go_ret
                              exact ⟨by first | rfl | (simp [errW_none, errW_some] <;> rfl) | (simp [*, errW_none, errW_some] <;> rfl), by repeat (first | (with_reducible first | exact HB.out | apply below_alloc | apply pw_below_drewN | apply below_drew1) | exact HB.out)⟩
                      · replace c21 := Bool.eq_false_iff.mpr c21
                        subst c21
                        have H1 : (some false) = some r := by rw [if_neg (show ¬ (false = true) by decide)] at H; exact H
                        clear H
                        have H := H1
                        clear H1
                        as_aux_lemma =>
                          obtain rfl := Option.some.inj H
                          go_wp2_with (first | ((with_reducible refine gate_callee (f := 10) rfl ?_); refine goesL_ (some 76) rfl rfl Try.func10 (by kernel_rfl) rfl #[.slice A1 l1.length c1] rfl (by (try simp only [List.map_toArray, List.map_cons, List.map_nil]); first | done | rfl | (simp only [List.length_drop, List.length_take]; rfl)) ?_; (with_reducible refine (laws_numberOf.calls kj6 _ _ l1 t243 _ ?side1 ?side2 A13.out).mono ?_); (case side1 => repeat (first | exact (Kd.C_below HR1.out HB.out) | (with_reducible refine Kd.C_alloc ?_ _) | (with_reducible refine Kd.C_drewN ?_ _) | (with_reducible refine Kd.C_drew ?_))); (case side2 => exact HC1.out); rintro e w' ⟨rfl, ⟨nd, rfl⟩⟩; refine ⟨_, rfl, ?_⟩) | ((with_reducible refine gate_callee (f := 8) rfl ?_); refine goesL_ (some 82) rfl rfl Try.func8 (by kernel_rfl) rfl #[.int .i64 t236, .int .i64 (Int.tmod t243 1000), .int .i64 t238] rfl (by (try simp only [List.map_toArray, List.map_cons, List.map_nil]); first | done | rfl | (simp only [List.length_drop, List.length_take]; rfl)) ?_; (with_reducible refine (impl_PowerMod.calls kj6 t236 (Int.tmod t243 1000) t238 t244 true _ A14.out).mono ?_); rintro e w' ⟨rfl, ⟨nd, rfl⟩⟩; refine ⟨_, rfl, ?_⟩) | ((with_reducible refine gate_callee (f := 8) rfl ?_); refine goesL_ (some 91) rfl rfl Try.func8 (by kernel_rfl) rfl #[.int .i64 t236, .int .i64 (wrap64 (t237 + (Int.tmod t243 1000))), .int .i64 t238] rfl (by (try simp only [List.map_toArray, List.map_cons, List.map_nil]); first | done | rfl | (simp only [List.length_drop, List.length_take]; rfl)) ?_; (with_reducible refine (impl_PowerMod.calls kj6 t236 (wrap64 (t237 + (Int.tmod t243 1000))) t238 t246 true _ A15.out).mono ?_); rintro e w' ⟨rfl, ⟨nd, rfl⟩⟩; refine ⟨_, rfl, ?_⟩) | ((with_reducible refine gate_callee (f := 8) rfl ?_); refine goesL_ (some 99) rfl rfl Try.func8 (by kernel_rfl) rfl #[.int .i64 t236, .int .i64 (wrap64 (t238 - 1)), .int .i64 t238] rfl (by (try simp only [List.map_toArray, List.map_cons, List.map_nil]); first | done | rfl | (simp only [List.length_drop, List.length_take]; rfl)) ?_; (with_reducible refine (impl_PowerMod.calls kj6 t236 (wrap64 (t238 - 1)) t238 t248 false _ A16.out).mono ?_); rintro e w' ⟨rfl, ⟨nd, rfl⟩⟩; refine ⟨_, rfl, ?_⟩))
                          go_ret
                          exact ⟨by first | rfl | (simp [errW_none, errW_some] <;> rfl) | (simp [*, errW_none, errW_some] <;> rfl), by repeat (first | (with_reducible first | exact HB.out | apply below_alloc | apply pw_below_drewN | apply below_drew1) | exact HB.out)⟩
                    · rw [if_neg c20] at H
                      have c20b0 : (t246 == (Int.tmod (wrap64 (t239 * t244)) t238)) = false := beq_eq_false_iff_ne.mpr c20
                      have c20b1 : (t246 != (Int.tmod (wrap64 (t239 * t244)) t238)) = true := bne_iff_ne.mpr c20
                      as_aux_lemma =>
                        obtain rfl := Option.some.inj H
                        go_wp2_with (first | ((with_reducible refine gate_callee (f := 10) rfl ?_); refine goesL_ (some 76) rfl rfl Try.func10 (by kernel_rfl) rfl #[.slice A1 l1.length c1] rfl (by (try simp only [List.map_toArray, List.map_cons, List.map_nil]); first | done | rfl | (simp only [List.length_drop, List.length_take]; rfl)) ?_; (with_reducible refine (laws_numberOf.calls kj6 _ _ l1 t243 _ ?side1 ?side2 A13.out).mono ?_); (case side1 => repeat (first | exact (Kd.C_below HR1.out HB.out) | (with_reducible refine Kd.C_alloc ?_ _) | (with_reducible refine Kd.C_drewN ?_ _) | (with_reducible refine Kd.C_drew ?_))); (case side2 => exact HC1.out); rintro e w' ⟨rfl, ⟨nd, rfl⟩⟩; refine ⟨_, rfl, ?_⟩) | ((with_reducible refine gate_callee (f := 8) rfl ?_); refine goesL_ (some 82) rfl rfl Try.func8 (by kernel_rfl) rfl #[.int .i64 t236, .int .i64 (Int.tmod t243 1000), .int .i64 t238] rfl (by (try simp only [List.map_toArray, List.map_cons, List.map_nil]); first | done | rfl | (simp only [List.length_drop, List.length_take]; rfl)) ?_; (with_reducible refine (impl_PowerMod.calls kj6 t236 (Int.tmod t243 1000) t238 t244 true _ A14.out).mono ?_); rintro e w' ⟨rfl, ⟨nd, rfl⟩⟩; refine ⟨_, rfl, ?_⟩) | ((with_reducible refine gate_callee (f := 8) rfl ?_); refine goesL_ (some 91) rfl rfl Try.func8 (by kernel_rfl) rfl #[.int .i64 t236, .int .i64 (wrap64 (t237 + (Int.tmod t243 1000))), .int .i64 t238] rfl (by (try simp only [List.map_toArray, List.map_cons, List.map_nil]); first | done | rfl | (simp only [List.length_drop, List.length_take]; rfl)) ?_; (with_reducible refine (impl_PowerMod.calls kj6 t236 (wrap64 (t237 + (Int.tmod t243 1000))) t238 t246 true _ A15.out).mono ?_); rintro e w' ⟨rfl, ⟨nd, rfl⟩⟩; refine ⟨_, rfl, ?_⟩) | ((with_reducible refine gate_callee (f := 8) rfl ?_); refine goesL_ (some 99) rfl rfl Try.func8 (by kernel_rfl) rfl #[.int .i64 t236, .int .i64 (wrap64 (t238 - 1)), .int .i64 t238] rfl (by (try simp only [List.map_toArray, List.map_cons, List.map_nil]); first | done | rfl | (simp only [List.length_drop, List.length_take]; rfl)) ?_; (with_reducible refine (impl_PowerMod.calls kj6 t236 (wrap64 (t238 - 1)) t238 t248 t249 _ A16.out).mono ?_); rintro e w' ⟨rfl, ⟨nd, rfl⟩⟩; refine ⟨_, rfl, ?_⟩))
                        go_ret
                        exact ⟨by first | rfl | (simp [errW_none, errW_some] <;> rfl) | (simp [*, errW_none, errW_some] <;> rfl), by repeat (first | (with_reducible first | exact HB.out | apply below_alloc | apply pw_below_drewN | apply below_drew1) | exact HB.out)⟩
                · replace c18 := Bool.eq_false_iff.mpr c18
                  subst c18
                  have H1 : (if t249 = true then (if t236 = 0 then (if t248 = 0 then (laws_FnPowers.j1 kj6 l1) else (some false)) else (if t248 = 1 then (laws_FnPowers.j1 kj6 l1) else (some false))) else (some false)) = some r := by rw [if_neg (show ¬ (false = true) by decide)] at H; exact H
                  clear H
                  have H := H1
                  clear H1
                  by_cases c25 : t249 = true
                  · subst c25
                    have H1 : (if t236 = 0 then (if t248 = 0 then (laws_FnPowers.j1 kj6 l1) else (some false)) else (if t248 = 1 then (laws_FnPowers.j1 kj6 l1) else (some false))) = some r := by rw [if_pos rfl] at H; exact H
                    clear H
                    have H := H1
                    clear H1
                    by_cases c26 : t236 = 0
                    · rw [if_pos c26] at H
                      have c26b0 : (t236 == 0) = true := beq_iff_eq.mpr c26
                      have c26b1 : (t236 != 0) = false := bne_eq_false_iff_eq.mpr c26
                      clear c26
                      by_cases c27 : t248 = 0
                      · rw [if_pos c27] at H
                        have c27b0 : (t248 == 0) = true := beq_iff_eq.mpr c27
                        have c27b1 : (t248 != 0) = false := bne_eq_false_iff_eq.mpr c27
                        clear c27
                        as_aux_lemma =>
                          have H' := Aside0.mk H
                          clear H
                          go_wp2_with (first | ((with_reducible refine gate_callee (f := 10) rfl ?_); refine goesL_ (some 76) rfl rfl Try.func10 (by kernel_rfl) rfl #[.slice A1 l1.length c1] rfl (by (try simp only [List.map_toArray, List.map_cons, List.map_nil]); first | done | rfl | (simp only [List.length_drop, List.length_take]; rfl)) ?_; (with_reducible refine (laws_numberOf.calls kj6 _ _ l1 t243 _ ?side1 ?side2 A13.out).mono ?_); (case side1 => repeat (first | exact (Kd.C_below HR1.out HB.out) | (with_reducible refine Kd.C_alloc ?_ _) | (with_reducible refine Kd.C_drewN ?_ _) | (with_reducible refine Kd.C_drew ?_))); (case side2 => exact HC1.out); rintro e w' ⟨rfl, ⟨nd, rfl⟩⟩; refine ⟨_, rfl, ?_⟩) | ((with_reducible refine gate_callee (f := 8) rfl ?_); refine goesL_ (some 82) rfl rfl Try.func8 (by kernel_rfl) rfl #[.int .i64 t236, .int .i64 (Int.tmod t243 1000), .int .i64 t238] rfl (by (try simp only [List.map_toArray, List.map_cons, List.map_nil]); first | done | rfl | (simp only [List.length_drop, List.length_take]; rfl)) ?_; (with_reducible refine (impl_PowerMod.calls kj6 t236 (Int.tmod t243 1000) t238 t244 true _ A14.out).mono ?_); rintro e w' ⟨rfl, ⟨nd, rfl⟩⟩; refine ⟨_, rfl, ?_⟩) | ((with_reducible refine gate_callee (f := 8) rfl ?_); refine goesL_ (some 91) rfl rfl Try.func8 (by kernel_rfl) rfl #[.int .i64 t236, .int .i64 (wrap64 (t237 + (Int.tmod t243 1000))), .int .i64 t238] rfl (by (try simp only [List.map_toArray, List.map_cons, List.map_nil]); first | done | rfl | (simp only [List.length_drop, List.length_take]; rfl)) ?_; (with_reducible refine (impl_PowerMod.calls kj6 t236 (wrap64 (t237 + (Int.tmod t243 1000))) t238 t246 false _ A15.out).mono ?_); rintro e w' ⟨rfl, ⟨nd, rfl⟩⟩; refine ⟨_, rfl, ?_⟩) | ((with_reducible refine gate_callee (f := 8) rfl ?_); refine goesL_ (some 99) rfl rfl Try.func8 (by kernel_rfl) rfl #[.int .i64 t236, .int .i64 (wrap64 (t238 - 1)), .int .i64 t238] rfl (by (try simp only [List.map_toArray, List.map_cons, List.map_nil]); first | done | rfl | (simp only [List.length_drop, List.length_take]; rfl)) ?_; (with_reducible refine (impl_PowerMod.calls kj6 t236 (wrap64 (t238 - 1)) t238 t248 true _ A16.out).mono ?_); rintro e w' ⟨rfl, ⟨nd, rfl⟩⟩; refine ⟨_, rfl, ?_⟩))
                          go_meet
                          case rel => exact ⟨_, H', ⟨by have := HJ6.out; first | omega | exact Nat.le_refl _⟩, ⟨by repeat (first | (with_reducible first | exact HB.out | apply below_alloc | apply pw_below_drewN | apply below_drew1) | exact HB.out)⟩⟩
                      · rw [if_neg c27] at H
                        have c27b0 : (t248 == 0) = false := beq_eq_false_iff_ne.mpr c27
                        have c27b1 : (t248 != 0) = true := bne_iff_ne.mpr c27
                        as_aux_lemma =>
                          obtain rfl := Option.some.inj H
                          go_wp2_with (first | ((with_reducible refine gate_callee (f := 10) rfl ?_); refine goesL_ (some 76) rfl rfl Try.func10 (by kernel_rfl) rfl #[.slice A1 l1.length c1] rfl (by (try simp only [List.map_toArray, List.map_cons, List.map_nil]); first | done | rfl | (simp only [List.length_drop, List.length_take]; rfl)) ?_; (with_reducible refine (laws_numberOf.calls kj6 _ _ l1 t243 _ ?side1 ?side2 A13.out).mono ?_); (case side1 => repeat (first | exact (Kd.C_below HR1.out HB.out) | (with_reducible refine Kd.C_alloc ?_ _) | (with_reducible refine Kd.C_drewN ?_ _) | (with_reducible refine Kd.C_drew ?_))); (case side2 => exact HC1.out); rintro e w' ⟨rfl, ⟨nd, rfl⟩⟩; refine ⟨_, rfl, ?_⟩) | ((with_reducible refine gate_callee (f := 8) rfl ?_); refine goesL_ (some 82) rfl rfl Try.func8 (by kernel_rfl) rfl #[.int .i64 t236, .int .i64 (Int.tmod t243 1000), .int .i64 t238] rfl (by (try simp only [List.map_toArray, List.map_cons, List.map_nil]); first | done | rfl | (simp only [List.length_drop, List.length_take]; rfl)) ?_; (with_reducible refine (impl_PowerMod.calls kj6 t236 (Int.tmod t243 1000) t238 t244 true _ A14.out).mono ?_); rintro e w' ⟨rfl, ⟨nd, rfl⟩⟩; refine ⟨_, rfl, ?_⟩) | ((with_reducible refine gate_callee (f := 8) rfl ?_); refine goesL_ (some 91) rfl rfl Try.func8 (by kernel_rfl) rfl #[.int .i64 t236, .int .i64 (wrap64 (t237 + (Int.tmod t243 1000))), .int .i64 t238] rfl (by (try simp only [List.map_toArray, List.map_cons, List.map_nil]); first | done | rfl | (simp only [List.length_drop, List.length_take]; rfl)) ?_; (with_reducible refine (impl_PowerMod.calls kj6 t236 (wrap64 (t237 + (Int.tmod t243 1000))) t238 t246 false _ A15.out).mono ?_); rintro e w' ⟨rfl, ⟨nd, rfl⟩⟩; refine ⟨_, rfl, ?_⟩) | ((with_reducible refine gate_callee (f := 8) rfl ?_); refine goesL_ (some 99) rfl rfl Try.func8 (by kernel_rfl) rfl #[.int .i64 t236, .int .i64 (wrap64 (t238 - 1)), .int .i64 t238] rfl (by (try simp only [List.map_toArray, List.map_cons, List.map_nil]); first | done | rfl | (simp only [List.length_drop, List.length_take]; rfl)) ?_; (with_reducible refine (impl_PowerMod.calls kj6 t236 (wrap64 (t238 - 1)) t238 t248 true _ A16.out).mono ?_); rintro e w' ⟨rfl, ⟨nd, rfl⟩⟩; refine ⟨_, rfl, ?_⟩))
                          go_ret
                          exact ⟨by first | rfl | (simp [errW_none, errW_some] <;> rfl) | (simp [*, errW_none, errW_some] <;> rfl), by repeat (first | (with_reducible first | exact HB.out | apply below_alloc | apply pw_below_drewN | apply below_drew1) | exact HB.out)⟩
                    · rw [if_neg c26] at H
                      have c26b0 : (t236 == 0) = false := beq_eq_false_iff_ne.mpr c26
                      have c26b1 : (t236 != 0) = true := bne_iff_ne.mpr c26
                      by_cases c28 : t248 = 1
                      · rw [if_pos c28] at H
                        have c28b0 : (t248 == 1) = true := beq_iff_eq.mpr c28
                        have c28b1 : (t248 != 1) = false := bne_eq_false_iff_eq.mpr c28
                        clear c28
                        as_aux_lemma =>
                          have H' := Aside0.mk H
                          clear H
                          go_wp2_with (first | ((with_reducible refine gate_callee (f := 10) rfl ?_); refine goesL_ (some 76) rfl rfl Try.func10 (by kernel_rfl) rfl #[.slice A1 l1.length c1] rfl (by (try simp only [List.map_toArray, List.map_cons, List.map_nil]); first | done | rfl | (simp only [List.length_drop, List.length_take]; rfl)) ?_; (with_reducible refine (laws_numberOf.calls kj6 _ _ l1 t243 _ ?side1 ?side2 A13.out).mono ?_); (case side1 => repeat (first | exact (Kd.C_below HR1.out HB.out) | (with_reducible refine Kd.C_alloc ?_ _) | (with_reducible refine Kd.C_drewN ?_ _) | (with_reducible refine Kd.C_drew ?_))); (case side2 => exact HC1.out); rintro e w' ⟨rfl, ⟨nd, rfl⟩⟩; refine ⟨_, rfl, ?_⟩) | ((with_reducible refine gate_callee (f := 8) rfl ?_); refine goesL_ (some 82) rfl rfl Try.func8 (by kernel_rfl) rfl #[.int .i64 t236, .int .i64 (Int.tmod t243 1000), .int .i64 t238] rfl (by (try simp only [List.map_toArray, List.map_cons, List.map_nil]); first | done | rfl | (simp only [List.length_drop, List.length_take]; rfl)) ?_; (with_reducible refine (impl_PowerMod.calls kj6 t236 (Int.tmod t243 1000) t238 t244 true _ A14.out).mono ?_); rintro e w' ⟨rfl, ⟨nd, rfl⟩⟩; refine ⟨_, rfl, ?_⟩) | ((with_reducible refine gate_callee (f := 8) rfl ?_); refine goesL_ (some 91) rfl rfl Try.func8 (by kernel_rfl) rfl #[.int .i64 t236, .int .i64 (wrap64 (t237 + (Int.tmod t243 1000))), .int .i64 t238] rfl (by (try simp only [List.map_toArray, List.map_cons, List.map_nil]); first | done | rfl | (simp only [List.length_drop, List.length_take]; rfl)) ?_; (with_reducible refine (impl_PowerMod.calls kj6 t236 (wrap64 (t237 + (Int.tmod t243 1000))) t238 t246 false _ A15.out).mono ?_); rintro e w' ⟨rfl, ⟨nd, rfl⟩⟩; refine ⟨_, rfl, ?_⟩) | ((with_reducible refine gate_callee (f := 8) rfl ?_); refine goesL_ (some 99) rfl rfl Try.func8 (by kernel_rfl) rfl #[.int .i64 t236, .int .i64 (wrap64 (t238 - 1)), .int .i64 t238] rfl (by (try simp only [List.map_toArray, List.map_cons, List.map_nil]); first | done | rfl | (simp only [List.length_drop, List.length_take]; rfl)) ?_; (with_reducible refine (impl_PowerMod.calls kj6 t236 (wrap64 (t238 - 1)) t238 t248 true _ A16.out).mono ?_); rintro e w' ⟨rfl, ⟨nd, rfl⟩⟩; refine ⟨_, rfl, ?_⟩))
                          go_meet
                          case rel => exact ⟨_, H', ⟨by have := HJ6.out; first | omega | exact Nat.le_refl _⟩, ⟨by repeat (first | (with_reducible first | exact HB.out | apply below_alloc | apply pw_below_drewN | apply below_drew1) | exact HB.out)⟩⟩
                      · rw [if_neg c28] at H
                        have c28b0 : (t248 == 1) = false := beq_eq_false_iff_ne.mpr c28
                        have c28b1 : (t248 != 1) = true := bne_iff_ne.mpr c28
                        as_aux_lemma =>
                          obtain rfl := Option.some.inj H
                          go_wp2_with (first | ((with_reducible refine gate_callee (f := 10) rfl ?_); refine goesL_ (some 76) rfl rfl Try.func10 (by kernel_rfl) rfl #[.slice A1 l1.length c1] rfl (by (try simp only [List.map_toArray, List.map_cons, List.map_nil]); first | done | rfl | (simp only [List.length_drop, List.length_take]; rfl)) ?_; (with_reducible refine (laws_numberOf.calls kj6 _ _ l1 t243 _ ?side1 ?side2 A13.out).mono ?_); (case side1 => repeat (first | exact (Kd.C_below HR1.out HB.out) | (with_reducible refine Kd.C_alloc ?_ _) | (with_reducible refine Kd.C_drewN ?_ _) | (with_reducible refine Kd.C_drew ?_))); (case side2 => exact HC1.out); rintro e w' ⟨rfl, ⟨nd, rfl⟩⟩; refine ⟨_, rfl, ?_⟩) | ((with_reducible refine gate_callee (f := 8) rfl ?_); refine goesL_ (some 82) rfl rfl Try.func8 (by kernel_rfl) rfl #[.int .i64 t236, .int .i64 (Int.tmod t243 1000), .int .i64 t238] rfl (by (try simp only [List.map_toArray, List.map_cons, List.map_nil]); first | done | rfl | (simp only [List.length_drop, List.length_take]; rfl)) ?_; (with_reducible refine (impl_PowerMod.calls kj6 t236 (Int.tmod t243 1000) t238 t244 true _ A14.out).mono ?_); rintro e w' ⟨rfl, ⟨nd, rfl⟩⟩; refine ⟨_, rfl, ?_⟩) | ((with_reducible refine gate_callee (f := 8) rfl ?_); refine goesL_ (some 91) rfl rfl Try.func8 (by kernel_rfl) rfl #[.int .i64 t236, .int .i64 (wrap64 (t237 + (Int.tmod t243 1000))), .int .i64 t238] rfl (by (try simp only [List.map_toArray, List.map_cons, List.map_nil]); first | done | rfl | (simp only [List.length_drop, List.length_take]; rfl)) ?_; (with_reducible refine (impl_PowerMod.calls kj6 t236 (wrap64 (t237 + (Int.tmod t243 1000))) t238 t246 false _ A15.out).mono ?_); rintro e w' ⟨rfl, ⟨nd, rfl⟩⟩; refine ⟨_, rfl, ?_⟩) | ((with_reducible refine gate_callee (f := 8) rfl ?_); refine goesL_ (some 99) rfl rfl Try.func8 (by kernel_rfl) rfl #[.int .i64 t236, .int .i64 (wrap64 (t238 - 1)), .int .i64 t238] rfl (by (try simp only [List.map_toArray, List.map_cons, List.map_nil]); first | done | rfl | (simp only [List.length_drop, List.length_take]; rfl)) ?_; (with_reducible refine (impl_PowerMod.calls kj6 t236 (wrap64 (t238 - 1)) t238 t248 true _ A16.out).mono ?_); rintro e w' ⟨rfl, ⟨nd, rfl⟩⟩; refine ⟨_, rfl, ?_⟩))
                          go_ret
                          exact ⟨by first | rfl | (simp [errW_none, errW_some] <;> rfl) | (simp [*, errW_none, errW_some] <;> rfl), by repeat (first | (with_reducible first | exact HB.out | apply below_alloc | apply pw_below_drewN | apply below_drew1) | exact HB.out)⟩
                  · replace c25 := Bool.eq_false_iff.mpr c25
                    subst c25
                    have H1 : (some false) = some r := by rw [if_neg (show ¬ (false = true) by decide)] at H; exact H
                    clear H
                    have H := H1
                    clear H1
                    as_aux_lemma =>
                      obtain rfl := Option.some.inj H
                      go_wp2_with (first | ((with_reducible refine gate_callee (f := 10) rfl ?_); refine goesL_ (some 76) rfl rfl Try.func10 (by kernel_rfl) rfl #[.slice A1 l1.length c1] rfl (by (try simp only [List.map_toArray, List.map_cons, List.map_nil]); first | done | rfl | (simp only [List.length_drop, List.length_take]; rfl)) ?_; (with_reducible refine (laws_numberOf.calls kj6 _ _ l1 t243 _ ?side1 ?side2 A13.out).mono ?_); (case side1 => repeat (first | exact (Kd.C_below HR1.out HB.out) | (with_reducible refine Kd.C_alloc ?_ _) | (with_reducible refine Kd.C_drewN ?_ _) | (with_reducible refine Kd.C_drew ?_))); (case side2 => exact HC1.out); rintro e w' ⟨rfl, ⟨nd, rfl⟩⟩; refine ⟨_, rfl, ?_⟩) | ((with_reducible refine gate_callee (f := 8) rfl ?_); refine goesL_ (some 82) rfl rfl Try.func8 (by kernel_rfl) rfl #[.int .i64 t236, .int .i64 (Int.tmod t243 1000), .int .i64 t238] rfl (by (try simp only [List.map_toArray, List.map_cons, List.map_nil]); first | done | rfl | (simp only [List.length_drop, List.length_take]; rfl)) ?_; (with_reducible refine (impl_PowerMod.calls kj6 t236 (Int.tmod t243 1000) t238 t244 true _ A14.out).mono ?_); rintro e w' ⟨rfl, ⟨nd, rfl⟩⟩; refine ⟨_, rfl, ?_⟩) | ((with_reducible refine gate_callee (f := 8) rfl ?_); refine goesL_ (some 91) rfl rfl Try.func8 (by kernel_rfl) rfl #[.int .i64 t236, .int .i64 (wrap64 (t237 + (Int.tmod t243 1000))), .int .i64 t238] rfl (by (try simp only [List.map_toArray, List.map_cons, List.map_nil]); first | done | rfl | (simp only [List.length_drop, List.length_take]; rfl)) ?_; (with_reducible refine (impl_PowerMod.calls kj6 t236 (wrap64 (t237 + (Int.tmod t243 1000))) t238 t246 false _ A15.out).mono ?_); rintro e w' ⟨rfl, ⟨nd, rfl⟩⟩; refine ⟨_, rfl, ?_⟩) | ((with_reducible refine gate_callee (f := 8) rfl ?_); refine goesL_ (some 99) rfl rfl Try.func8 (by kernel_rfl) rfl #[.int .i64 t236, .int .i64 (wrap64 (t238 - 1)), .int .i64 t238] rfl (by (try simp only [List.map_toArray, List.map_cons, List.map_nil]); first | done | rfl | (simp only [List.length_drop, List.length_take]; rfl)) ?_; (with_reducible refine (impl_PowerMod.calls kj6 t236 (wrap64 (t238 - 1)) t238 t248 false _ A16.out).mono ?_); rintro e w' ⟨rfl, ⟨nd, rfl⟩⟩; refine ⟨_, rfl, ?_⟩))
                      go_ret
                      exact ⟨by first | rfl | (simp [errW_none, errW_some] <;> rfl) | (simp [*, errW_none, errW_some] <;> rfl), by repeat (first | (with_reducible first | exact HB.out | apply below_alloc | apply pw_below_drewN | apply below_drew1) | exact HB.out)⟩
              · replace c17 := Bool.eq_false_iff.mpr c17
                subst c17
                have H1 : (some false) = some r := by rw [if_neg (show ¬ (false = true) by decide)] at H; exact H
                clear H
                have H := H1
                clear H1
                as_aux_lemma =>
                  obtain rfl := Option.some.inj H
                  go_wp2_with (first | ((with_reducible refine gate_callee (f := 10) rfl ?_); refine goesL_ (some 76) rfl rfl Try.func10 (by kernel_rfl) rfl #[.slice A1 l1.length c1] rfl (by (try simp only [List.map_toArray, List.map_cons, List.map_nil]); first | done | rfl | (simp only [List.length_drop, List.length_take]; rfl)) ?_; (with_reducible refine (laws_numberOf.calls kj6 _ _ l1 t243 _ ?side1 ?side2 A13.out).mono ?_); (case side1 => repeat (first | exact (Kd.C_below HR1.out HB.out) | (with_reducible refine Kd.C_alloc ?_ _) | (with_reducible refine Kd.C_drewN ?_ _) | (with_reducible refine Kd.C_drew ?_))); (case side2 => exact HC1.out); rintro e w' ⟨rfl, ⟨nd, rfl⟩⟩; refine ⟨_, rfl, ?_⟩) | ((with_reducible refine gate_callee (f := 8) rfl ?_); refine goesL_ (some 82) rfl rfl Try.func8 (by kernel_rfl) rfl #[.int .i64 t236, .int .i64 (Int.tmod t243 1000), .int .i64 t238] rfl (by (try simp only [List.map_toArray, List.map_cons, List.map_nil]); first | done | rfl | (simp only [List.length_drop, List.length_take]; rfl)) ?_; (with_reducible refine (impl_PowerMod.calls kj6 t236 (Int.tmod t243 1000) t238 t244 false _ A14.out).mono ?_); rintro e w' ⟨rfl, ⟨nd, rfl⟩⟩; refine ⟨_, rfl, ?_⟩) | ((with_reducible refine gate_callee (f := 8) rfl ?_); refine goesL_ (some 91) rfl rfl Try.func8 (by kernel_rfl) rfl #[.int .i64 t236, .int .i64 (wrap64 (t237 + (Int.tmod t243 1000))), .int .i64 t238] rfl (by (try simp only [List.map_toArray, List.map_cons, List.map_nil]); first | done | rfl | (simp only [List.length_drop, List.length_take]; rfl)) ?_; (with_reducible refine (impl_PowerMod.calls kj6 t236 (wrap64 (t237 + (Int.tmod t243 1000))) t238 t246 t247 _ A15.out).mono ?_); rintro e w' ⟨rfl, ⟨nd, rfl⟩⟩; refine ⟨_, rfl, ?_⟩) | ((with_reducible refine gate_callee (f := 8) rfl ?_); refine goesL_ (some 99) rfl rfl Try.func8 (by kernel_rfl) rfl #[.int .i64 t236, .int .i64 (wrap64 (t238 - 1)), .int .i64 t238] rfl (by (try simp only [List.map_toArray, List.map_cons, List.map_nil]); first | done | rfl | (simp only [List.length_drop, List.length_take]; rfl)) ?_; (with_reducible refine (impl_PowerMod.calls kj6 t236 (wrap64 (t238 - 1)) t238 t248 t249 _ A16.out).mono ?_); rintro e w' ⟨rfl, ⟨nd, rfl⟩⟩; refine ⟨_, rfl, ?_⟩))
                  go_ret
                  exact ⟨by first | rfl | (simp [errW_none, errW_some] <;> rfl) | (simp [*, errW_none, errW_some] <;> rfl), by repeat (first | (with_reducible first | exact HB.out | apply below_alloc | apply pw_below_drewN | apply below_drew1) | exact HB.out)⟩
            · replace c12 := Bool.eq_false_iff.mpr c12
              subst c12
              have H1 : (laws_FnPowers.j1 kj6 l1) = some r := by rw [if_neg (show ¬ (false = true) by decide)] at H; exact H
              clear H
              have H := H1
              clear H1
              as_aux_lemma =>
                have H' := Aside0.mk H
                clear H
                go_wp2
                go_meet
                case rel => exact ⟨_, H', ⟨by have := HJ6.out; first | omega | exact Nat.le_refl _⟩, ⟨by repeat (first | (with_reducible first | exact HB.out | apply below_alloc | apply pw_below_drewN | apply below_drew1) | exact HB.out)⟩⟩
          case rest =>
            clear HC11
            try clear c1
            try clear c2
            try clear p2
            try clear c3
            try clear c3b0
            try clear p6
            try clear c7
            try clear c8
            try clear c9
            try clear c9b0
            try clear c9b1
            try clear c9b2
            try clear c10
            try clear c12
            try clear c17
            try clear c18
            try clear c19
            try clear c19b0
            try clear c19b1
            try clear c20
            try clear c20b0
            try clear c20b1
            try clear c21
            try clear c22
            try clear c22b0
            try clear c22b1
            try clear c23
            try clear c23b0
            try clear c23b1
            try clear c24
            try clear c24b0
            try clear c24b1
            try clear c25
            try clear c26
            try clear c26b0
            try clear c26b1
            try clear c27
            try clear c27b0
            try clear c27b1
            try clear c28
            try clear c28b0
            try clear c28b1
            try clear p2
            try clear p6
            obtain ⟨kq, HA, HJ10, HB⟩ := hcut
            cases kq with
            | zero => exact absurd HA.out (by simp [laws_FnPowers.j1])
            | succ kj10 =>
              have H := HA.out
              clear HA
              simp only [laws_FnPowers.j1] at H
              replace H := Option.bind_eq_some_iff.mp H
              obtain ⟨⟨t250, t251⟩, A290, H⟩ := H
              replace H : ((impl_InverseMod.f kj10 t250 t251).bind fun bt252 => ((spec_InverseMod.f kj10 t250 t251).bind fun bt254 => (if (bt252.2 != bt254.2) = true then (laws_FnPowers.j2 kj10 l1 true) else (if bt252.1 = bt254.1 then (if bt252.2 = true then (if t251 = 0 then (none) else (laws_FnPowers.j2 kj10 l1 ((Int.tmod (wrap64 (t250 * bt252.1)) t251) != 1))) else (laws_FnPowers.j2 kj10 l1 false)) else (laws_FnPowers.j2 kj10 l1 true))))) = some r := H
              have A29 := Aside0.mk A290
              clear A290
              replace H := Option.bind_eq_some_iff.mp H
              obtain ⟨⟨t252, t253⟩, A300, H⟩ := H
              replace H : ((spec_InverseMod.f kj10 t250 t251).bind fun bt254 => (if (t253 != bt254.2) = true then (laws_FnPowers.j2 kj10 l1 true) else (if t252 = bt254.1 then (if t253 = true then (if t251 = 0 then (none) else (laws_FnPowers.j2 kj10 l1 ((Int.tmod (wrap64 (t250 * t252)) t251) != 1))) else (laws_FnPowers.j2 kj10 l1 false)) else (laws_FnPowers.j2 kj10 l1 true)))) = some r := H
              have A30 := Aside0.mk A300
              clear A300
              replace H := Option.bind_eq_some_iff.mp H
              obtain ⟨⟨t254, t255⟩, A310, H⟩ := H
              replace H : (if (t253 != t255) = true then (laws_FnPowers.j2 kj10 l1 true) else (if t252 = t254 then (if t253 = true then (if t251 = 0 then (none) else (laws_FnPowers.j2 kj10 l1 ((Int.tmod (wrap64 (t250 * t252)) t251) != 1))) else (laws_FnPowers.j2 kj10 l1 false)) else (laws_FnPowers.j2 kj10 l1 true))) = some r := H
              have A31 := Aside0.mk A310
              clear A310
              have HC32 := Aside0.mk H
              clear H
              go_upto_region 18 with (first | ((with_reducible refine gate_callee (f := 11) rfl ?_); refine goesL_ (some 138) rfl rfl Try.func11 (by kernel_rfl) rfl #[.slice A1 l1.length c1] rfl (by (try simp only [List.map_toArray, List.map_cons, List.map_nil]); first | done | rfl | (simp only [List.length_drop, List.length_take]; rfl)) ?_; (with_reducible refine (spec_DrawInverseMod.calls kj10 _ _ l1 t250 t251 _ ?side1 ?side2 A29.out).mono ?_); (case side1 => repeat (first | exact (Kd.C_below HR1.out HB.out) | (with_reducible refine Kd.C_alloc ?_ _) | (with_reducible refine Kd.C_drewN ?_ _) | (with_reducible refine Kd.C_drew ?_))); (case side2 => exact HC1.out); rintro e w33 ⟨rfl, hb⟩; refine ⟨_, rfl, ?_⟩; have n0_ := Aside0.mk (below_step (by repeat (first | (with_reducible first | exact HB.out | apply below_alloc | apply pw_below_drewN | apply below_drew1) | exact HB.out)) hb); clear HB; have HB := n0_; clear n0_; (try clear hb); (try clear hb2); (try clear hk); (try clear hi)) | ((with_reducible refine gate_callee (f := 12) rfl ?_); refine goesL_ (some 144) rfl rfl Try.func12 (by kernel_rfl) rfl #[.int .i64 t250, .int .i64 t251] rfl (by (try simp only [List.map_toArray, List.map_cons, List.map_nil]); first | done | rfl | (simp only [List.length_drop, List.length_take]; rfl)) ?_; (with_reducible refine (impl_InverseMod.calls kj10 t250 t251 t252 t253 _ A30.out).mono ?_); rintro e w' ⟨rfl, ⟨nd, rfl⟩⟩; refine ⟨_, rfl, ?_⟩) | ((with_reducible refine gate_callee (f := 13) rfl ?_); refine goesL_ (some 150) rfl rfl Try.func13 (by kernel_rfl) rfl #[.int .i64 t250, .int .i64 t251] rfl (by (try simp only [List.map_toArray, List.map_cons, List.map_nil]); first | done | rfl | (simp only [List.length_drop, List.length_take]; rfl)) ?_; (with_reducible refine (spec_InverseMod.calls kj10 t250 t251 t254 t255 _ A31.out).mono ?_); rintro e w' ⟨rfl, ⟨nd, rfl⟩⟩; refine ⟨_, rfl, ?_⟩))
              (try simp only [Act.put, List.setIfInBounds_toArray, List.set_cons_zero, List.set_cons_succ])
              go_cut [171] (fun v171 wc => ∃ (kq : Nat) (x171_31 : Bool), v171 = .bool x171_31 ∧ Aside0 (laws_FnPowers.j2 kq l1 x171_31 = some r) ∧ Aside0 (kq ≤ kj10) ∧ Aside0 (Below w.heap.size w wc))
              case first =>
                have H := HC32.out
                clear HC32
                by_cases c34 : (t253 != t255) = true
                · rw [if_pos c34] at H
                  have c34b0 : (t253 != t255) = true := c34
                  (try (have c34b1 : decide (t253 = t255) = false := by simpa using c34))
                  (try (have c34b2 : (t253 == t255) = false := by simpa using c34))
                  (try (have c34b3 : ¬ (t253 = t255) := by simpa using c34))
                  clear c34
                  (first | rw [c34b0] | (simp only [i64_w, i32_w]; rw [c34b0]) | skip)
                  as_aux_lemma =>
                    have H' := Aside0.mk H
                    clear H
                    go_wp2
                    go_meet
                    case rel => exact ⟨_, (true), (by first | rfl | (simp; done) | (simp [*]; done)), H', ⟨by have := HJ6.out; have := HJ10.out; first | omega | exact Nat.le_refl _⟩, ⟨by repeat (first | (with_reducible first | exact HB.out | apply below_alloc | apply pw_below_drewN | apply below_drew1) | exact HB.out)⟩⟩
                · rw [if_neg c34] at H
                  have c34b0 : (t253 != t255) = false := by simpa using c34
                  (try (have c34b1 : decide (t253 = t255) = true := by simpa using c34))
                  (try (have c34b2 : (t253 == t255) = true := by simpa using c34))
                  clear c34
                  (first | rw [c34b0] | (simp only [i64_w, i32_w]; rw [c34b0]) | skip)
                  by_cases c35 : t252 = t254
                  · rw [if_pos c35] at H
                    have c35b0 : (t252 == t254) = true := beq_iff_eq.mpr c35
                    have c35b1 : (t252 != t254) = false := bne_eq_false_iff_eq.mpr c35
                    clear c35
                    by_cases c36 : t253 = true
                    · subst c36
                      have H1 : (if t251 = 0 then (none) else (laws_FnPowers.j2 kj10 l1 ((Int.tmod (wrap64 (t250 * t252)) t251) != 1))) = some r := by rw [if_pos rfl] at H; exact H
                      clear H
                      have H := H1
                      clear H1
                      by_cases c37 : t251 = 0
                      · rw [if_pos c37] at H
                        exact absurd H (by simp)
                      · rw [if_neg c37] at H
                        have c37b0 : (t251 == 0) = false := beq_eq_false_iff_ne.mpr c37
                        have c37b1 : (t251 != 0) = true := bne_iff_ne.mpr c37
                        as_aux_lemma =>
                          have H' := Aside0.mk H
                          clear H
                          go_wp2
                          go_meet
                          case rel => exact ⟨_, (((Int.tmod (wrap64 (t250 * t252)) t251) != 1)), (by first | rfl | (simp; done) | (simp [*]; done)), H', ⟨by have := HJ6.out; have := HJ10.out; first | omega | exact Nat.le_refl _⟩, ⟨by repeat (first | (with_reducible first | exact HB.out | apply below_alloc | apply pw_below_drewN | apply below_drew1) | exact HB.out)⟩⟩
                    · replace c36 := Bool.eq_false_iff.mpr c36
                      subst c36
                      have H1 : (laws_FnPowers.j2 kj10 l1 false) = some r := by rw [if_neg (show ¬ (false = true) by decide)] at H; exact H
                      clear H
                      have H := H1
                      clear H1
                      as_aux_lemma =>
                        have H' := Aside0.mk H
                        clear H
                        go_wp2
                        go_meet
                        case rel => exact ⟨_, (false), (by first | rfl | (simp; done) | (simp [*]; done)), H', ⟨by have := HJ6.out; have := HJ10.out; first | omega | exact Nat.le_refl _⟩, ⟨by repeat (first | (with_reducible first | exact HB.out | apply below_alloc | apply pw_below_drewN | apply below_drew1) | exact HB.out)⟩⟩
                  · rw [if_neg c35] at H
                    have c35b0 : (t252 == t254) = false := beq_eq_false_iff_ne.mpr c35
                    have c35b1 : (t252 != t254) = true := bne_iff_ne.mpr c35
                    as_aux_lemma =>
                      have H' := Aside0.mk H
                      clear H
                      go_wp2
                      go_meet
                      case rel => exact ⟨_, (true), (by first | rfl | (simp; done) | (simp [*]; done)), H', ⟨by have := HJ6.out; have := HJ10.out; first | omega | exact Nat.le_refl _⟩, ⟨by repeat (first | (with_reducible first | exact HB.out | apply below_alloc | apply pw_below_drewN | apply below_drew1) | exact HB.out)⟩⟩
              case rest =>
                clear HC32
                try clear c1
                try clear c2
                try clear p2
                try clear c3
                try clear c3b0
                try clear p6
                try clear c7
                try clear c8
                try clear c9
                try clear c9b0
                try clear c9b1
                try clear c9b2
                try clear c10
                try clear c11
                try clear c12
                try clear c13
                try clear c17
                try clear c18
                try clear c19
                try clear c19b0
                try clear c19b1
                try clear c20
                try clear c20b0
                try clear c20b1
                try clear c21
                try clear c22
                try clear c22b0
                try clear c22b1
                try clear c23
                try clear c23b0
                try clear c23b1
                try clear c24
                try clear c24b0
                try clear c24b1
                try clear c25
                try clear c26
                try clear c26b0
                try clear c26b1
                try clear c27
                try clear c27b0
                try clear c27b1
                try clear c28
                try clear c28b0
                try clear c28b1
                try clear c34
                try clear c34b0
                try clear c34b1
                try clear c34b2
                try clear c35
                try clear c35b0
                try clear c35b1
                try clear c36
                try clear c37
                try clear c37b0
                try clear c37b1
                try clear p2
                try clear p6
                obtain ⟨kq, x171_31, rfl, HA, HJ31, HB⟩ := hcut
                cases kq with
                | zero => exact absurd HA.out (by simp [laws_FnPowers.j2])
                | succ kj31 =>
                  have H := HA.out
                  clear HA
                  simp only [laws_FnPowers.j2] at H
                  by_cases c38 : x171_31 = true
                  · subst c38
                    have H1 : (some false) = some r := by rw [if_pos rfl] at H; exact H
                    clear H
                    have H := H1
                    clear H1
                    as_aux_lemma =>
                      obtain rfl := Option.some.inj H
                      go_wp2
                      go_ret
                      exact ⟨by first | rfl | (simp [errW_none, errW_some] <;> rfl) | (simp [*, errW_none, errW_some] <;> rfl), by repeat (first | (with_reducible first | exact HB.out | apply below_alloc | apply pw_below_drewN | apply below_drew1) | exact HB.out)⟩
                  · replace c38 := Bool.eq_false_iff.mpr c38
                    subst c38
                    have H1 : ((spec_DrawBothEuclid.f l1).bind fun bt256 => ((impl_BothEuclid.f kj31 bt256.1 bt256.2).bind fun bt258 => ((spec_BothEuclid.f kj31 bt256.1 bt256.2).bind fun bt262 => (if (bt258.2.2.2 != bt262.2.2.2) = true then (laws_FnPowers.j3 kj31 l1 bt256.1 bt256.2 bt258.1 bt258.2.1 bt258.2.2.1 bt258.2.2.2 true) else (if bt258.1 = bt262.1 then (if bt258.2.1 = bt262.2.1 then (laws_FnPowers.j3 kj31 l1 bt256.1 bt256.2 bt258.1 bt258.2.1 bt258.2.2.1 bt258.2.2.2 (bt258.2.2.1 != bt262.2.2.1)) else (laws_FnPowers.j3 kj31 l1 bt256.1 bt256.2 bt258.1 bt258.2.1 bt258.2.2.1 bt258.2.2.2 true)) else (laws_FnPowers.j3 kj31 l1 bt256.1 bt256.2 bt258.1 bt258.2.1 bt258.2.2.1 bt258.2.2.2 true)))))) = some r := by rw [if_neg (show ¬ (false = true) by decide)] at H; exact H
                    clear H
                    have H := H1
                    clear H1
                    replace H := Option.bind_eq_some_iff.mp H
                    obtain ⟨⟨t256, t257⟩, A390, H⟩ := H
                    replace H : ((impl_BothEuclid.f kj31 t256 t257).bind fun bt258 => ((spec_BothEuclid.f kj31 t256 t257).bind fun bt262 => (if (bt258.2.2.2 != bt262.2.2.2) = true then (laws_FnPowers.j3 kj31 l1 t256 t257 bt258.1 bt258.2.1 bt258.2.2.1 bt258.2.2.2 true) else (if bt258.1 = bt262.1 then (if bt258.2.1 = bt262.2.1 then (laws_FnPowers.j3 kj31 l1 t256 t257 bt258.1 bt258.2.1 bt258.2.2.1 bt258.2.2.2 (bt258.2.2.1 != bt262.2.2.1)) else (laws_FnPowers.j3 kj31 l1 t256 t257 bt258.1 bt258.2.1 bt258.2.2.1 bt258.2.2.2 true)) else (laws_FnPowers.j3 kj31 l1 t256 t257 bt258.1 bt258.2.1 bt258.2.2.1 bt258.2.2.2 true))))) = some r := H
                    have A39 := Aside0.mk A390
                    clear A390
                    replace H := Option.bind_eq_some_iff.mp H
                    obtain ⟨⟨t258, t259, t260, t261⟩, A400, H⟩ := H
                    replace H : ((spec_BothEuclid.f kj31 t256 t257).bind fun bt262 => (if (t261 != bt262.2.2.2) = true then (laws_FnPowers.j3 kj31 l1 t256 t257 t258 t259 t260 t261 true) else (if t258 = bt262.1 then (if t259 = bt262.2.1 then (laws_FnPowers.j3 kj31 l1 t256 t257 t258 t259 t260 t261 (t260 != bt262.2.2.1)) else (laws_FnPowers.j3 kj31 l1 t256 t257 t258 t259 t260 t261 true)) else (laws_FnPowers.j3 kj31 l1 t256 t257 t258 t259 t260 t261 true)))) = some r := H
                    have A40 := Aside0.mk A400
                    clear A400
                    replace H := Option.bind_eq_some_iff.mp H
                    obtain ⟨⟨t262, t263, t264, t265⟩, A410, H⟩ := H
                    replace H : (if (t261 != t265) = true then (laws_FnPowers.j3 kj31 l1 t256 t257 t258 t259 t260 t261 true) else (if t258 = t262 then (if t259 = t263 then (laws_FnPowers.j3 kj31 l1 t256 t257 t258 t259 t260 t261 (t260 != t264)) else (laws_FnPowers.j3 kj31 l1 t256 t257 t258 t259 t260 t261 true)) else (laws_FnPowers.j3 kj31 l1 t256 t257 t258 t259 t260 t261 true))) = some r := H
                    have A41 := Aside0.mk A410
                    clear A410
                    have HC42 := Aside0.mk H
                    clear H
                    go_upto_region 23 with (first | ((with_reducible refine gate_callee (f := 14) rfl ?_); refine goesL_ (some 174) rfl rfl Try.func14 (by kernel_rfl) rfl #[.slice A1 l1.length c1] rfl (by (try simp only [List.map_toArray, List.map_cons, List.map_nil]); first | done | rfl | (simp only [List.length_drop, List.length_take]; rfl)) ?_; (with_reducible refine (spec_DrawBothEuclid.calls _ _ l1 t256 t257 _ ?side1 ?side2 A39.out).mono ?_); (case side1 => repeat (first | exact (Kd.C_below HR1.out HB.out) | (with_reducible refine Kd.C_alloc ?_ _) | (with_reducible refine Kd.C_drewN ?_ _) | (with_reducible refine Kd.C_drew ?_))); (case side2 => exact HC1.out); rintro e w43 ⟨rfl, hb⟩; refine ⟨_, rfl, ?_⟩; have n0_ := Aside0.mk (below_step (by repeat (first | (with_reducible first | exact HB.out | apply below_alloc | apply pw_below_drewN | apply below_drew1) | exact HB.out)) hb); clear HB; have HB := n0_; clear n0_; (try clear hb); (try clear hb2); (try clear hk); (try clear hi)) | ((with_reducible refine gate_callee (f := 15) rfl ?_); refine goesL_ (some 180) rfl rfl Try.func15 (by kernel_rfl) rfl #[.int .i64 t256, .int .i64 t257] rfl (by (try simp only [List.map_toArray, List.map_cons, List.map_nil]); first | done | rfl | (simp only [List.length_drop, List.length_take]; rfl)) ?_; (with_reducible refine (impl_BothEuclid.calls kj31 t256 t257 t258 t259 t260 t261 _ A40.out).mono ?_); rintro e w44 ⟨rfl, hb⟩; refine ⟨_, rfl, ?_⟩; have n0_ := Aside0.mk (below_step (by repeat (first | (with_reducible first | exact HB.out | apply below_alloc | apply pw_below_drewN | apply below_drew1) | exact HB.out)) hb); clear HB; have HB := n0_; clear n0_; (try clear hb); (try clear hb2); (try clear hk); (try clear hi)) | ((with_reducible refine gate_callee (f := 16) rfl ?_); refine goesL_ (some 188) rfl rfl Try.func16 (by kernel_rfl) rfl #[.int .i64 t256, .int .i64 t257] rfl (by (try simp only [List.map_toArray, List.map_cons, List.map_nil]); first | done | rfl | (simp only [List.length_drop, List.length_take]; rfl)) ?_; (with_reducible refine (spec_BothEuclid.calls kj31 t256 t257 t262 t263 t264 t265 _ A41.out).mono ?_); rintro e w45 ⟨rfl, hb⟩; refine ⟨_, rfl, ?_⟩; have n0_ := Aside0.mk (below_step (by repeat (first | (with_reducible first | exact HB.out | apply below_alloc | apply pw_below_drewN | apply below_drew1) | exact HB.out)) hb); clear HB; have HB := n0_; clear n0_; (try clear hb); (try clear hb2); (try clear hk); (try clear hi)))
                    (try simp only [Act.put, List.setIfInBounds_toArray, List.set_cons_zero, List.set_cons_succ])
                    go_cut [210] (fun v210 wc => ∃ (kq : Nat) (x210_41 : Bool), v210 = .bool x210_41 ∧ Aside0 (laws_FnPowers.j3 kq l1 t256 t257 t258 t259 t260 t261 x210_41 = some r) ∧ Aside0 (kq ≤ kj31) ∧ Aside0 (Below w.heap.size w wc))
                    case first =>
                      have H := HC42.out
                      clear HC42
                      by_cases c46 : (t261 != t265) = true
                      · rw [if_pos c46] at H
                        have c46b0 : (t261 != t265) = true := c46
                        (try (have c46b1 : decide (t261 = t265) = false := by simpa using c46))
                        (try (have c46b2 : (t261 == t265) = false := by simpa using c46))
                        (try (have c46b3 : ¬ (t261 = t265) := by simpa using c46))
                        clear c46
                        (first | rw [c46b0] | (simp only [i64_w, i32_w]; rw [c46b0]) | skip)
                        as_aux_lemma =>
                          have H' := Aside0.mk H
                          clear H
                          go_wp2
                          go_meet
                          case rel => exact ⟨_, (true), (by first | rfl | (simp; done) | (simp [*]; done)), H', ⟨by have := HJ6.out; have := HJ10.out; have := HJ31.out; first | omega | exact Nat.le_refl _⟩, ⟨by repeat (first | (with_reducible first | exact HB.out | apply below_alloc | apply pw_below_drewN | apply below_drew1) | exact HB.out)⟩⟩
                      · rw [if_neg c46] at H
                        have c46b0 : (t261 != t265) = false := by simpa using c46
                        (try (have c46b1 : decide (t261 = t265) = true := by simpa using c46))
                        (try (have c46b2 : (t261 == t265) = true := by simpa using c46))
                        clear c46
                        (first | rw [c46b0] | (simp only [i64_w, i32_w]; rw [c46b0]) | skip)
                        by_cases c47 : t258 = t262
                        · rw [if_pos c47] at H
                          have c47b0 : (t258 == t262) = true := beq_iff_eq.mpr c47
                          have c47b1 : (t258 != t262) = false := bne_eq_false_iff_eq.mpr c47
                          clear c47
                          by_cases c48 : t259 = t263
                          · rw [if_pos c48] at H
                            have c48b0 : (t259 == t263) = true := beq_iff_eq.mpr c48
                            have c48b1 : (t259 != t263) = false := bne_eq_false_iff_eq.mpr c48
                            clear c48
                            as_aux_lemma =>
                              have H' := Aside0.mk H
                              clear H
                              go_wp2
                              go_meet
                              case rel => exact ⟨_, ((t260 != t264)), (by first | rfl | (simp; done) | (simp [*]; done)), H', ⟨by have := HJ6.out; have := HJ10.out; have := HJ31.out; first | omega | exact Nat.le_refl _⟩, ⟨by repeat (first | (with_reducible first | exact HB.out | apply below_alloc | apply pw_below_drewN | apply below_drew1) | exact HB.out)⟩⟩
                          · rw [if_neg c48] at H
                            have c48b0 : (t259 == t263) = false := beq_eq_false_iff_ne.mpr c48
                            have c48b1 : (t259 != t263) = true := bne_iff_ne.mpr c48
                            as_aux_lemma =>
                              have H' := Aside0.mk H
                              clear H
                              go_wp2
                              go_meet
                              case rel => exact ⟨_, (true), (by first | rfl | (simp; done) | (simp [*]; done)), H', ⟨by have := HJ6.out; have := HJ10.out; have := HJ31.out; first | omega | exact Nat.le_refl _⟩, ⟨by repeat (first | (with_reducible first | exact HB.out | apply below_alloc | apply pw_below_drewN | apply below_drew1) | exact HB.out)⟩⟩
                        · rw [if_neg c47] at H
                          have c47b0 : (t258 == t262) = false := beq_eq_false_iff_ne.mpr c47
                          have c47b1 : (t258 != t262) = true := bne_iff_ne.mpr c47
                          as_aux_lemma =>
                            have H' := Aside0.mk H
                            clear H
                            go_wp2
                            go_meet
                            case rel => exact ⟨_, (true), (by first | rfl | (simp; done) | (simp [*]; done)), H', ⟨by have := HJ6.out; have := HJ10.out; have := HJ31.out; first | omega | exact Nat.le_refl _⟩, ⟨by repeat (first | (with_reducible first | exact HB.out | apply below_alloc | apply pw_below_drewN | apply below_drew1) | exact HB.out)⟩⟩
                    case rest =>
                      clear HC42
                      try clear c1
                      try clear c2
                      try clear p2
                      try clear c3
                      try clear c3b0
                      try clear c4
                      try clear p6
                      try clear c7
                      try clear c8
                      try clear c9
                      try clear c9b0
                      try clear c9b1
                      try clear c9b2
                      try clear c10
                      try clear c11
                      try clear c12
                      try clear c13
                      try clear c14
                      try clear c15
                      try clear c16
                      try clear c17
                      try clear c18
                      try clear c19
                      try clear c19b0
                      try clear c19b1
                      try clear c20
                      try clear c20b0
                      try clear c20b1
                      try clear c21
                      try clear c22
                      try clear c22b0
                      try clear c22b1
                      try clear c23
                      try clear c23b0
                      try clear c23b1
                      try clear c24
                      try clear c24b0
                      try clear c24b1
                      try clear c25
                      try clear c26
                      try clear c26b0
                      try clear c26b1
                      try clear c27
                      try clear c27b0
                      try clear c27b1
                      try clear c28
                      try clear c28b0
                      try clear c28b1
                      try clear c34
                      try clear c34b0
                      try clear c34b1
                      try clear c34b2
                      try clear c35
                      try clear c35b0
                      try clear c35b1
                      try clear c36
                      try clear c37
                      try clear c37b0
                      try clear c37b1
                      try clear c38
                      try clear c46
                      try clear c46b0
                      try clear c46b1
                      try clear c46b2
                      try clear c47
                      try clear c47b0
                      try clear c47b1
                      try clear c48
                      try clear c48b0
                      try clear c48b1
                      try clear p2
                      try clear p6
                      obtain ⟨kq, x210_41, rfl, HA, HJ41, HB⟩ := hcut
                      cases kq with
                      | zero => exact absurd HA.out (by simp [laws_FnPowers.j3])
                      | succ kj41 =>
                        have H := HA.out
                        clear HA
                        simp only [laws_FnPowers.j3] at H
                        by_cases c49 : x210_41 = true
                        · subst c49
                          have H1 : (some false) = some r := by rw [if_pos rfl] at H; exact H
                          clear H
                          have H := H1
                          clear H1
                          as_aux_lemma =>
                            obtain rfl := Option.some.inj H
                            go_wp2
                            go_ret
                            exact ⟨by first | rfl | (simp [errW_none, errW_some] <;> rfl) | (simp [*, errW_none, errW_some] <;> rfl), by repeat (first | (with_reducible first | exact HB.out | apply below_alloc | apply pw_below_drewN | apply below_drew1) | exact HB.out)⟩
                        · replace c49 := Bool.eq_false_iff.mpr c49
                          subst c49
                          have H1 : (if t261 = true then (if t258 < 1 then (laws_FnPowers.j4 kj41 l1 true) else (if (wrap64 ((wrap64 (t259 * t256)) + (wrap64 (t260 * t257)))) = t258 then (if t258 = 0 then (none) else (if (Int.tmod t256 t258) = 0 then (laws_FnPowers.j4 kj41 l1 ((Int.tmod t257 t258) != 0)) else (laws_FnPowers.j4 kj41 l1 true))) else (laws_FnPowers.j4 kj41 l1 true))) else (laws_FnPowers.j4 kj41 l1 false)) = some r := by rw [if_neg (show ¬ (false = true) by decide)] at H; exact H
                          clear H
                          have H := H1
                          clear H1
                          have HC50 := Aside0.mk H
                          clear H
                          go_upto_region 25 with (fail)
                          go_cut [238] (fun v238 wc => ∃ (kq : Nat) (x238_49 : Bool), v238 = .bool x238_49 ∧ Aside0 (laws_FnPowers.j4 kq l1 x238_49 = some r) ∧ Aside0 (kq ≤ kj41) ∧ Aside0 (Below w.heap.size w wc))
                          case first =>
                            have H := HC50.out
                            clear HC50
                            by_cases c51 : t261 = true
                            · subst c51
                              have H1 : (if t258 < 1 then (laws_FnPowers.j4 kj41 l1 true) else (if (wrap64 ((wrap64 (t259 * t256)) + (wrap64 (t260 * t257)))) = t258 then (if t258 = 0 then (none) else (if (Int.tmod t256 t258) = 0 then (laws_FnPowers.j4 kj41 l1 ((Int.tmod t257 t258) != 0)) else (laws_FnPowers.j4 kj41 l1 true))) else (laws_FnPowers.j4 kj41 l1 true))) = some r := by rw [if_pos rfl] at H; exact H
                              clear H
                              have H := H1
                              clear H1
                              by_cases c52 : t258 < 1
                              · rw [if_pos c52] at H
                                have c52b0 : decide (t258 < 1) = true := decide_eq_true c52
                                clear c52
                                (first | rw [c52b0] | (simp only [i64_w, i32_w]; rw [c52b0]) | skip)
                                as_aux_lemma =>
                                  have H' := Aside0.mk H
                                  clear H
                                  go_wp2
                                  go_meet
                                  case rel => exact ⟨_, (true), (by first | rfl | (simp; done) | (simp [*]; done)), H', ⟨by have := HJ6.out; have := HJ10.out; have := HJ31.out; have := HJ41.out; first | omega | exact Nat.le_refl _⟩, ⟨by repeat (first | (with_reducible first | exact HB.out | apply below_alloc | apply pw_below_drewN | apply below_drew1) | exact HB.out)⟩⟩
                              · rw [if_neg c52] at H
                                have c52b0 : decide (t258 < 1) = false := decide_eq_false c52
                                clear c52
                                (first | rw [c52b0] | (simp only [i64_w, i32_w]; rw [c52b0]) | skip)
                                by_cases c53 : (wrap64 ((wrap64 (t259 * t256)) + (wrap64 (t260 * t257)))) = t258
                                · rw [if_pos c53] at H
                                  have c53b0 : ((wrap64 ((wrap64 (t259 * t256)) + (wrap64 (t260 * t257)))) == t258) = true := beq_iff_eq.mpr c53
                                  have c53b1 : ((wrap64 ((wrap64 (t259 * t256)) + (wrap64 (t260 * t257)))) != t258) = false := bne_eq_false_iff_eq.mpr c53
                                  clear c53
                                  by_cases c54 : t258 = 0
                                  · rw [if_pos c54] at H
                                    exact absurd H (by simp)
                                  · rw [if_neg c54] at H
                                    have c54b0 : (t258 == 0) = false := beq_eq_false_iff_ne.mpr c54
                                    have c54b1 : (t258 != 0) = true := bne_iff_ne.mpr c54
                                    by_cases c55 : (Int.tmod t256 t258) = 0
                                    · rw [if_pos c55] at H
                                      have c55b0 : ((Int.tmod t256 t258) == 0) = true := beq_iff_eq.mpr c55
                                      have c55b1 : ((Int.tmod t256 t258) != 0) = false := bne_eq_false_iff_eq.mpr c55
                                      clear c55
                                      as_aux_lemma =>
                                        have H' := Aside0.mk H
                                        clear H
                                        go_wp2
                                        go_meet
                                        case rel => exact ⟨_, (((Int.tmod t257 t258) != 0)), (by first | rfl | (simp; done) | (simp [*]; done)), H', ⟨by have := HJ6.out; have := HJ10.out; have := HJ31.out; have := HJ41.out; first | omega | exact Nat.le_refl _⟩, ⟨by repeat (first | (with_reducible first | exact HB.out | apply below_alloc | apply pw_below_drewN | apply below_drew1) | exact HB.out)⟩⟩
                                    · rw [if_neg c55] at H
                                      have c55b0 : ((Int.tmod t256 t258) == 0) = false := beq_eq_false_iff_ne.mpr c55
                                      have c55b1 : ((Int.tmod t256 t258) != 0) = true := bne_iff_ne.mpr c55
                                      as_aux_lemma =>
                                        have H' := Aside0.mk H
                                        clear H
                                        go_wp2
                                        go_meet
                                        case rel => exact ⟨_, (true), (by first | rfl | (simp; done) | (simp [*]; done)), H', ⟨by have := HJ6.out; have := HJ10.out; have := HJ31.out; have := HJ41.out; first | omega | exact Nat.le_refl _⟩, ⟨by repeat (first | (with_reducible first | exact HB.out | apply below_alloc | apply pw_below_drewN | apply below_drew1) | exact HB.out)⟩⟩
                                · rw [if_neg c53] at H
                                  have c53b0 : ((wrap64 ((wrap64 (t259 * t256)) + (wrap64 (t260 * t257)))) == t258) = false := beq_eq_false_iff_ne.mpr c53
                                  have c53b1 : ((wrap64 ((wrap64 (t259 * t256)) + (wrap64 (t260 * t257)))) != t258) = true := bne_iff_ne.mpr c53
                                  as_aux_lemma =>
                                    have H' := Aside0.mk H
                                    clear H
                                    go_wp2
                                    go_meet
                                    case rel => exact ⟨_, (true), (by first | rfl | (simp; done) | (simp [*]; done)), H', ⟨by have := HJ6.out; have := HJ10.out; have := HJ31.out; have := HJ41.out; first | omega | exact Nat.le_refl _⟩, ⟨by repeat (first | (with_reducible first | exact HB.out | apply below_alloc | apply pw_below_drewN | apply below_drew1) | exact HB.out)⟩⟩
                            · replace c51 := Bool.eq_false_iff.mpr c51
                              subst c51
                              have H1 : (laws_FnPowers.j4 kj41 l1 false) = some r := by rw [if_neg (show ¬ (false = true) by decide)] at H; exact H
                              clear H
                              have H := H1
                              clear H1
                              as_aux_lemma =>
                                have H' := Aside0.mk H
                                clear H
                                go_wp2
                                go_meet
                                case rel => exact ⟨_, (false), (by first | rfl | (simp; done) | (simp [*]; done)), H', ⟨by have := HJ6.out; have := HJ10.out; have := HJ31.out; have := HJ41.out; first | omega | exact Nat.le_refl _⟩, ⟨by repeat (first | (with_reducible first | exact HB.out | apply below_alloc | apply pw_below_drewN | apply below_drew1) | exact HB.out)⟩⟩
                          case rest =>
                            clear HC50
                            try clear c1
                            try clear c2
                            try clear p2
                            try clear c3
                            try clear c3b0
                            try clear c4
                            try clear c5
                            try clear p6
                            try clear c7
                            try clear c8
                            try clear c9
                            try clear c9b0
                            try clear c9b1
                            try clear c9b2
                            try clear c10
                            try clear c11
                            try clear c12
                            try clear c13
                            try clear c14
                            try clear c15
                            try clear c16
                            try clear c17
                            try clear c18
                            try clear c19
                            try clear c19b0
                            try clear c19b1
                            try clear c20
                            try clear c20b0
                            try clear c20b1
                            try clear c21
                            try clear c22
                            try clear c22b0
                            try clear c22b1
                            try clear c23
                            try clear c23b0
                            try clear c23b1
                            try clear c24
                            try clear c24b0
                            try clear c24b1
                            try clear c25
                            try clear c26
                            try clear c26b0
                            try clear c26b1
                            try clear c27
                            try clear c27b0
                            try clear c27b1
                            try clear c28
                            try clear c28b0
                            try clear c28b1
                            try clear c34
                            try clear c34b0
                            try clear c34b1
                            try clear c34b2
                            try clear c35
                            try clear c35b0
                            try clear c35b1
                            try clear c36
                            try clear c37
                            try clear c37b0
                            try clear c37b1
                            try clear c38
                            try clear c46
                            try clear c46b0
                            try clear c46b1
                            try clear c46b2
                            try clear c47
                            try clear c47b0
                            try clear c47b1
                            try clear c48
                            try clear c48b0
                            try clear c48b1
                            try clear c49
                            try clear c51
                            try clear c52
                            try clear c52b0
                            try clear c53
                            try clear c53b0
                            try clear c53b1
                            try clear c54
                            try clear c54b0
                            try clear c54b1
                            try clear c55
                            try clear c55b0
                            try clear c55b1
                            try clear p2
                            try clear p6
                            obtain ⟨kq, x238_49, rfl, HA, HJ49, HB⟩ := hcut
                            cases kq with
                            | zero => exact absurd HA.out (by simp [laws_FnPowers.j4])
                            | succ kj49 =>
                              have H := HA.out
                              clear HA
                              simp only [laws_FnPowers.j4] at H
                              by_cases c56 : x238_49 = true
                              · subst c56
                                have H1 : (some false) = some r := by rw [if_pos rfl] at H; exact H
                                clear H
                                have H := H1
                                clear H1
                                as_aux_lemma =>
                                  obtain rfl := Option.some.inj H
                                  go_wp2
                                  go_ret
                                  exact ⟨by first | rfl | (simp [errW_none, errW_some] <;> rfl) | (simp [*, errW_none, errW_some] <;> rfl), by repeat (first | (with_reducible first | exact HB.out | apply below_alloc | apply pw_below_drewN | apply below_drew1) | exact HB.out)⟩
                              · replace c56 := Bool.eq_false_iff.mpr c56
                                subst c56
                                have H1 : ((spec_DrawIsPrime.f l1).bind fun t266 => ((impl_IsPrime.f kj49 t266).bind fun bt267 => ((spec_IsPrime.f kj49 t266).bind fun bt269 => (if (bt267.2 == bt269.2) = true then (some (bt267.1 == bt269.1)) else (some false))))) = some r := by rw [if_neg (show ¬ (false = true) by decide)] at H; exact H
                                clear H
                                have H := H1
                                clear H1
                                replace H := Option.bind_eq_some_iff.mp H
                                obtain ⟨t266, A570, H⟩ := H
                                replace H : ((impl_IsPrime.f kj49 t266).bind fun bt267 => ((spec_IsPrime.f kj49 t266).bind fun bt269 => (if (bt267.2 == bt269.2) = true then (some (bt267.1 == bt269.1)) else (some false)))) = some r := H
                                have A57 := Aside0.mk A570
                                clear A570
                                replace H := Option.bind_eq_some_iff.mp H
                                obtain ⟨⟨t267, t268⟩, A580, H⟩ := H
                                replace H : ((spec_IsPrime.f kj49 t266).bind fun bt269 => (if (t268 == bt269.2) = true then (some (t267 == bt269.1)) else (some false))) = some r := H
                                have A58 := Aside0.mk A580
                                clear A580
                                replace H := Option.bind_eq_some_iff.mp H
                                obtain ⟨⟨t269, t270⟩, A590, H⟩ := H
                                replace H : (if (t268 == t270) = true then (some (t267 == t269)) else (some false)) = some r := H
                                have A59 := Aside0.mk A590
                                clear A590
                                by_cases c60 : (t268 == t270) = true
                                · rw [if_pos c60] at H
                                  have c60b0 : (t268 == t270) = true := c60
                                  (try (have c60b1 : decide (t268 = t270) = true := by simpa using c60))
                                  (try (have c60b2 : (t268 == t270) = true := by simpa using c60))
                                  clear c60
                                  as_aux_lemma =>
                                    obtain rfl := Option.some.inj H
                                    go_wp2_with (first | ((with_reducible refine gate_callee (f := 17) rfl ?_); refine goesL_ (some 240) rfl rfl Try.func17 (by kernel_rfl) rfl #[.slice A1 l1.length c1] rfl (by (try simp only [List.map_toArray, List.map_cons, List.map_nil]); first | done | rfl | (simp only [List.length_drop, List.length_take]; rfl)) ?_; (with_reducible refine (spec_DrawIsPrime.calls _ _ l1 t266 _ ?side1 ?side2 A57.out).mono ?_); (case side1 => repeat (first | exact (Kd.C_below HR1.out HB.out) | (with_reducible refine Kd.C_alloc ?_ _) | (with_reducible refine Kd.C_drewN ?_ _) | (with_reducible refine Kd.C_drew ?_))); (case side2 => exact HC1.out); rintro e w61 ⟨rfl, hb⟩; refine ⟨_, rfl, ?_⟩; have n0_ := Aside0.mk (below_step (by repeat (first | (with_reducible first | exact HB.out | apply below_alloc | apply pw_below_drewN | apply below_drew1) | exact HB.out)) hb); clear HB; have HB := n0_; clear n0_; (try clear hb); (try clear hb2); (try clear hk); (try clear hi)) | ((with_reducible refine gate_callee (f := 18) rfl ?_); refine goesL_ (some 243) rfl rfl Try.func18 (by kernel_rfl) rfl #[.int .i64 t266] rfl (by (try simp only [List.map_toArray, List.map_cons, List.map_nil]); first | done | rfl | (simp only [List.length_drop, List.length_take]; rfl)) ?_; (with_reducible refine (impl_IsPrime.calls kj49 t266 t267 t268 _ A58.out).mono ?_); rintro e w' ⟨rfl, ⟨nd, rfl⟩⟩; refine ⟨_, rfl, ?_⟩) | ((with_reducible refine gate_callee (f := 19) rfl ?_); refine goesL_ (some 248) rfl rfl Try.func19 (by kernel_rfl) rfl #[.int .i64 t266] rfl (by (try simp only [List.map_toArray, List.map_cons, List.map_nil]); first | done | rfl | (simp only [List.length_drop, List.length_take]; rfl)) ?_; (with_reducible refine (spec_IsPrime.calls kj49 t266 t269 t270 _ A59.out).mono ?_); rintro e w' ⟨rfl, ⟨nd, rfl⟩⟩; refine ⟨_, rfl, ?_⟩))
                                    go_ret
                                    exact ⟨by first | rfl | (simp [errW_none, errW_some] <;> rfl) | (simp [*, errW_none, errW_some] <;> rfl), by repeat (first | (with_reducible first | exact HB.out | apply below_alloc | apply pw_below_drewN | apply below_drew1) | exact HB.out)⟩
                                · rw [if_neg c60] at H
                                  have c60b0 : (t268 == t270) = false := by simpa using c60
                                  (try (have c60b1 : decide (t268 = t270) = false := by simpa using c60))
                                  (try (have c60b2 : (t268 == t270) = false := by simpa using c60))
                                  (try (have c60b3 : ¬ (t268 = t270) := by simpa using c60))
                                  clear c60
                                  as_aux_lemma =>
                                    obtain rfl := Option.some.inj H
                                    go_wp2_with (first | ((with_reducible refine gate_callee (f := 17) rfl ?_); refine goesL_ (some 240) rfl rfl Try.func17 (by kernel_rfl) rfl #[.slice A1 l1.length c1] rfl (by (try simp only [List.map_toArray, List.map_cons, List.map_nil]); first | done | rfl | (simp only [List.length_drop, List.length_take]; rfl)) ?_; (with_reducible refine (spec_DrawIsPrime.calls _ _ l1 t266 _ ?side1 ?side2 A57.out).mono ?_); (case side1 => repeat (first | exact (Kd.C_below HR1.out HB.out) | (with_reducible refine Kd.C_alloc ?_ _) | (with_reducible refine Kd.C_drewN ?_ _) | (with_reducible refine Kd.C_drew ?_))); (case side2 => exact HC1.out); rintro e w62 ⟨rfl, hb⟩; refine ⟨_, rfl, ?_⟩; have n0_ := Aside0.mk (below_step (by repeat (first | (with_reducible first | exact HB.out | apply below_alloc | apply pw_below_drewN | apply below_drew1) | exact HB.out)) hb); clear HB; have HB := n0_; clear n0_; (try clear hb); (try clear hb2); (try clear hk); (try clear hi)) | ((with_reducible refine gate_callee (f := 18) rfl ?_); refine goesL_ (some 243) rfl rfl Try.func18 (by kernel_rfl) rfl #[.int .i64 t266] rfl (by (try simp only [List.map_toArray, List.map_cons, List.map_nil]); first | done | rfl | (simp only [List.length_drop, List.length_take]; rfl)) ?_; (with_reducible refine (impl_IsPrime.calls kj49 t266 t267 t268 _ A58.out).mono ?_); rintro e w' ⟨rfl, ⟨nd, rfl⟩⟩; refine ⟨_, rfl, ?_⟩) | ((with_reducible refine gate_callee (f := 19) rfl ?_); refine goesL_ (some 248) rfl rfl Try.func19 (by kernel_rfl) rfl #[.int .i64 t266] rfl (by (try simp only [List.map_toArray, List.map_cons, List.map_nil]); first | done | rfl | (simp only [List.length_drop, List.length_take]; rfl)) ?_; (with_reducible refine (spec_IsPrime.calls kj49 t266 t269 t270 _ A59.out).mono ?_); rintro e w' ⟨rfl, ⟨nd, rfl⟩⟩; refine ⟨_, rfl, ?_⟩))
                                    go_ret
                                    exact ⟨by first | rfl | (simp [errW_none, errW_some] <;> rfl) | (simp [*, errW_none, errW_some] <;> rfl), by repeat (first | (with_reducible first | exact HB.out | apply below_alloc | apply pw_below_drewN | apply below_drew1) | exact HB.out)⟩

/-- THE ONE PURE STATEMENT of laws_FnPowers: yours. -/
def laws_FnPowers.Pure : Prop := ∀ (l0 : List Int) (l1 : List Int), l0.length ≤ maxLen → l0.length * 1 ≤ 140737488351232 → (∀ x ∈ l0, (Lit.int .u8 x).wf = true) → l1.length ≤ maxLen → l1.length * 1 ≤ 140737488351232 → (∀ x ∈ l1, (Lit.int .u8 x).wf = true) → ∃ k, laws_FnPowers.f k l0 l1 = some true
theorem laws_FnPowers.walk (P : laws_FnPowers.Pure) (a0 : Option Addr) (len0 cap0 : Nat) (z0 : List Int) (a1 : Option Addr) (len1 cap1 : Nat) (z1 : List Int) (w : World) (w0 : (a0 = none ∧ len0 = 0 ∧ cap0 = 0 ∧ z0 = []) ∨ ∃ x, a0 = some x ∧ len0 ≤ cap0 ∧ cap0 ≤ maxLen ∧ z0.length = cap0 ∧ (∀ i, i < z0.length → w.cell? (x.add i) = some (.int .u8 (z0.getD i 0))) ∧ ∀ n ∈ z0, (Lit.int .u8 n).wf = true) (y0 : len0 * 1 ≤ 140737488351232) (w1 : (a1 = none ∧ len1 = 0 ∧ cap1 = 0 ∧ z1 = []) ∨ ∃ x, a1 = some x ∧ len1 ≤ cap1 ∧ cap1 ≤ maxLen ∧ z1.length = cap1 ∧ (∀ i, i < z1.length → w.cell? (x.add i) = some (.int .u8 (z1.getD i 0))) ∧ ∀ n ∈ z1, (Lit.int .u8 n).wf = true) (y1 : len1 * 1 ≤ 140737488351232) :
    Calls Try.prog 3 #[.slice a0 len0 cap0, .slice a1 len1 cap1] w fun e w' => e = .returned (.bool true) ∧ Below w.heap.size w w' := by
  obtain ⟨l0, rfl, hr0, hm0, hw0, hc0⟩ := ReadsInt.ofRowC w0
  obtain ⟨l1, rfl, hr1, hm1, hw1, hc1⟩ := ReadsInt.ofRowC w1
  obtain ⟨k, h⟩ := P l0 l1 hm0 y0 hw0 hm1 y1 hw1
  refine (laws_FnPowers.calls k _ _ l0 _ _ l1 true w (Kd.C_of_reads (d := (0 : Int)) (h1 := fun _ => rfl) hr0) hc0 (Kd.C_of_reads (d := (0 : Int)) (h1 := fun _ => rfl) hr1) hc1 h).mono ?_
  rintro e w' ⟨rfl, hd⟩
  exact ⟨rfl, hd⟩

end
end Go.Proofs.Ytdlljfejfgfmgaa.PFnPowers
