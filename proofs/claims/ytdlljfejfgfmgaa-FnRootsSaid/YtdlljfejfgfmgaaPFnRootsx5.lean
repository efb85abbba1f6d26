-- Printed for this claim by a changed copy of the kit's printing program (wip/tools/patch_print.py); Lean checks it.
import Derived.Test.YtdlljfejfgfmgaaPFnRootsx0
import Derived.Test.YtdlljfejfgfmgaaPFnRootsx1
import Derived.Test.YtdlljfejfgfmgaaPFnRootsx2
import Derived.Test.YtdlljfejfgfmgaaPFnRootsx3
import Derived.Test.YtdlljfejfgfmgaaPFnRootsx4
namespace Go.Proofs.Ytdlljfejfgfmgaa.PFnRoots
open Go.RowKit Go.Proofs.YtdlljfejfgfmgaaW.PrintWords Go.Proofs.YtdlljfejfgfmgaaW.PrintLast Go.Proofs.YtdlljfejfgfmgaaW.PrintMore
attribute [local go_sem] max2_int min2_int max_two min_two max_three min_three max_four min_four   -- for this text's walks alone
set_option linter.unusedVariables false
set_option linter.unusedSimpArgs false

/-! ### laws_FnRoots: function 4 -/
mutual
def laws_FnRoots.j0 : Nat → List Int → Int → Int → Int → Bool → Int → Bool → Int → Bool → Bool → Option (Bool)
  | 0, _, _, _, _, _, _, _, _, _, _ => none
  | k + 1, x1, x5, x6, x7, x8, x11, x12, x15, x16, x109 => if x109 = true then (some false) else (if x8 = true then ((impl_PowerMod.f k x5 (wrap64 (Int.tdiv (wrap64 (x6 - 1)) 2)) x6).bind fun bt203 => (if (x12 != (decide (x7 ≥ 0))) = true then (laws_FnRoots.j1 k x1 x5 x6 x7 x15 x16 true) else (if x12 = true then (if x6 = 0 then (none) else (if (Int.tmod (wrap64 (x11 * x11)) x6) = x5 then (if bt203.2 = true then (laws_FnRoots.j1 k x1 x5 x6 x7 x15 x16 ((Int.tmod (wrap64 (bt203.1 + 1)) x6) != (Int.tmod (wrap64 (x7 + 1)) x6))) else (laws_FnRoots.j1 k x1 x5 x6 x7 x15 x16 true)) else (laws_FnRoots.j1 k x1 x5 x6 x7 x15 x16 true))) else (if bt203.2 = true then (if x6 = 0 then (none) else (laws_FnRoots.j1 k x1 x5 x6 x7 x15 x16 ((Int.tmod (wrap64 (bt203.1 + 1)) x6) != (Int.tmod (wrap64 (x7 + 1)) x6)))) else (laws_FnRoots.j1 k x1 x5 x6 x7 x15 x16 true))))) else (laws_FnRoots.j2 k x1 x5 x6 x15 x16))
def laws_FnRoots.j2 : Nat → List Int → Int → Int → Int → Bool → Option (Bool)
  | 0, _, _, _, _, _ => none
  | k + 1, x1, x5, x6, x15, x16 => if x16 = true then ((impl_PowerMod.f k x5 x15 x6).bind fun bt210 => (if bt210.2 = true then (if bt210.1 = 1 then (if x15 = 0 then (none) else (if (Int.tmod (wrap64 (x6 - 1)) x15) = 0 then (laws_FnRoots.j3 k x1) else (some false))) else (some false)) else (some false))) else (laws_FnRoots.j3 k x1)
def laws_FnRoots.j3 : Nat → List Int → Option (Bool)
  | 0, _ => none
  | k + 1, x1 => (spec_DrawFirstGenerator.f x1).bind fun t212 => ((impl_FirstGenerator.f k t212).bind fun bt213 => ((spec_FirstGenerator.f k t212).bind fun bt215 => (if (bt213.2 != bt215.2) = true then (laws_FnRoots.j4 k t212 bt213.1 bt213.2 true) else (laws_FnRoots.j4 k t212 bt213.1 bt213.2 (bt213.1 != bt215.1)))))
def laws_FnRoots.j4 : Nat → Int → Int → Bool → Bool → Option (Bool)
  | 0, _, _, _, _ => none
  | k + 1, x28, x29, x30, x224 => if x224 = true then (some false) else (if x30 = true then ((impl_OrderMod.f k x29 x28).bind fun bt217 => (if bt217.2 = true then (some (bt217.1 == (wrap64 (x28 - 1)))) else (some false))) else (some true))
def laws_FnRoots.j1 : Nat → List Int → Int → Int → Int → Int → Bool → Bool → Option (Bool)
  | 0, _, _, _, _, _, _, _ => none
  | k + 1, x1, x5, x6, x7, x15, x16, x150 => if x150 = true then (some false) else ((laws_numberOf.f k x1).bind fun t205 => (if x6 = 0 then (none) else ((impl_SquareKind.f k (Int.tmod t205 x6) x6).bind fun bt206 => ((impl_SquareKind.f k (Int.tmod (wrap64 (x5 * (Int.tmod t205 x6))) x6) x6).bind fun bt208 => (if bt206.2 = true then (if bt208.2 = true then (if bt208.1 = (wrap64 (x7 * bt206.1)) then (laws_FnRoots.j2 k x1 x5 x6 x15 x16) else (some false)) else (some false)) else (some false))))))
end
def laws_FnRoots.f (k : Nat) (l0 : List Int) (l1 : List Int) : Option (Bool) := if (wrap64 ((l0.length : Int) + (l1.length : Int))) > 1048576 then (some true) else ((spec_DrawSquareKind.f k l0).bind fun bt189 => ((impl_SquareKind.f k bt189.1 bt189.2).bind fun bt191 => ((spec_SquareKind.f k bt189.1 bt189.2).bind fun bt193 => ((impl_RootMod.f k bt189.1 bt189.2).bind fun bt195 => ((spec_RootMod.f k bt189.1 bt189.2).bind fun bt197 => ((impl_OrderMod.f k bt189.1 bt189.2).bind fun bt199 => ((spec_OrderMod.f k bt189.1 bt189.2).bind fun bt201 => (if (bt191.2 != bt193.2) = true then (laws_FnRoots.j0 k l1 bt189.1 bt189.2 bt191.1 bt191.2 bt195.1 bt195.2 bt199.1 bt199.2 true) else (if bt191.1 = bt193.1 then (if (bt195.2 != bt197.2) = true then (laws_FnRoots.j0 k l1 bt189.1 bt189.2 bt191.1 bt191.2 bt195.1 bt195.2 bt199.1 bt199.2 true) else (if bt195.1 = bt197.1 then (if (bt199.2 != bt201.2) = true then (laws_FnRoots.j0 k l1 bt189.1 bt189.2 bt191.1 bt191.2 bt195.1 bt195.2 bt199.1 bt199.2 true) else (laws_FnRoots.j0 k l1 bt189.1 bt189.2 bt191.1 bt191.2 bt195.1 bt195.2 bt199.1 bt199.2 (bt199.1 != bt201.1))) else (laws_FnRoots.j0 k l1 bt189.1 bt189.2 bt191.1 bt191.2 bt195.1 bt195.2 bt199.1 bt199.2 true))) else (laws_FnRoots.j0 k l1 bt189.1 bt189.2 bt191.1 bt191.2 bt195.1 bt195.2 bt199.1 bt199.2 true))))))))))
theorem laws_FnRoots.mono_l : ∀ k, (∀ y0 y1 y2 y3 y4 y5 y6 y7 y8 y9, LeO (laws_FnRoots.j0 k y0 y1 y2 y3 y4 y5 y6 y7 y8 y9) (laws_FnRoots.j0 (k + 1) y0 y1 y2 y3 y4 y5 y6 y7 y8 y9)) ∧ (∀ y0 y1 y2 y3 y4, LeO (laws_FnRoots.j2 k y0 y1 y2 y3 y4) (laws_FnRoots.j2 (k + 1) y0 y1 y2 y3 y4)) ∧ (∀ y0, LeO (laws_FnRoots.j3 k y0) (laws_FnRoots.j3 (k + 1) y0)) ∧ (∀ y0 y1 y2 y3, LeO (laws_FnRoots.j4 k y0 y1 y2 y3) (laws_FnRoots.j4 (k + 1) y0 y1 y2 y3)) ∧ (∀ y0 y1 y2 y3 y4 y5 y6, LeO (laws_FnRoots.j1 k y0 y1 y2 y3 y4 y5 y6) (laws_FnRoots.j1 (k + 1) y0 y1 y2 y3 y4 y5 y6))
  | 0 => ⟨fun _ _ _ _ _ _ _ _ _ _ r h => by simp [laws_FnRoots.j0] at h, fun _ _ _ _ _ r h => by simp [laws_FnRoots.j2] at h, fun _ r h => by simp [laws_FnRoots.j3] at h, fun _ _ _ _ r h => by simp [laws_FnRoots.j4] at h, fun _ _ _ _ _ _ _ r h => by simp [laws_FnRoots.j1] at h⟩
  | k + 1 => by
    obtain ⟨ih0, ih1, ih2, ih3, ih4⟩ := laws_FnRoots.mono_l k
    refine ⟨?_, ?_, ?_, ?_, ?_⟩
    · intro y0 y1 y2 y3 y4 y5 y6 y7 y8 y9
      unfold laws_FnRoots.j0
      repeat' first
      | (with_reducible exact ih0 _ _ _ _ _ _ _ _ _ _)
      | (with_reducible exact ih1 _ _ _ _ _)
      | (with_reducible exact ih2 _)
      | (with_reducible exact ih3 _ _ _ _)
      | (with_reducible exact ih4 _ _ _ _ _ _ _)
      | (with_reducible exact impl_FirstGenerator.mono _ _)
      | (with_reducible exact impl_OrderMod.mono _ _ _)
      | (with_reducible exact impl_PowerMod.mono _ _ _ _)
      | (with_reducible exact impl_RootMod.mono _ _ _)
      | (with_reducible exact impl_SquareKind.mono _ _ _)
      | (with_reducible exact laws_numberOf.mono _ _)
      | (with_reducible exact spec_DrawSquareKind.mono _ _)
      | (with_reducible exact spec_FirstGenerator.mono _ _)
      | (with_reducible exact spec_OrderMod.mono _ _ _)
      | (with_reducible exact spec_RootMod.mono _ _ _)
      | (with_reducible exact spec_SquareKind.mono _ _ _)
      | (with_reducible exact LeO.refl _)
      | (with_reducible exact LeO.none _)
      | (with_reducible refine LeO.ite ?_ ?_)
      | (with_reducible refine LeO.bind ?_ (fun _ => ?_))
      | exact ih0 _ _ _ _ _ _ _ _ _ _
      | exact ih1 _ _ _ _ _
      | exact ih2 _
      | exact ih3 _ _ _ _
      | exact ih4 _ _ _ _ _ _ _
      | exact impl_FirstGenerator.mono _ _
      | exact impl_OrderMod.mono _ _ _
      | exact impl_PowerMod.mono _ _ _ _
      | exact impl_RootMod.mono _ _ _
      | exact impl_SquareKind.mono _ _ _
      | exact laws_numberOf.mono _ _
      | exact spec_DrawSquareKind.mono _ _
      | exact spec_FirstGenerator.mono _ _
      | exact spec_OrderMod.mono _ _ _
      | exact spec_RootMod.mono _ _ _
      | exact spec_SquareKind.mono _ _ _
      | exact LeO.none _
      | refine LeO.ite ?_ ?_
      | refine LeO.bind ?_ (fun _ => ?_)
    · intro y0 y1 y2 y3 y4
      unfold laws_FnRoots.j2
      repeat' first
      | (with_reducible exact ih0 _ _ _ _ _ _ _ _ _ _)
      | (with_reducible exact ih1 _ _ _ _ _)
      | (with_reducible exact ih2 _)
      | (with_reducible exact ih3 _ _ _ _)
      | (with_reducible exact ih4 _ _ _ _ _ _ _)
      | (with_reducible exact impl_FirstGenerator.mono _ _)
      | (with_reducible exact impl_OrderMod.mono _ _ _)
      | (with_reducible exact impl_PowerMod.mono _ _ _ _)
      | (with_reducible exact impl_RootMod.mono _ _ _)
      | (with_reducible exact impl_SquareKind.mono _ _ _)
      | (with_reducible exact laws_numberOf.mono _ _)
      | (with_reducible exact spec_DrawSquareKind.mono _ _)
      | (with_reducible exact spec_FirstGenerator.mono _ _)
      | (with_reducible exact spec_OrderMod.mono _ _ _)
      | (with_reducible exact spec_RootMod.mono _ _ _)
      | (with_reducible exact spec_SquareKind.mono _ _ _)
      | (with_reducible exact LeO.refl _)
      | (with_reducible exact LeO.none _)
      | (with_reducible refine LeO.ite ?_ ?_)
      | (with_reducible refine LeO.bind ?_ (fun _ => ?_))
      | exact ih0 _ _ _ _ _ _ _ _ _ _
      | exact ih1 _ _ _ _ _
      | exact ih2 _
      | exact ih3 _ _ _ _
      | exact ih4 _ _ _ _ _ _ _
      | exact impl_FirstGenerator.mono _ _
      | exact impl_OrderMod.mono _ _ _
      | exact impl_PowerMod.mono _ _ _ _
      | exact impl_RootMod.mono _ _ _
      | exact impl_SquareKind.mono _ _ _
      | exact laws_numberOf.mono _ _
      | exact spec_DrawSquareKind.mono _ _
      | exact spec_FirstGenerator.mono _ _
      | exact spec_OrderMod.mono _ _ _
      | exact spec_RootMod.mono _ _ _
      | exact spec_SquareKind.mono _ _ _
      | exact LeO.none _
      | refine LeO.ite ?_ ?_
      | refine LeO.bind ?_ (fun _ => ?_)
    · intro y0
      unfold laws_FnRoots.j3
      repeat' first
      | (with_reducible exact ih0 _ _ _ _ _ _ _ _ _ _)
      | (with_reducible exact ih1 _ _ _ _ _)
      | (with_reducible exact ih2 _)
      | (with_reducible exact ih3 _ _ _ _)
      | (with_reducible exact ih4 _ _ _ _ _ _ _)
      | (with_reducible exact impl_FirstGenerator.mono _ _)
      | (with_reducible exact impl_OrderMod.mono _ _ _)
      | (with_reducible exact impl_PowerMod.mono _ _ _ _)
      | (with_reducible exact impl_RootMod.mono _ _ _)
      | (with_reducible exact impl_SquareKind.mono _ _ _)
      | (with_reducible exact laws_numberOf.mono _ _)
      | (with_reducible exact spec_DrawSquareKind.mono _ _)
      | (with_reducible exact spec_FirstGenerator.mono _ _)
      | (with_reducible exact spec_OrderMod.mono _ _ _)
      | (with_reducible exact spec_RootMod.mono _ _ _)
      | (with_reducible exact spec_SquareKind.mono _ _ _)
      | (with_reducible exact LeO.refl _)
      | (with_reducible exact LeO.none _)
      | (with_reducible refine LeO.ite ?_ ?_)
      | (with_reducible refine LeO.bind ?_ (fun _ => ?_))
      | exact ih0 _ _ _ _ _ _ _ _ _ _
      | exact ih1 _ _ _ _ _
      | exact ih2 _
      | exact ih3 _ _ _ _
      | exact ih4 _ _ _ _ _ _ _
      | exact impl_FirstGenerator.mono _ _
      | exact impl_OrderMod.mono _ _ _
      | exact impl_PowerMod.mono _ _ _ _
      | exact impl_RootMod.mono _ _ _
      | exact impl_SquareKind.mono _ _ _
      | exact laws_numberOf.mono _ _
      | exact spec_DrawSquareKind.mono _ _
      | exact spec_FirstGenerator.mono _ _
      | exact spec_OrderMod.mono _ _ _
      | exact spec_RootMod.mono _ _ _
      | exact spec_SquareKind.mono _ _ _
      | exact LeO.none _
      | refine LeO.ite ?_ ?_
      | refine LeO.bind ?_ (fun _ => ?_)
    · intro y0 y1 y2 y3
      unfold laws_FnRoots.j4
      repeat' first
      | (with_reducible exact ih0 _ _ _ _ _ _ _ _ _ _)
      | (with_reducible exact ih1 _ _ _ _ _)
      | (with_reducible exact ih2 _)
      | (with_reducible exact ih3 _ _ _ _)
      | (with_reducible exact ih4 _ _ _ _ _ _ _)
      | (with_reducible exact impl_FirstGenerator.mono _ _)
      | (with_reducible exact impl_OrderMod.mono _ _ _)
      | (with_reducible exact impl_PowerMod.mono _ _ _ _)
      | (with_reducible exact impl_RootMod.mono _ _ _)
      | (with_reducible exact impl_SquareKind.mono _ _ _)
      | (with_reducible exact laws_numberOf.mono _ _)
      | (with_reducible exact spec_DrawSquareKind.mono _ _)
      | (with_reducible exact spec_FirstGenerator.mono _ _)
      | (with_reducible exact spec_OrderMod.mono _ _ _)
      | (with_reducible exact spec_RootMod.mono _ _ _)
      | (with_reducible exact spec_SquareKind.mono _ _ _)
      | (with_reducible exact LeO.refl _)
      | (with_reducible exact LeO.none _)
      | (with_reducible refine LeO.ite ?_ ?_)
      | (with_reducible refine LeO.bind ?_ (fun _ => ?_))
      | exact ih0 _ _ _ _ _ _ _ _ _ _
      | exact ih1 _ _ _ _ _
      | exact ih2 _
      | exact ih3 _ _ _ _
      | exact ih4 _ _ _ _ _ _ _
      | exact impl_FirstGenerator.mono _ _
      | exact impl_OrderMod.mono _ _ _
      | exact impl_PowerMod.mono _ _ _ _
      | exact impl_RootMod.mono _ _ _
      | exact impl_SquareKind.mono _ _ _
      | exact laws_numberOf.mono _ _
      | exact spec_DrawSquareKind.mono _ _
      | exact spec_FirstGenerator.mono _ _
      | exact spec_OrderMod.mono _ _ _
      | exact spec_RootMod.mono _ _ _
      | exact spec_SquareKind.mono _ _ _
      | exact LeO.none _
      | refine LeO.ite ?_ ?_
      | refine LeO.bind ?_ (fun _ => ?_)
    · intro y0 y1 y2 y3 y4 y5 y6
      unfold laws_FnRoots.j1
      repeat' first
      | (with_reducible exact ih0 _ _ _ _ _ _ _ _ _ _)
      | (with_reducible exact ih1 _ _ _ _ _)
      | (with_reducible exact ih2 _)
      | (with_reducible exact ih3 _ _ _ _)
      | (with_reducible exact ih4 _ _ _ _ _ _ _)
      | (with_reducible exact impl_FirstGenerator.mono _ _)
      | (with_reducible exact impl_OrderMod.mono _ _ _)
      | (with_reducible exact impl_PowerMod.mono _ _ _ _)
      | (with_reducible exact impl_RootMod.mono _ _ _)
      | (with_reducible exact impl_SquareKind.mono _ _ _)
      | (with_reducible exact laws_numberOf.mono _ _)
      | (with_reducible exact spec_DrawSquareKind.mono _ _)
      | (with_reducible exact spec_FirstGenerator.mono _ _)
      | (with_reducible exact spec_OrderMod.mono _ _ _)
      | (with_reducible exact spec_RootMod.mono _ _ _)
      | (with_reducible exact spec_SquareKind.mono _ _ _)
      | (with_reducible exact LeO.refl _)
      | (with_reducible exact LeO.none _)
      | (with_reducible refine LeO.ite ?_ ?_)
      | (with_reducible refine LeO.bind ?_ (fun _ => ?_))
      | exact ih0 _ _ _ _ _ _ _ _ _ _
      | exact ih1 _ _ _ _ _
      | exact ih2 _
      | exact ih3 _ _ _ _
      | exact ih4 _ _ _ _ _ _ _
      | exact impl_FirstGenerator.mono _ _
      | exact impl_OrderMod.mono _ _ _
      | exact impl_PowerMod.mono _ _ _ _
      | exact impl_RootMod.mono _ _ _
      | exact impl_SquareKind.mono _ _ _
      | exact laws_numberOf.mono _ _
      | exact spec_DrawSquareKind.mono _ _
      | exact spec_FirstGenerator.mono _ _
      | exact spec_OrderMod.mono _ _ _
      | exact spec_RootMod.mono _ _ _
      | exact spec_SquareKind.mono _ _ _
      | exact LeO.none _
      | refine LeO.ite ?_ ?_
      | refine LeO.bind ?_ (fun _ => ?_)
theorem laws_FnRoots.mono : ∀ a0 a1 k, LeO (laws_FnRoots.f k a0 a1) (laws_FnRoots.f (k + 1) a0 a1) := by
  intro a0 a1 k
  obtain ⟨ih0, ih1, ih2, ih3, ih4⟩ := laws_FnRoots.mono_l k
  unfold laws_FnRoots.f
  repeat' first
      | (with_reducible exact ih0 _ _ _ _ _ _ _ _ _ _)
      | (with_reducible exact ih1 _ _ _ _ _)
      | (with_reducible exact ih2 _)
      | (with_reducible exact ih3 _ _ _ _)
      | (with_reducible exact ih4 _ _ _ _ _ _ _)
      | (with_reducible exact impl_FirstGenerator.mono _ _)
      | (with_reducible exact impl_OrderMod.mono _ _ _)
      | (with_reducible exact impl_PowerMod.mono _ _ _ _)
      | (with_reducible exact impl_RootMod.mono _ _ _)
      | (with_reducible exact impl_SquareKind.mono _ _ _)
      | (with_reducible exact laws_numberOf.mono _ _)
      | (with_reducible exact spec_DrawSquareKind.mono _ _)
      | (with_reducible exact spec_FirstGenerator.mono _ _)
      | (with_reducible exact spec_OrderMod.mono _ _ _)
      | (with_reducible exact spec_RootMod.mono _ _ _)
      | (with_reducible exact spec_SquareKind.mono _ _ _)
      | (with_reducible exact LeO.refl _)
      | (with_reducible exact LeO.none _)
      | (with_reducible refine LeO.ite ?_ ?_)
      | (with_reducible refine LeO.bind ?_ (fun _ => ?_))
      | exact ih0 _ _ _ _ _ _ _ _ _ _
      | exact ih1 _ _ _ _ _
      | exact ih2 _
      | exact ih3 _ _ _ _
      | exact ih4 _ _ _ _ _ _ _
      | exact impl_FirstGenerator.mono _ _
      | exact impl_OrderMod.mono _ _ _
      | exact impl_PowerMod.mono _ _ _ _
      | exact impl_RootMod.mono _ _ _
      | exact impl_SquareKind.mono _ _ _
      | exact laws_numberOf.mono _ _
      | exact spec_DrawSquareKind.mono _ _
      | exact spec_FirstGenerator.mono _ _
      | exact spec_OrderMod.mono _ _ _
      | exact spec_RootMod.mono _ _ _
      | exact spec_SquareKind.mono _ _ _
      | exact LeO.none _
      | refine LeO.ite ?_ ?_
      | refine LeO.bind ?_ (fun _ => ?_)
set_option maxHeartbeats 8000000 in
set_option maxRecDepth 100000 in
theorem laws_FnRoots.calls (k : Nat) (A0 : Option Addr) (c0 : Nat) (l0 : List Int) (A1 : Option Addr) (c1 : Nat) (l1 : List Int) (r : Bool) (w : World) (hr0 : Kd.C (Kd.int .u8) w A0 l0.length l0) (hc0 : l0.length ≤ c0) (hr1 : Kd.C (Kd.int .u8) w A1 l1.length l1) (hc1 : l1.length ≤ c1) (h : laws_FnRoots.f k l0 l1 = some r) :
    Calls Try.prog 4 #[.slice A0 l0.length c0, .slice A1 l1.length c1] w fun e w' => e = .returned (.bool r) ∧ Below w.heap.size w w' := by
  have HR0 := Aside0.mk hr0
  have HC0 := Aside0.mk hc0
  clear hr0 hc0
  have HR1 := Aside0.mk hr1
  have HC1 := Aside0.mk hc1
  clear hr1 hc1
  have HB := Aside0.mk (Below.refl w.heap.size w)
  have H : (if (wrap64 ((l0.length : Int) + (l1.length : Int))) > 1048576 then (some true) else ((spec_DrawSquareKind.f k l0).bind fun bt189 => ((impl_SquareKind.f k bt189.1 bt189.2).bind fun bt191 => ((spec_SquareKind.f k bt189.1 bt189.2).bind fun bt193 => ((impl_RootMod.f k bt189.1 bt189.2).bind fun bt195 => ((spec_RootMod.f k bt189.1 bt189.2).bind fun bt197 => ((impl_OrderMod.f k bt189.1 bt189.2).bind fun bt199 => ((spec_OrderMod.f k bt189.1 bt189.2).bind fun bt201 => (if (bt191.2 != bt193.2) = true then (laws_FnRoots.j0 k l1 bt189.1 bt189.2 bt191.1 bt191.2 bt195.1 bt195.2 bt199.1 bt199.2 true) else (if bt191.1 = bt193.1 then (if (bt195.2 != bt197.2) = true then (laws_FnRoots.j0 k l1 bt189.1 bt189.2 bt191.1 bt191.2 bt195.1 bt195.2 bt199.1 bt199.2 true) else (if bt195.1 = bt197.1 then (if (bt199.2 != bt201.2) = true then (laws_FnRoots.j0 k l1 bt189.1 bt189.2 bt191.1 bt191.2 bt195.1 bt195.2 bt199.1 bt199.2 true) else (laws_FnRoots.j0 k l1 bt189.1 bt189.2 bt191.1 bt191.2 bt195.1 bt195.2 bt199.1 bt199.2 (bt199.1 != bt201.1))) else (laws_FnRoots.j0 k l1 bt189.1 bt189.2 bt191.1 bt191.2 bt195.1 bt195.2 bt199.1 bt199.2 true))) else (laws_FnRoots.j0 k l1 bt189.1 bt189.2 bt191.1 bt191.2 bt195.1 bt195.2 bt199.1 bt199.2 true))))))))))) = some r := h
  clear h
  by_cases c3 : (wrap64 ((l0.length : Int) + (l1.length : Int))) > 1048576
  · rw [if_pos c3] at H
    have c3b0 : decide (1048576 < (wrap64 ((l0.length : Int) + (l1.length : Int)))) = true := decide_eq_true c3
    clear c3
    as_aux_lemma =>
      obtain rfl := Option.some.inj H
      go_enter Try.func4, Try.ntmps4
      go_wp2
      repeat (go_quiet (fail); try go_wp2)
      go_ret
      exact ⟨by first | rfl | (simp [errW_none, errW_some] <;> rfl) | (simp [*, errW_none, errW_some] <;> rfl), by repeat (first | (with_reducible first | exact HB.out | apply below_alloc | apply pw_below_drewN | apply below_drew1) | exact HB.out)⟩
  · rw [if_neg c3] at H
    have c3b0 : decide (1048576 < (wrap64 ((l0.length : Int) + (l1.length : Int)))) = false := decide_eq_false c3
    clear c3
    replace H := Option.bind_eq_some_iff.mp H
    obtain ⟨⟨t189, t190⟩, A40, H⟩ := H
    replace H : ((impl_SquareKind.f k t189 t190).bind fun bt191 => ((spec_SquareKind.f k t189 t190).bind fun bt193 => ((impl_RootMod.f k t189 t190).bind fun bt195 => ((spec_RootMod.f k t189 t190).bind fun bt197 => ((impl_OrderMod.f k t189 t190).bind fun bt199 => ((spec_OrderMod.f k t189 t190).bind fun bt201 => (if (bt191.2 != bt193.2) = true then (laws_FnRoots.j0 k l1 t189 t190 bt191.1 bt191.2 bt195.1 bt195.2 bt199.1 bt199.2 true) else (if bt191.1 = bt193.1 then (if (bt195.2 != bt197.2) = true then (laws_FnRoots.j0 k l1 t189 t190 bt191.1 bt191.2 bt195.1 bt195.2 bt199.1 bt199.2 true) else (if bt195.1 = bt197.1 then (if (bt199.2 != bt201.2) = true then (laws_FnRoots.j0 k l1 t189 t190 bt191.1 bt191.2 bt195.1 bt195.2 bt199.1 bt199.2 true) else (laws_FnRoots.j0 k l1 t189 t190 bt191.1 bt191.2 bt195.1 bt195.2 bt199.1 bt199.2 (bt199.1 != bt201.1))) else (laws_FnRoots.j0 k l1 t189 t190 bt191.1 bt191.2 bt195.1 bt195.2 bt199.1 bt199.2 true))) else (laws_FnRoots.j0 k l1 t189 t190 bt191.1 bt191.2 bt195.1 bt195.2 bt199.1 bt199.2 true))))))))) = some r := H
    have A4 := Aside0.mk A40
    clear A40
    replace H := Option.bind_eq_some_iff.mp H
    obtain ⟨⟨t191, t192⟩, A50, H⟩ := H
    replace H : ((spec_SquareKind.f k t189 t190).bind fun bt193 => ((impl_RootMod.f k t189 t190).bind fun bt195 => ((spec_RootMod.f k t189 t190).bind fun bt197 => ((impl_OrderMod.f k t189 t190).bind fun bt199 => ((spec_OrderMod.f k t189 t190).bind fun bt201 => (if (t192 != bt193.2) = true then (laws_FnRoots.j0 k l1 t189 t190 t191 t192 bt195.1 bt195.2 bt199.1 bt199.2 true) else (if t191 = bt193.1 then (if (bt195.2 != bt197.2) = true then (laws_FnRoots.j0 k l1 t189 t190 t191 t192 bt195.1 bt195.2 bt199.1 bt199.2 true) else (if bt195.1 = bt197.1 then (if (bt199.2 != bt201.2) = true then (laws_FnRoots.j0 k l1 t189 t190 t191 t192 bt195.1 bt195.2 bt199.1 bt199.2 true) else (laws_FnRoots.j0 k l1 t189 t190 t191 t192 bt195.1 bt195.2 bt199.1 bt199.2 (bt199.1 != bt201.1))) else (laws_FnRoots.j0 k l1 t189 t190 t191 t192 bt195.1 bt195.2 bt199.1 bt199.2 true))) else (laws_FnRoots.j0 k l1 t189 t190 t191 t192 bt195.1 bt195.2 bt199.1 bt199.2 true)))))))) = some r := H
    have A5 := Aside0.mk A50
    clear A50
    replace H := Option.bind_eq_some_iff.mp H
    obtain ⟨⟨t193, t194⟩, A60, H⟩ := H
    replace H : ((impl_RootMod.f k t189 t190).bind fun bt195 => ((spec_RootMod.f k t189 t190).bind fun bt197 => ((impl_OrderMod.f k t189 t190).bind fun bt199 => ((spec_OrderMod.f k t189 t190).bind fun bt201 => (if (t192 != t194) = true then (laws_FnRoots.j0 k l1 t189 t190 t191 t192 bt195.1 bt195.2 bt199.1 bt199.2 true) else (if t191 = t193 then (if (bt195.2 != bt197.2) = true then (laws_FnRoots.j0 k l1 t189 t190 t191 t192 bt195.1 bt195.2 bt199.1 bt199.2 true) else (if bt195.1 = bt197.1 then (if (bt199.2 != bt201.2) = true then (laws_FnRoots.j0 k l1 t189 t190 t191 t192 bt195.1 bt195.2 bt199.1 bt199.2 true) else (laws_FnRoots.j0 k l1 t189 t190 t191 t192 bt195.1 bt195.2 bt199.1 bt199.2 (bt199.1 != bt201.1))) else (laws_FnRoots.j0 k l1 t189 t190 t191 t192 bt195.1 bt195.2 bt199.1 bt199.2 true))) else (laws_FnRoots.j0 k l1 t189 t190 t191 t192 bt195.1 bt195.2 bt199.1 bt199.2 true))))))) = some r := H
    have A6 := Aside0.mk A60
    clear A60
    replace H := Option.bind_eq_some_iff.mp H
    obtain ⟨⟨t195, t196⟩, A70, H⟩ := H
    replace H : ((spec_RootMod.f k t189 t190).bind fun bt197 => ((impl_OrderMod.f k t189 t190).bind fun bt199 => ((spec_OrderMod.f k t189 t190).bind fun bt201 => (if (t192 != t194) = true then (laws_FnRoots.j0 k l1 t189 t190 t191 t192 t195 t196 bt199.1 bt199.2 true) else (if t191 = t193 then (if (t196 != bt197.2) = true then (laws_FnRoots.j0 k l1 t189 t190 t191 t192 t195 t196 bt199.1 bt199.2 true) else (if t195 = bt197.1 then (if (bt199.2 != bt201.2) = true then (laws_FnRoots.j0 k l1 t189 t190 t191 t192 t195 t196 bt199.1 bt199.2 true) else (laws_FnRoots.j0 k l1 t189 t190 t191 t192 t195 t196 bt199.1 bt199.2 (bt199.1 != bt201.1))) else (laws_FnRoots.j0 k l1 t189 t190 t191 t192 t195 t196 bt199.1 bt199.2 true))) else (laws_FnRoots.j0 k l1 t189 t190 t191 t192 t195 t196 bt199.1 bt199.2 true)))))) = some r := H
    have A7 := Aside0.mk A70
    clear A70
    replace H := Option.bind_eq_some_iff.mp H
    obtain ⟨⟨t197, t198⟩, A80, H⟩ := H
    replace H : ((impl_OrderMod.f k t189 t190).bind fun bt199 => ((spec_OrderMod.f k t189 t190).bind fun bt201 => (if (t192 != t194) = true then (laws_FnRoots.j0 k l1 t189 t190 t191 t192 t195 t196 bt199.1 bt199.2 true) else (if t191 = t193 then (if (t196 != t198) = true then (laws_FnRoots.j0 k l1 t189 t190 t191 t192 t195 t196 bt199.1 bt199.2 true) else (if t195 = t197 then (if (bt199.2 != bt201.2) = true then (laws_FnRoots.j0 k l1 t189 t190 t191 t192 t195 t196 bt199.1 bt199.2 true) else (laws_FnRoots.j0 k l1 t189 t190 t191 t192 t195 t196 bt199.1 bt199.2 (bt199.1 != bt201.1))) else (laws_FnRoots.j0 k l1 t189 t190 t191 t192 t195 t196 bt199.1 bt199.2 true))) else (laws_FnRoots.j0 k l1 t189 t190 t191 t192 t195 t196 bt199.1 bt199.2 true))))) = some r := H
    have A8 := Aside0.mk A80
    clear A80
    replace H := Option.bind_eq_some_iff.mp H
    obtain ⟨⟨t199, t200⟩, A90, H⟩ := H
    replace H : ((spec_OrderMod.f k t189 t190).bind fun bt201 => (if (t192 != t194) = true then (laws_FnRoots.j0 k l1 t189 t190 t191 t192 t195 t196 t199 t200 true) else (if t191 = t193 then (if (t196 != t198) = true then (laws_FnRoots.j0 k l1 t189 t190 t191 t192 t195 t196 t199 t200 true) else (if t195 = t197 then (if (t200 != bt201.2) = true then (laws_FnRoots.j0 k l1 t189 t190 t191 t192 t195 t196 t199 t200 true) else (laws_FnRoots.j0 k l1 t189 t190 t191 t192 t195 t196 t199 t200 (t199 != bt201.1))) else (laws_FnRoots.j0 k l1 t189 t190 t191 t192 t195 t196 t199 t200 true))) else (laws_FnRoots.j0 k l1 t189 t190 t191 t192 t195 t196 t199 t200 true)))) = some r := H
    have A9 := Aside0.mk A90
    clear A90
    replace H := Option.bind_eq_some_iff.mp H
    obtain ⟨⟨t201, t202⟩, A100, H⟩ := H
    replace H : (if (t192 != t194) = true then (laws_FnRoots.j0 k l1 t189 t190 t191 t192 t195 t196 t199 t200 true) else (if t191 = t193 then (if (t196 != t198) = true then (laws_FnRoots.j0 k l1 t189 t190 t191 t192 t195 t196 t199 t200 true) else (if t195 = t197 then (if (t200 != t202) = true then (laws_FnRoots.j0 k l1 t189 t190 t191 t192 t195 t196 t199 t200 true) else (laws_FnRoots.j0 k l1 t189 t190 t191 t192 t195 t196 t199 t200 (t199 != t201))) else (laws_FnRoots.j0 k l1 t189 t190 t191 t192 t195 t196 t199 t200 true))) else (laws_FnRoots.j0 k l1 t189 t190 t191 t192 t195 t196 t199 t200 true))) = some r := H
    have A10 := Aside0.mk A100
    clear A100
    have HC11 := Aside0.mk H
    clear H
    go_enter Try.func4, Try.ntmps4
    go_upto_region 10 with (first | (go_at_call 20; (with_reducible refine (spec_DrawSquareKind.calls k _ _ l0 t189 t190 _ ?side1 ?side2 A4.out).mono ?_); (case side1 => repeat (first | exact HR0.out | (with_reducible refine Kd.C_alloc ?_ _) | (with_reducible refine Kd.C_drewN ?_ _) | (with_reducible refine Kd.C_drew ?_))); (case side2 => exact HC0.out); rintro e w12 ⟨rfl, hb⟩; have n0_ := Aside0.mk (below_step (by repeat (first | (with_reducible first | exact HB.out | apply below_alloc | apply pw_below_drewN | apply below_drew1) | exact HB.out)) hb); clear HB; have HB := n0_; clear n0_; (try clear hb); (try clear hb2); (try clear hk); (try clear hi)) | (go_at_call 21; (with_reducible refine (impl_SquareKind.calls k t189 t190 t191 t192 _ A5.out).mono ?_); rintro e w' ⟨rfl, ⟨nd, rfl⟩⟩; (try first | exact ⟨rfl, _, World.drewN_drewN _ _ _⟩ | exact ⟨rfl, _, Eq.trans (World.drewN_drewN _ _ _) (congrArg (World.drewN _) (Nat.add_assoc _ _ _))⟩)) | (go_at_call 22; (with_reducible refine (spec_SquareKind.calls k t189 t190 t193 t194 _ A6.out).mono ?_); rintro e w' ⟨rfl, ⟨nd, rfl⟩⟩; (try first | exact ⟨rfl, _, World.drewN_drewN _ _ _⟩ | exact ⟨rfl, _, Eq.trans (World.drewN_drewN _ _ _) (congrArg (World.drewN _) (Nat.add_assoc _ _ _))⟩)) | (go_at_call 23; (with_reducible refine (impl_RootMod.calls k t189 t190 t195 t196 _ A7.out).mono ?_); rintro e w' ⟨rfl, ⟨nd, rfl⟩⟩; (try first | exact ⟨rfl, _, World.drewN_drewN _ _ _⟩ | exact ⟨rfl, _, Eq.trans (World.drewN_drewN _ _ _) (congrArg (World.drewN _) (Nat.add_assoc _ _ _))⟩)) | (go_at_call 24; (with_reducible refine (spec_RootMod.calls k t189 t190 t197 t198 _ A8.out).mono ?_); rintro e w' ⟨rfl, ⟨nd, rfl⟩⟩; (try first | exact ⟨rfl, _, World.drewN_drewN _ _ _⟩ | exact ⟨rfl, _, Eq.trans (World.drewN_drewN _ _ _) (congrArg (World.drewN _) (Nat.add_assoc _ _ _))⟩)) | (go_at_call 25; (with_reducible refine (impl_OrderMod.calls k t189 t190 t199 t200 _ A9.out).mono ?_); rintro e w' ⟨rfl, ⟨nd, rfl⟩⟩; (try first | exact ⟨rfl, _, World.drewN_drewN _ _ _⟩ | exact ⟨rfl, _, Eq.trans (World.drewN_drewN _ _ _) (congrArg (World.drewN _) (Nat.add_assoc _ _ _))⟩)) | (go_at_call 26; (with_reducible refine (spec_OrderMod.calls k t189 t190 t201 t202 _ A10.out).mono ?_); rintro e w' ⟨rfl, ⟨nd, rfl⟩⟩; (try first | exact ⟨rfl, _, World.drewN_drewN _ _ _⟩ | exact ⟨rfl, _, Eq.trans (World.drewN_drewN _ _ _) (congrArg (World.drewN _) (Nat.add_assoc _ _ _))⟩)))
    repeat (go_quiet (first | (go_at_call 20; (with_reducible refine (spec_DrawSquareKind.calls k _ _ l0 t189 t190 _ ?side1 ?side2 A4.out).mono ?_); (case side1 => repeat (first | exact HR0.out | (with_reducible refine Kd.C_alloc ?_ _) | (with_reducible refine Kd.C_drewN ?_ _) | (with_reducible refine Kd.C_drew ?_))); (case side2 => exact HC0.out); rintro e w12 ⟨rfl, hb⟩; have n0_ := Aside0.mk (below_step (by repeat (first | (with_reducible first | exact HB.out | apply below_alloc | apply pw_below_drewN | apply below_drew1) | exact HB.out)) hb); clear HB; have HB := n0_; clear n0_; (try clear hb); (try clear hb2); (try clear hk); (try clear hi)) | (go_at_call 21; (with_reducible refine (impl_SquareKind.calls k t189 t190 t191 t192 _ A5.out).mono ?_); rintro e w' ⟨rfl, ⟨nd, rfl⟩⟩; (try first | exact ⟨rfl, _, World.drewN_drewN _ _ _⟩ | exact ⟨rfl, _, Eq.trans (World.drewN_drewN _ _ _) (congrArg (World.drewN _) (Nat.add_assoc _ _ _))⟩)) | (go_at_call 22; (with_reducible refine (spec_SquareKind.calls k t189 t190 t193 t194 _ A6.out).mono ?_); rintro e w' ⟨rfl, ⟨nd, rfl⟩⟩; (try first | exact ⟨rfl, _, World.drewN_drewN _ _ _⟩ | exact ⟨rfl, _, Eq.trans (World.drewN_drewN _ _ _) (congrArg (World.drewN _) (Nat.add_assoc _ _ _))⟩)) | (go_at_call 23; (with_reducible refine (impl_RootMod.calls k t189 t190 t195 t196 _ A7.out).mono ?_); rintro e w' ⟨rfl, ⟨nd, rfl⟩⟩; (try first | exact ⟨rfl, _, World.drewN_drewN _ _ _⟩ | exact ⟨rfl, _, Eq.trans (World.drewN_drewN _ _ _) (congrArg (World.drewN _) (Nat.add_assoc _ _ _))⟩)) | (go_at_call 24; (with_reducible refine (spec_RootMod.calls k t189 t190 t197 t198 _ A8.out).mono ?_); rintro e w' ⟨rfl, ⟨nd, rfl⟩⟩; (try first | exact ⟨rfl, _, World.drewN_drewN _ _ _⟩ | exact ⟨rfl, _, Eq.trans (World.drewN_drewN _ _ _) (congrArg (World.drewN _) (Nat.add_assoc _ _ _))⟩)) | (go_at_call 25; (with_reducible refine (impl_OrderMod.calls k t189 t190 t199 t200 _ A9.out).mono ?_); rintro e w' ⟨rfl, ⟨nd, rfl⟩⟩; (try first | exact ⟨rfl, _, World.drewN_drewN _ _ _⟩ | exact ⟨rfl, _, Eq.trans (World.drewN_drewN _ _ _) (congrArg (World.drewN _) (Nat.add_assoc _ _ _))⟩)) | (go_at_call 26; (with_reducible refine (spec_OrderMod.calls k t189 t190 t201 t202 _ A10.out).mono ?_); rintro e w' ⟨rfl, ⟨nd, rfl⟩⟩; (try first | exact ⟨rfl, _, World.drewN_drewN _ _ _⟩ | exact ⟨rfl, _, Eq.trans (World.drewN_drewN _ _ _) (congrArg (World.drewN _) (Nat.add_assoc _ _ _))⟩))); go_upto_region 10 with (first | (go_at_call 20; (with_reducible refine (spec_DrawSquareKind.calls k _ _ l0 t189 t190 _ ?side1 ?side2 A4.out).mono ?_); (case side1 => repeat (first | exact HR0.out | (with_reducible refine Kd.C_alloc ?_ _) | (with_reducible refine Kd.C_drewN ?_ _) | (with_reducible refine Kd.C_drew ?_))); (case side2 => exact HC0.out); rintro e w12 ⟨rfl, hb⟩; have n0_ := Aside0.mk (below_step (by repeat (first | (with_reducible first | exact HB.out | apply below_alloc | apply pw_below_drewN | apply below_drew1) | exact HB.out)) hb); clear HB; have HB := n0_; clear n0_; (try clear hb); (try clear hb2); (try clear hk); (try clear hi)) | (go_at_call 21; (with_reducible refine (impl_SquareKind.calls k t189 t190 t191 t192 _ A5.out).mono ?_); rintro e w' ⟨rfl, ⟨nd, rfl⟩⟩; (try first | exact ⟨rfl, _, World.drewN_drewN _ _ _⟩ | exact ⟨rfl, _, Eq.trans (World.drewN_drewN _ _ _) (congrArg (World.drewN _) (Nat.add_assoc _ _ _))⟩)) | (go_at_call 22; (with_reducible refine (spec_SquareKind.calls k t189 t190 t193 t194 _ A6.out).mono ?_); rintro e w' ⟨rfl, ⟨nd, rfl⟩⟩; (try first | exact ⟨rfl, _, World.drewN_drewN _ _ _⟩ | exact ⟨rfl, _, Eq.trans (World.drewN_drewN _ _ _) (congrArg (World.drewN _) (Nat.add_assoc _ _ _))⟩)) | (go_at_call 23; (with_reducible refine (impl_RootMod.calls k t189 t190 t195 t196 _ A7.out).mono ?_); rintro e w' ⟨rfl, ⟨nd, rfl⟩⟩; (try first | exact ⟨rfl, _, World.drewN_drewN _ _ _⟩ | exact ⟨rfl, _, Eq.trans (World.drewN_drewN _ _ _) (congrArg (World.drewN _) (Nat.add_assoc _ _ _))⟩)) | (go_at_call 24; (with_reducible refine (spec_RootMod.calls k t189 t190 t197 t198 _ A8.out).mono ?_); rintro e w' ⟨rfl, ⟨nd, rfl⟩⟩; (try first | exact ⟨rfl, _, World.drewN_drewN _ _ _⟩ | exact ⟨rfl, _, Eq.trans (World.drewN_drewN _ _ _) (congrArg (World.drewN _) (Nat.add_assoc _ _ _))⟩)) | (go_at_call 25; (with_reducible refine (impl_OrderMod.calls k t189 t190 t199 t200 _ A9.out).mono ?_); rintro e w' ⟨rfl, ⟨nd, rfl⟩⟩; (try first | exact ⟨rfl, _, World.drewN_drewN _ _ _⟩ | exact ⟨rfl, _, Eq.trans (World.drewN_drewN _ _ _) (congrArg (World.drewN _) (Nat.add_assoc _ _ _))⟩)) | (go_at_call 26; (with_reducible refine (spec_OrderMod.calls k t189 t190 t201 t202 _ A10.out).mono ?_); rintro e w' ⟨rfl, ⟨nd, rfl⟩⟩; (try first | exact ⟨rfl, _, World.drewN_drewN _ _ _⟩ | exact ⟨rfl, _, Eq.trans (World.drewN_drewN _ _ _) (congrArg (World.drewN _) (Nat.add_assoc _ _ _))⟩))))
    (try simp only [Act.put, List.setIfInBounds_toArray, List.set_cons_zero, List.set_cons_succ])
    go_cut [109] (fun v109 wc => ∃ (kq : Nat) (x109_10 : Bool), v109 = .bool x109_10 ∧ Aside0 (laws_FnRoots.j0 kq l1 t189 t190 t191 t192 t195 t196 t199 t200 x109_10 = some r) ∧ Aside0 (kq ≤ k) ∧ Aside0 (Below w.heap.size w wc))
    case first =>
      have H := HC11.out
      clear HC11
      by_cases c13 : (t192 != t194) = true
      · rw [if_pos c13] at H
        have c13b0 : (t192 != t194) = true := c13
        (try (have c13b1 : decide (t192 = t194) = false := by simpa using c13))
        (try (have c13b2 : (t192 == t194) = false := by simpa using c13))
        (try (have c13b3 : ¬ (t192 = t194) := by simpa using c13))
        clear c13
        (first | rw [c13b0] | (simp only [i64_w, i32_w]; rw [c13b0]) | skip)
        as_aux_lemma =>
          have H' := Aside0.mk H
          clear H
          go_wp2
          repeat (go_quiet (fail); try go_wp2)
          go_meet
          case rel => exact ⟨_, (true), (by first | rfl | (simp; done) | (simp [*]; done)), H', ⟨by first | omega | exact Nat.le_refl _⟩, ⟨by repeat (first | (with_reducible first | exact HB.out | apply below_alloc | apply pw_below_drewN | apply below_drew1) | exact HB.out)⟩⟩
      · rw [if_neg c13] at H
        have c13b0 : (t192 != t194) = false := by simpa using c13
        (try (have c13b1 : decide (t192 = t194) = true := by simpa using c13))
        (try (have c13b2 : (t192 == t194) = true := by simpa using c13))
        clear c13
        (first | rw [c13b0] | (simp only [i64_w, i32_w]; rw [c13b0]) | skip)
        by_cases c14 : t191 = t193
        · rw [if_pos c14] at H
          have c14b0 : (t191 == t193) = true := beq_iff_eq.mpr c14
          have c14b1 : (t191 != t193) = false := bne_eq_false_iff_eq.mpr c14
          clear c14
          by_cases c15 : (t196 != t198) = true
          · rw [if_pos c15] at H
            have c15b0 : (t196 != t198) = true := c15
            (try (have c15b1 : decide (t196 = t198) = false := by simpa using c15))
            (try (have c15b2 : (t196 == t198) = false := by simpa using c15))
            (try (have c15b3 : ¬ (t196 = t198) := by simpa using c15))
            clear c15
            as_aux_lemma =>
              have H' := Aside0.mk H
              clear H
              go_wp2
              repeat (go_quiet (fail); try go_wp2)
              go_meet
              case rel => exact ⟨_, (true), (by first | rfl | (simp; done) | (simp [*]; done)), H', ⟨by first | omega | exact Nat.le_refl _⟩, ⟨by repeat (first | (with_reducible first | exact HB.out | apply below_alloc | apply pw_below_drewN | apply below_drew1) | exact HB.out)⟩⟩
          · rw [if_neg c15] at H
            have c15b0 : (t196 != t198) = false := by simpa using c15
            (try (have c15b1 : decide (t196 = t198) = true := by simpa using c15))
            (try (have c15b2 : (t196 == t198) = true := by simpa using c15))
            clear c15
            by_cases c16 : t195 = t197
            · rw [if_pos c16] at H
              have c16b0 : (t195 == t197) = true := beq_iff_eq.mpr c16
              have c16b1 : (t195 != t197) = false := bne_eq_false_iff_eq.mpr c16
              clear c16
              by_cases c17 : (t200 != t202) = true
              · rw [if_pos c17] at H
                have c17b0 : (t200 != t202) = true := c17
                (try (have c17b1 : decide (t200 = t202) = false := by simpa using c17))
                (try (have c17b2 : (t200 == t202) = false := by simpa using c17))
                (try (have c17b3 : ¬ (t200 = t202) := by simpa using c17))
                clear c17
                as_aux_lemma =>
                  have H' := Aside0.mk H
                  clear H
                  go_wp2
                  repeat (go_quiet (fail); try go_wp2)
                  go_meet
                  case rel => exact ⟨_, (true), (by first | rfl | (simp; done) | (simp [*]; done)), H', ⟨by first | omega | exact Nat.le_refl _⟩, ⟨by repeat (first | (with_reducible first | exact HB.out | apply below_alloc | apply pw_below_drewN | apply below_drew1) | exact HB.out)⟩⟩
              · rw [if_neg c17] at H
                have c17b0 : (t200 != t202) = false := by simpa using c17
                (try (have c17b1 : decide (t200 = t202) = true := by simpa using c17))
                (try (have c17b2 : (t200 == t202) = true := by simpa using c17))
                clear c17
                as_aux_lemma =>
                  have H' := Aside0.mk H
                  clear H
                  go_wp2
                  repeat (go_quiet (fail); try go_wp2)
                  go_meet
                  case rel => exact ⟨_, ((t199 != t201)), (by first | rfl | (simp; done) | (simp [*]; done)), H', ⟨by first | omega | exact Nat.le_refl _⟩, ⟨by repeat (first | (with_reducible first | exact HB.out | apply below_alloc | apply pw_below_drewN | apply below_drew1) | exact HB.out)⟩⟩
            · rw [if_neg c16] at H
              have c16b0 : (t195 == t197) = false := beq_eq_false_iff_ne.mpr c16
              have c16b1 : (t195 != t197) = true := bne_iff_ne.mpr c16
              as_aux_lemma =>
                have H' := Aside0.mk H
                clear H
                go_wp2
                repeat (go_quiet (fail); try go_wp2)
                go_meet
                case rel => exact ⟨_, (true), (by first | rfl | (simp; done) | (simp [*]; done)), H', ⟨by first | omega | exact Nat.le_refl _⟩, ⟨by repeat (first | (with_reducible first | exact HB.out | apply below_alloc | apply pw_below_drewN | apply below_drew1) | exact HB.out)⟩⟩
        · rw [if_neg c14] at H
          have c14b0 : (t191 == t193) = false := beq_eq_false_iff_ne.mpr c14
          have c14b1 : (t191 != t193) = true := bne_iff_ne.mpr c14
          as_aux_lemma =>
            have H' := Aside0.mk H
            clear H
            go_wp2
            repeat (go_quiet (fail); try go_wp2)
            go_meet
            case rel => exact ⟨_, (true), (by first | rfl | (simp; done) | (simp [*]; done)), H', ⟨by first | omega | exact Nat.le_refl _⟩, ⟨by repeat (first | (with_reducible first | exact HB.out | apply below_alloc | apply pw_below_drewN | apply below_drew1) | exact HB.out)⟩⟩
    case rest =>
      clear HC11
      try clear c1
      try clear p2
      try clear c3
      try clear c3b0
      try clear c4
      try clear p6
      try clear c13
      try clear c13b0
      try clear c13b1
      try clear c13b2
      try clear c14
      try clear c14b0
      try clear c14b1
      try clear c15
      try clear c15b0
      try clear c15b1
      try clear c15b2
      try clear c16
      try clear c16b0
      try clear c16b1
      try clear c17
      try clear c17b0
      try clear c17b1
      try clear c17b2
      obtain ⟨kq, x109_10, rfl, HA, HJ10, HB⟩ := hcut
      cases kq with
      | zero => exact absurd HA.out (by simp [laws_FnRoots.j0])
      | succ kj10 =>
        have H := HA.out
        clear HA
        simp only [laws_FnRoots.j0] at H
        by_cases c18 : x109_10 = true
        · subst c18
          have H1 : (some false) = some r := by rw [if_pos rfl] at H; exact H
          clear H
          have H := H1
          clear H1
          as_aux_lemma =>
            obtain rfl := Option.some.inj H
            go_wp2
            repeat (go_quiet (fail); try go_wp2)
            go_ret
            exact ⟨by first | rfl | (simp [errW_none, errW_some] <;> rfl) | (simp [*, errW_none, errW_some] <;> rfl), by repeat (first | (with_reducible first | exact HB.out | apply below_alloc | apply pw_below_drewN | apply below_drew1) | exact HB.out)⟩
        · replace c18 := Bool.eq_false_iff.mpr c18
          subst c18
          have H1 : (if t192 = true then ((impl_PowerMod.f kj10 t189 (wrap64 (Int.tdiv (wrap64 (t190 - 1)) 2)) t190).bind fun bt203 => (if (t196 != (decide (t191 ≥ 0))) = true then (laws_FnRoots.j1 kj10 l1 t189 t190 t191 t199 t200 true) else (if t196 = true then (if t190 = 0 then (none) else (if (Int.tmod (wrap64 (t195 * t195)) t190) = t189 then (if bt203.2 = true then (laws_FnRoots.j1 kj10 l1 t189 t190 t191 t199 t200 ((Int.tmod (wrap64 (bt203.1 + 1)) t190) != (Int.tmod (wrap64 (t191 + 1)) t190))) else (laws_FnRoots.j1 kj10 l1 t189 t190 t191 t199 t200 true)) else (laws_FnRoots.j1 kj10 l1 t189 t190 t191 t199 t200 true))) else (if bt203.2 = true then (if t190 = 0 then (none) else (laws_FnRoots.j1 kj10 l1 t189 t190 t191 t199 t200 ((Int.tmod (wrap64 (bt203.1 + 1)) t190) != (Int.tmod (wrap64 (t191 + 1)) t190)))) else (laws_FnRoots.j1 kj10 l1 t189 t190 t191 t199 t200 true))))) else (laws_FnRoots.j2 kj10 l1 t189 t190 t199 t200)) = some r := by rw [if_neg (show ¬ (false = true) by decide)] at H; exact H
          clear H
          have H := H1
          clear H1
          have HC19 := Aside0.mk H
          clear H
          go_upto_if 110 with (fail)
          repeat (go_quiet (fail); go_upto_if 110 with (fail))
          go_cut [] (fun wc => ∃ (kq : Nat), Aside0 (laws_FnRoots.j2 kq l1 t189 t190 t199 t200 = some r) ∧ Aside0 (kq ≤ kj10) ∧ Aside0 (Below w.heap.size w wc))
          case first =>
            have H := HC19.out
            clear HC19
            by_cases c20 : t192 = true
            · subst c20
              have H1 : ((impl_PowerMod.f kj10 t189 (wrap64 (Int.tdiv (wrap64 (t190 - 1)) 2)) t190).bind fun bt203 => (if (t196 != (decide (t191 ≥ 0))) = true then (laws_FnRoots.j1 kj10 l1 t189 t190 t191 t199 t200 true) else (if t196 = true then (if t190 = 0 then (none) else (if (Int.tmod (wrap64 (t195 * t195)) t190) = t189 then (if bt203.2 = true then (laws_FnRoots.j1 kj10 l1 t189 t190 t191 t199 t200 ((Int.tmod (wrap64 (bt203.1 + 1)) t190) != (Int.tmod (wrap64 (t191 + 1)) t190))) else (laws_FnRoots.j1 kj10 l1 t189 t190 t191 t199 t200 true)) else (laws_FnRoots.j1 kj10 l1 t189 t190 t191 t199 t200 true))) else (if bt203.2 = true then (if t190 = 0 then (none) else (laws_FnRoots.j1 kj10 l1 t189 t190 t191 t199 t200 ((Int.tmod (wrap64 (bt203.1 + 1)) t190) != (Int.tmod (wrap64 (t191 + 1)) t190)))) else (laws_FnRoots.j1 kj10 l1 t189 t190 t191 t199 t200 true))))) = some r := by rw [if_pos rfl] at H; exact H
              clear H
              have H := H1
              clear H1
              replace H := Option.bind_eq_some_iff.mp H
              obtain ⟨⟨t203, t204⟩, A210, H⟩ := H
              replace H : (if (t196 != (decide (t191 ≥ 0))) = true then (laws_FnRoots.j1 kj10 l1 t189 t190 t191 t199 t200 true) else (if t196 = true then (if t190 = 0 then (none) else (if (Int.tmod (wrap64 (t195 * t195)) t190) = t189 then (if t204 = true then (laws_FnRoots.j1 kj10 l1 t189 t190 t191 t199 t200 ((Int.tmod (wrap64 (t203 + 1)) t190) != (Int.tmod (wrap64 (t191 + 1)) t190))) else (laws_FnRoots.j1 kj10 l1 t189 t190 t191 t199 t200 true)) else (laws_FnRoots.j1 kj10 l1 t189 t190 t191 t199 t200 true))) else (if t204 = true then (if t190 = 0 then (none) else (laws_FnRoots.j1 kj10 l1 t189 t190 t191 t199 t200 ((Int.tmod (wrap64 (t203 + 1)) t190) != (Int.tmod (wrap64 (t191 + 1)) t190)))) else (laws_FnRoots.j1 kj10 l1 t189 t190 t191 t199 t200 true)))) = some r := H
              have A21 := Aside0.mk A210
              clear A210
              have HC22 := Aside0.mk H
              clear H
              go_upto_region 14 with (first | (go_at_call 8; (with_reducible refine (impl_PowerMod.calls kj10 t189 (wrap64 (Int.tdiv (wrap64 (t190 - 1)) 2)) t190 t203 t204 _ A21.out).mono ?_); rintro e w' ⟨rfl, ⟨nd, rfl⟩⟩; (try first | exact ⟨rfl, _, World.drewN_drewN _ _ _⟩ | exact ⟨rfl, _, Eq.trans (World.drewN_drewN _ _ _) (congrArg (World.drewN _) (Nat.add_assoc _ _ _))⟩)))
              repeat (go_quiet (first | (go_at_call 8; (with_reducible refine (impl_PowerMod.calls kj10 t189 (wrap64 (Int.tdiv (wrap64 (t190 - 1)) 2)) t190 t203 t204 _ A21.out).mono ?_); rintro e w' ⟨rfl, ⟨nd, rfl⟩⟩; (try first | exact ⟨rfl, _, World.drewN_drewN _ _ _⟩ | exact ⟨rfl, _, Eq.trans (World.drewN_drewN _ _ _) (congrArg (World.drewN _) (Nat.add_assoc _ _ _))⟩))); go_upto_region 14 with (first | (go_at_call 8; (with_reducible refine (impl_PowerMod.calls kj10 t189 (wrap64 (Int.tdiv (wrap64 (t190 - 1)) 2)) t190 t203 t204 _ A21.out).mono ?_); rintro e w' ⟨rfl, ⟨nd, rfl⟩⟩; (try first | exact ⟨rfl, _, World.drewN_drewN _ _ _⟩ | exact ⟨rfl, _, Eq.trans (World.drewN_drewN _ _ _) (congrArg (World.drewN _) (Nat.add_assoc _ _ _))⟩))))
              (try simp only [Act.put, List.setIfInBounds_toArray, List.set_cons_zero, List.set_cons_succ])
              go_cut [150] (fun v150 wc => ∃ (kq : Nat) (x150_21 : Bool), v150 = .bool x150_21 ∧ Aside0 (laws_FnRoots.j1 kq l1 t189 t190 t191 t199 t200 x150_21 = some r) ∧ Aside0 (kq ≤ kj10) ∧ Aside0 (Below w.heap.size w wc))
              case first =>
                have H := HC22.out
                clear HC22
                by_cases c23 : (t196 != (decide (t191 ≥ 0))) = true
                · rw [if_pos c23] at H
                  have c23b0 : (t196 != (decide (t191 ≥ 0))) = true := c23
                  (try (have c23b1 : decide (t196 = (decide (t191 ≥ 0))) = false := by simpa using c23))
                  (try (have c23b2 : (t196 == (decide (t191 ≥ 0))) = false := by simpa using c23))
                  (try (have c23b3 : ¬ (t196 = (decide (t191 ≥ 0))) := by simpa using c23))
                  clear c23
                  (first | rw [c23b0] | (simp only [i64_w, i32_w]; rw [c23b0]) | skip)
                  as_aux_lemma =>
                    have H' := Aside0.mk H
                    clear H
                    go_wp2
                    repeat (go_quiet (fail); try go_wp2)
                    go_meet
                    case rel => exact ⟨_, (true), (by first | rfl | (simp; done) | (simp [*]; done)), H', ⟨by have := HJ10.out; first | omega | exact Nat.le_refl _⟩, ⟨by repeat (first | (with_reducible first | exact HB.out | apply below_alloc | apply pw_below_drewN | apply below_drew1) | exact HB.out)⟩⟩
                · rw [if_neg c23] at H
                  have c23b0 : (t196 != (decide (t191 ≥ 0))) = false := by simpa using c23
                  (try (have c23b1 : decide (t196 = (decide (t191 ≥ 0))) = true := by simpa using c23))
                  (try (have c23b2 : (t196 == (decide (t191 ≥ 0))) = true := by simpa using c23))
                  clear c23
                  (first | rw [c23b0] | (simp only [i64_w, i32_w]; rw [c23b0]) | skip)
                  by_cases c24 : t196 = true
                  · subst c24
                    have H1 : (if t190 = 0 then (none) else (if (Int.tmod (wrap64 (t195 * t195)) t190) = t189 then (if t204 = true then (laws_FnRoots.j1 kj10 l1 t189 t190 t191 t199 t200 ((Int.tmod (wrap64 (t203 + 1)) t190) != (Int.tmod (wrap64 (t191 + 1)) t190))) else (laws_FnRoots.j1 kj10 l1 t189 t190 t191 t199 t200 true)) else (laws_FnRoots.j1 kj10 l1 t189 t190 t191 t199 t200 true))) = some r := by rw [if_pos rfl] at H; exact H
                    clear H
                    have H := H1
                    clear H1
                    by_cases c25 : t190 = 0
                    · rw [if_pos c25] at H
                      exact absurd H (by simp)
                    · rw [if_neg c25] at H
                      have c25b0 : (t190 == 0) = false := beq_eq_false_iff_ne.mpr c25
                      have c25b1 : (t190 != 0) = true := bne_iff_ne.mpr c25
                      by_cases c26 : (Int.tmod (wrap64 (t195 * t195)) t190) = t189
                      · rw [if_pos c26] at H
                        have c26b0 : ((Int.tmod (wrap64 (t195 * t195)) t190) == t189) = true := beq_iff_eq.mpr c26
                        have c26b1 : ((Int.tmod (wrap64 (t195 * t195)) t190) != t189) = false := bne_eq_false_iff_eq.mpr c26
                        clear c26
                        by_cases c27 : t204 = true
                        · subst c27
                          have H1 : (laws_FnRoots.j1 kj10 l1 t189 t190 t191 t199 t200 ((Int.tmod (wrap64 (t203 + 1)) t190) != (Int.tmod (wrap64 (t191 + 1)) t190))) = some r := by rw [if_pos rfl] at H; exact H
                          clear H
                          have H := H1
                          clear H1
                          as_aux_lemma =>
                            have H' := Aside0.mk H
                            clear H
                            go_wp2
                            repeat (go_quiet (fail); try go_wp2)
                            go_meet
                            case rel => exact ⟨_, (((Int.tmod (wrap64 (t203 + 1)) t190) != (Int.tmod (wrap64 (t191 + 1)) t190))), (by first | rfl | (simp; done) | (simp [*]; done)), H', ⟨by have := HJ10.out; first | omega | exact Nat.le_refl _⟩, ⟨by repeat (first | (with_reducible first | exact HB.out | apply below_alloc | apply pw_below_drewN | apply below_drew1) | exact HB.out)⟩⟩
                        · replace c27 := Bool.eq_false_iff.mpr c27
                          subst c27
                          have H1 : (laws_FnRoots.j1 kj10 l1 t189 t190 t191 t199 t200 true) = some r := by rw [if_neg (show ¬ (false = true) by decide)] at H; exact H
                          clear H
                          have H := H1
                          clear H1
                          as_aux_lemma =>
                            have H' := Aside0.mk H
                            clear H
                            go_wp2
                            repeat (go_quiet (fail); try go_wp2)
                            go_meet
                            case rel => exact ⟨_, (true), (by first | rfl | (simp; done) | (simp [*]; done)), H', ⟨by have := HJ10.out; first | omega | exact Nat.le_refl _⟩, ⟨by repeat (first | (with_reducible first | exact HB.out | apply below_alloc | apply pw_below_drewN | apply below_drew1) | exact HB.out)⟩⟩
                      · rw [if_neg c26] at H
                        have c26b0 : ((Int.tmod (wrap64 (t195 * t195)) t190) == t189) = false := beq_eq_false_iff_ne.mpr c26
                        have c26b1 : ((Int.tmod (wrap64 (t195 * t195)) t190) != t189) = true := bne_iff_ne.mpr c26
                        as_aux_lemma =>
                          have H' := Aside0.mk H
                          clear H
                          go_wp2
                          repeat (go_quiet (fail); try go_wp2)
                          go_meet
                          case rel => exact ⟨_, (true), (by first | rfl | (simp; done) | (simp [*]; done)), H', ⟨by have := HJ10.out; first | omega | exact Nat.le_refl _⟩, ⟨by repeat (first | (with_reducible first | exact HB.out | apply below_alloc | apply pw_below_drewN | apply below_drew1) | exact HB.out)⟩⟩
                  · replace c24 := Bool.eq_false_iff.mpr c24
                    subst c24
                    have H1 : (if t204 = true then (if t190 = 0 then (none) else (laws_FnRoots.j1 kj10 l1 t189 t190 t191 t199 t200 ((Int.tmod (wrap64 (t203 + 1)) t190) != (Int.tmod (wrap64 (t191 + 1)) t190)))) else (laws_FnRoots.j1 kj10 l1 t189 t190 t191 t199 t200 true)) = some r := by rw [if_neg (show ¬ (false = true) by decide)] at H; exact H
                    clear H
                    have H := H1
                    clear H1
                    by_cases c28 : t204 = true
                    · subst c28
                      have H1 : (if t190 = 0 then (none) else (laws_FnRoots.j1 kj10 l1 t189 t190 t191 t199 t200 ((Int.tmod (wrap64 (t203 + 1)) t190) != (Int.tmod (wrap64 (t191 + 1)) t190)))) = some r := by rw [if_pos rfl] at H; exact H
                      clear H
                      have H := H1
                      clear H1
                      by_cases c29 : t190 = 0
                      · rw [if_pos c29] at H
                        exact absurd H (by simp)
                      · rw [if_neg c29] at H
                        have c29b0 : (t190 == 0) = false := beq_eq_false_iff_ne.mpr c29
                        have c29b1 : (t190 != 0) = true := bne_iff_ne.mpr c29
                        as_aux_lemma =>
                          have H' := Aside0.mk H
                          clear H
                          go_wp2
                          repeat (go_quiet (fail); try go_wp2)
                          go_meet
                          case rel => exact ⟨_, (((Int.tmod (wrap64 (t203 + 1)) t190) != (Int.tmod (wrap64 (t191 + 1)) t190))), (by first | rfl | (simp; done) | (simp [*]; done)), H', ⟨by have := HJ10.out; first | omega | exact Nat.le_refl _⟩, ⟨by repeat (first | (with_reducible first | exact HB.out | apply below_alloc | apply pw_below_drewN | apply below_drew1) | exact HB.out)⟩⟩
                    · replace c28 := Bool.eq_false_iff.mpr c28
                      subst c28
                      have H1 : (laws_FnRoots.j1 kj10 l1 t189 t190 t191 t199 t200 true) = some r := by rw [if_neg (show ¬ (false = true) by decide)] at H; exact H
                      clear H
                      have H := H1
                      clear H1
                      as_aux_lemma =>
                        have H' := Aside0.mk H
                        clear H
                        go_wp2
                        repeat (go_quiet (fail); try go_wp2)
                        go_meet
                        case rel => exact ⟨_, (true), (by first | rfl | (simp; done) | (simp [*]; done)), H', ⟨by have := HJ10.out; first | omega | exact Nat.le_refl _⟩, ⟨by repeat (first | (with_reducible first | exact HB.out | apply below_alloc | apply pw_below_drewN | apply below_drew1) | exact HB.out)⟩⟩
              case rest =>
                clear HC22
                try clear c1
                try clear c2
                try clear p2
                try clear c3
                try clear c3b0
                try clear c4
                try clear p6
                try clear c13
                try clear c13b0
                try clear c13b1
                try clear c13b2
                try clear c14
                try clear c14b0
                try clear c14b1
                try clear c15
                try clear c15b0
                try clear c15b1
                try clear c15b2
                try clear c16
                try clear c16b0
                try clear c16b1
                try clear c17
                try clear c17b0
                try clear c17b1
                try clear c17b2
                try clear c18
                try clear c20
                try clear c23
                try clear c23b0
                try clear c23b1
                try clear c23b2
                try clear c24
                try clear c25
                try clear c25b0
                try clear c25b1
                try clear c26
                try clear c26b0
                try clear c26b1
                try clear c27
                try clear c28
                try clear c29
                try clear c29b0
                try clear c29b1
                try clear p2
                try clear p6
                obtain ⟨kq, x150_21, rfl, HA, HJ21, HB⟩ := hcut
                cases kq with
                | zero => exact absurd HA.out (by simp [laws_FnRoots.j1])
                | succ kj21 =>
                  have H := HA.out
                  clear HA
                  simp only [laws_FnRoots.j1] at H
                  by_cases c30 : x150_21 = true
                  · subst c30
                    have H1 : (some false) = some r := by rw [if_pos rfl] at H; exact H
                    clear H
                    have H := H1
                    clear H1
                    as_aux_lemma =>
                      obtain rfl := Option.some.inj H
                      go_wp2
                      repeat (go_quiet (fail); try go_wp2)
                      go_ret
                      exact ⟨by first | rfl | (simp [errW_none, errW_some] <;> rfl) | (simp [*, errW_none, errW_some] <;> rfl), by repeat (first | (with_reducible first | exact HB.out | apply below_alloc | apply pw_below_drewN | apply below_drew1) | exact HB.out)⟩
                  · replace c30 := Bool.eq_false_iff.mpr c30
                    subst c30
                    have H1 : ((laws_numberOf.f kj21 l1).bind fun t205 => (if t190 = 0 then (none) else ((impl_SquareKind.f kj21 (Int.tmod t205 t190) t190).bind fun bt206 => ((impl_SquareKind.f kj21 (Int.tmod (wrap64 (t189 * (Int.tmod t205 t190))) t190) t190).bind fun bt208 => (if bt206.2 = true then (if bt208.2 = true then (if bt208.1 = (wrap64 (t191 * bt206.1)) then (laws_FnRoots.j2 kj21 l1 t189 t190 t199 t200) else (some false)) else (some false)) else (some false)))))) = some r := by rw [if_neg (show ¬ (false = true) by decide)] at H; exact H
                    clear H
                    have H := H1
                    clear H1
                    replace H := Option.bind_eq_some_iff.mp H
                    obtain ⟨t205, A310, H⟩ := H
                    replace H : (if t190 = 0 then (none) else ((impl_SquareKind.f kj21 (Int.tmod t205 t190) t190).bind fun bt206 => ((impl_SquareKind.f kj21 (Int.tmod (wrap64 (t189 * (Int.tmod t205 t190))) t190) t190).bind fun bt208 => (if bt206.2 = true then (if bt208.2 = true then (if bt208.1 = (wrap64 (t191 * bt206.1)) then (laws_FnRoots.j2 kj21 l1 t189 t190 t199 t200) else (some false)) else (some false)) else (some false))))) = some r := H
                    have A31 := Aside0.mk A310
                    clear A310
                    by_cases c32 : t190 = 0
                    · rw [if_pos c32] at H
                      exact absurd H (by simp)
                    · rw [if_neg c32] at H
                      have c32b0 : (t190 == 0) = false := beq_eq_false_iff_ne.mpr c32
                      have c32b1 : (t190 != 0) = true := bne_iff_ne.mpr c32
                      replace H := Option.bind_eq_some_iff.mp H
                      obtain ⟨⟨t206, t207⟩, A330, H⟩ := H
                      replace H : ((impl_SquareKind.f kj21 (Int.tmod (wrap64 (t189 * (Int.tmod t205 t190))) t190) t190).bind fun bt208 => (if t207 = true then (if bt208.2 = true then (if bt208.1 = (wrap64 (t191 * t206)) then (laws_FnRoots.j2 kj21 l1 t189 t190 t199 t200) else (some false)) else (some false)) else (some false))) = some r := H
                      have A33 := Aside0.mk A330
                      clear A330
                      replace H := Option.bind_eq_some_iff.mp H
                      obtain ⟨⟨t208, t209⟩, A340, H⟩ := H
                      replace H : (if t207 = true then (if t209 = true then (if t208 = (wrap64 (t191 * t206)) then (laws_FnRoots.j2 kj21 l1 t189 t190 t199 t200) else (some false)) else (some false)) else (some false)) = some r := H
                      have A34 := Aside0.mk A340
                      clear A340
                      by_cases c35 : t207 = true
                      · subst c35
                        have H1 : (if t209 = true then (if t208 = (wrap64 (t191 * t206)) then (laws_FnRoots.j2 kj21 l1 t189 t190 t199 t200) else (some false)) else (some false)) = some r := by rw [if_pos rfl] at H; exact H
                        clear H
                        have H := H1
                        clear H1
                        by_cases c36 : t209 = true
                        · subst c36
                          have H1 : (if t208 = (wrap64 (t191 * t206)) then (laws_FnRoots.j2 kj21 l1 t189 t190 t199 t200) else (some false)) = some r := by rw [if_pos rfl] at H; exact H
                          clear H
                          have H := H1
                          clear H1
                          by_cases c37 : t208 = (wrap64 (t191 * t206))
                          · rw [if_pos c37] at H
                            have c37b0 : (t208 == (wrap64 (t191 * t206))) = true := beq_iff_eq.mpr c37
                            have c37b1 : (t208 != (wrap64 (t191 * t206))) = false := bne_eq_false_iff_eq.mpr c37
                            clear c37
                            as_aux_lemma =>
                              have H' := Aside0.mk H
                              clear H
                              go_wp2_with (first | (go_at_call 10; (with_reducible refine (laws_numberOf.calls kj21 _ _ l1 t205 _ ?side1 ?side2 A31.out).mono ?_); (case side1 => repeat (first | exact (Kd.C_below HR1.out HB.out) | (with_reducible refine Kd.C_alloc ?_ _) | (with_reducible refine Kd.C_drewN ?_ _) | (with_reducible refine Kd.C_drew ?_))); (case side2 => exact HC1.out); rintro e w' ⟨rfl, ⟨nd, rfl⟩⟩; (try first | exact ⟨rfl, _, World.drewN_drewN _ _ _⟩ | exact ⟨rfl, _, Eq.trans (World.drewN_drewN _ _ _) (congrArg (World.drewN _) (Nat.add_assoc _ _ _))⟩)) | (go_at_call 21; (with_reducible refine (impl_SquareKind.calls kj21 (Int.tmod t205 t190) t190 t206 true _ A33.out).mono ?_); rintro e w' ⟨rfl, ⟨nd, rfl⟩⟩; (try first | exact ⟨rfl, _, World.drewN_drewN _ _ _⟩ | exact ⟨rfl, _, Eq.trans (World.drewN_drewN _ _ _) (congrArg (World.drewN _) (Nat.add_assoc _ _ _))⟩)) | (go_at_call 21; (with_reducible refine (impl_SquareKind.calls kj21 (Int.tmod (wrap64 (t189 * (Int.tmod t205 t190))) t190) t190 t208 true _ A34.out).mono ?_); rintro e w' ⟨rfl, ⟨nd, rfl⟩⟩; (try first | exact ⟨rfl, _, World.drewN_drewN _ _ _⟩ | exact ⟨rfl, _, Eq.trans (World.drewN_drewN _ _ _) (congrArg (World.drewN _) (Nat.add_assoc _ _ _))⟩)))
                              repeat (go_quiet (first | (go_at_call 10; (with_reducible refine (laws_numberOf.calls kj21 _ _ l1 t205 _ ?side1 ?side2 A31.out).mono ?_); (case side1 => repeat (first | exact (Kd.C_below HR1.out HB.out) | (with_reducible refine Kd.C_alloc ?_ _) | (with_reducible refine Kd.C_drewN ?_ _) | (with_reducible refine Kd.C_drew ?_))); (case side2 => exact HC1.out); rintro e w' ⟨rfl, ⟨nd, rfl⟩⟩; (try first | exact ⟨rfl, _, World.drewN_drewN _ _ _⟩ | exact ⟨rfl, _, Eq.trans (World.drewN_drewN _ _ _) (congrArg (World.drewN _) (Nat.add_assoc _ _ _))⟩)) | (go_at_call 21; (with_reducible refine (impl_SquareKind.calls kj21 (Int.tmod t205 t190) t190 t206 true _ A33.out).mono ?_); rintro e w' ⟨rfl, ⟨nd, rfl⟩⟩; (try first | exact ⟨rfl, _, World.drewN_drewN _ _ _⟩ | exact ⟨rfl, _, Eq.trans (World.drewN_drewN _ _ _) (congrArg (World.drewN _) (Nat.add_assoc _ _ _))⟩)) | (go_at_call 21; (with_reducible refine (impl_SquareKind.calls kj21 (Int.tmod (wrap64 (t189 * (Int.tmod t205 t190))) t190) t190 t208 true _ A34.out).mono ?_); rintro e w' ⟨rfl, ⟨nd, rfl⟩⟩; (try first | exact ⟨rfl, _, World.drewN_drewN _ _ _⟩ | exact ⟨rfl, _, Eq.trans (World.drewN_drewN _ _ _) (congrArg (World.drewN _) (Nat.add_assoc _ _ _))⟩))); try go_wp2_with (first | (go_at_call 10; (with_reducible refine (laws_numberOf.calls kj21 _ _ l1 t205 _ ?side1 ?side2 A31.out).mono ?_); (case side1 => repeat (first | exact (Kd.C_below HR1.out HB.out) | (with_reducible refine Kd.C_alloc ?_ _) | (with_reducible refine Kd.C_drewN ?_ _) | (with_reducible refine Kd.C_drew ?_))); (case side2 => exact HC1.out); rintro e w' ⟨rfl, ⟨nd, rfl⟩⟩; (try first | exact ⟨rfl, _, World.drewN_drewN _ _ _⟩ | exact ⟨rfl, _, Eq.trans (World.drewN_drewN _ _ _) (congrArg (World.drewN _) (Nat.add_assoc _ _ _))⟩)) | (go_at_call 21; (with_reducible refine (impl_SquareKind.calls kj21 (Int.tmod t205 t190) t190 t206 true _ A33.out).mono ?_); rintro e w' ⟨rfl, ⟨nd, rfl⟩⟩; (try first | exact ⟨rfl, _, World.drewN_drewN _ _ _⟩ | exact ⟨rfl, _, Eq.trans (World.drewN_drewN _ _ _) (congrArg (World.drewN _) (Nat.add_assoc _ _ _))⟩)) | (go_at_call 21; (with_reducible refine (impl_SquareKind.calls kj21 (Int.tmod (wrap64 (t189 * (Int.tmod t205 t190))) t190) t190 t208 true _ A34.out).mono ?_); rintro e w' ⟨rfl, ⟨nd, rfl⟩⟩; (try first | exact ⟨rfl, _, World.drewN_drewN _ _ _⟩ | exact ⟨rfl, _, Eq.trans (World.drewN_drewN _ _ _) (congrArg (World.drewN _) (Nat.add_assoc _ _ _))⟩))))
                              go_meet
                              case rel => exact ⟨_, H', ⟨by have := HJ10.out; have := HJ21.out; first | omega | exact Nat.le_refl _⟩, ⟨by repeat (first | (with_reducible first | exact HB.out | apply below_alloc | apply pw_below_drewN | apply below_drew1) | exact HB.out)⟩⟩
                          · rw [if_neg c37] at H
                            have c37b0 : (t208 == (wrap64 (t191 * t206))) = false := beq_eq_false_iff_ne.mpr c37
                            have c37b1 : (t208 != (wrap64 (t191 * t206))) = true := bne_iff_ne.mpr c37
                            as_aux_lemma =>
                              obtain rfl := Option.some.inj H
                              go_wp2_with (first | (go_at_call 10; (with_reducible refine (laws_numberOf.calls kj21 _ _ l1 t205 _ ?side1 ?side2 A31.out).mono ?_); (case side1 => repeat (first | exact (Kd.C_below HR1.out HB.out) | (with_reducible refine Kd.C_alloc ?_ _) | (with_reducible refine Kd.C_drewN ?_ _) | (with_reducible refine Kd.C_drew ?_))); (case side2 => exact HC1.out); rintro e w' ⟨rfl, ⟨nd, rfl⟩⟩; (try first | exact ⟨rfl, _, World.drewN_drewN _ _ _⟩ | exact ⟨rfl, _, Eq.trans (World.drewN_drewN _ _ _) (congrArg (World.drewN _) (Nat.add_assoc _ _ _))⟩)) | (go_at_call 21; (with_reducible refine (impl_SquareKind.calls kj21 (Int.tmod t205 t190) t190 t206 true _ A33.out).mono ?_); rintro e w' ⟨rfl, ⟨nd, rfl⟩⟩; (try first | exact ⟨rfl, _, World.drewN_drewN _ _ _⟩ | exact ⟨rfl, _, Eq.trans (World.drewN_drewN _ _ _) (congrArg (World.drewN _) (Nat.add_assoc _ _ _))⟩)) | (go_at_call 21; (with_reducible refine (impl_SquareKind.calls kj21 (Int.tmod (wrap64 (t189 * (Int.tmod t205 t190))) t190) t190 t208 true _ A34.out).mono ?_); rintro e w' ⟨rfl, ⟨nd, rfl⟩⟩; (try first | exact ⟨rfl, _, World.drewN_drewN _ _ _⟩ | exact ⟨rfl, _, Eq.trans (World.drewN_drewN _ _ _) (congrArg (World.drewN _) (Nat.add_assoc _ _ _))⟩)))
                              repeat (go_quiet (first | (go_at_call 10; (with_reducible refine (laws_numberOf.calls kj21 _ _ l1 t205 _ ?side1 ?side2 A31.out).mono ?_); (case side1 => repeat (first | exact (Kd.C_below HR1.out HB.out) | (with_reducible refine Kd.C_alloc ?_ _) | (with_reducible refine Kd.C_drewN ?_ _) | (with_reducible refine Kd.C_drew ?_))); (case side2 => exact HC1.out); rintro e w' ⟨rfl, ⟨nd, rfl⟩⟩; (try first | exact ⟨rfl, _, World.drewN_drewN _ _ _⟩ | exact ⟨rfl, _, Eq.trans (World.drewN_drewN _ _ _) (congrArg (World.drewN _) (Nat.add_assoc _ _ _))⟩)) | (go_at_call 21; (with_reducible refine (impl_SquareKind.calls kj21 (Int.tmod t205 t190) t190 t206 true _ A33.out).mono ?_); rintro e w' ⟨rfl, ⟨nd, rfl⟩⟩; (try first | exact ⟨rfl, _, World.drewN_drewN _ _ _⟩ | exact ⟨rfl, _, Eq.trans (World.drewN_drewN _ _ _) (congrArg (World.drewN _) (Nat.add_assoc _ _ _))⟩)) | (go_at_call 21; (with_reducible refine (impl_SquareKind.calls kj21 (Int.tmod (wrap64 (t189 * (Int.tmod t205 t190))) t190) t190 t208 true _ A34.out).mono ?_); rintro e w' ⟨rfl, ⟨nd, rfl⟩⟩; (try first | exact ⟨rfl, _, World.drewN_drewN _ _ _⟩ | exact ⟨rfl, _, Eq.trans (World.drewN_drewN _ _ _) (congrArg (World.drewN _) (Nat.add_assoc _ _ _))⟩))); try go_wp2_with (first | (go_at_call 10; (with_reducible refine (laws_numberOf.calls kj21 _ _ l1 t205 _ ?side1 ?side2 A31.out).mono ?_); (case side1 => repeat (first | exact (Kd.C_below HR1.out HB.out) | (with_reducible refine Kd.C_alloc ?_ _) | (with_reducible refine Kd.C_drewN ?_ _) | (with_reducible refine Kd.C_drew ?_))); (case side2 => exact HC1.out); rintro e w' ⟨rfl, ⟨nd, rfl⟩⟩; (try first | exact ⟨rfl, _, World.drewN_drewN _ _ _⟩ | exact ⟨rfl, _, Eq.trans (World.drewN_drewN _ _ _) (congrArg (World.drewN _) (Nat.add_assoc _ _ _))⟩)) | (go_at_call 21; (with_reducible refine (impl_SquareKind.calls kj21 (Int.tmod t205 t190) t190 t206 true _ A33.out).mono ?_); rintro e w' ⟨rfl, ⟨nd, rfl⟩⟩; (try first | exact ⟨rfl, _, World.drewN_drewN _ _ _⟩ | exact ⟨rfl, _, Eq.trans (World.drewN_drewN _ _ _) (congrArg (World.drewN _) (Nat.add_assoc _ _ _))⟩)) | (go_at_call 21; (with_reducible refine (impl_SquareKind.calls kj21 (Int.tmod (wrap64 (t189 * (Int.tmod t205 t190))) t190) t190 t208 true _ A34.out).mono ?_); rintro e w' ⟨rfl, ⟨nd, rfl⟩⟩; (try first | exact ⟨rfl, _, World.drewN_drewN _ _ _⟩ | exact ⟨rfl, _, Eq.trans (World.drewN_drewN _ _ _) (congrArg (World.drewN _) (Nat.add_assoc _ _ _))⟩))))
                              go_ret
                              exact ⟨by first | rfl | (simp [errW_none, errW_some] <;> rfl) | (simp [*, errW_none, errW_some] <;> rfl), by repeat (first | (with_reducible first | exact HB.out | apply below_alloc | apply pw_below_drewN | apply below_drew1) | exact HB.out)⟩
                        · replace c36 := Bool.eq_false_iff.mpr c36
                          subst c36
                          have H1 : (some false) = some r := by rw [if_neg (show ¬ (false = true) by decide)] at H; exact H
                          clear H
                          have H := H1
                          clear H1
                          as_aux_lemma =>
                            obtain rfl := Option.some.inj H
                            go_wp2_with (first | (go_at_call 10; (with_reducible refine (laws_numberOf.calls kj21 _ _ l1 t205 _ ?side1 ?side2 A31.out).mono ?_); (case side1 => repeat (first | exact (Kd.C_below HR1.out HB.out) | (with_reducible refine Kd.C_alloc ?_ _) | (with_reducible refine Kd.C_drewN ?_ _) | (with_reducible refine Kd.C_drew ?_))); (case side2 => exact HC1.out); rintro e w' ⟨rfl, ⟨nd, rfl⟩⟩; (try first | exact ⟨rfl, _, World.drewN_drewN _ _ _⟩ | exact ⟨rfl, _, Eq.trans (World.drewN_drewN _ _ _) (congrArg (World.drewN _) (Nat.add_assoc _ _ _))⟩)) | (go_at_call 21; (with_reducible refine (impl_SquareKind.calls kj21 (Int.tmod t205 t190) t190 t206 true _ A33.out).mono ?_); rintro e w' ⟨rfl, ⟨nd, rfl⟩⟩; (try first | exact ⟨rfl, _, World.drewN_drewN _ _ _⟩ | exact ⟨rfl, _, Eq.trans (World.drewN_drewN _ _ _) (congrArg (World.drewN _) (Nat.add_assoc _ _ _))⟩)) | (go_at_call 21; (with_reducible refine (impl_SquareKind.calls kj21 (Int.tmod (wrap64 (t189 * (Int.tmod t205 t190))) t190) t190 t208 false _ A34.out).mono ?_); rintro e w' ⟨rfl, ⟨nd, rfl⟩⟩; (try first | exact ⟨rfl, _, World.drewN_drewN _ _ _⟩ | exact ⟨rfl, _, Eq.trans (World.drewN_drewN _ _ _) (congrArg (World.drewN _) (Nat.add_assoc _ _ _))⟩)))
                            repeat (go_quiet (first | (go_at_call 10; (with_reducible refine (laws_numberOf.calls kj21 _ _ l1 t205 _ ?side1 ?side2 A31.out).mono ?_); (case side1 => repeat (first | exact (Kd.C_below HR1.out HB.out) | (with_reducible refine Kd.C_alloc ?_ _) | (with_reducible refine Kd.C_drewN ?_ _) | (with_reducible refine Kd.C_drew ?_))); (case side2 => exact HC1.out); rintro e w' ⟨rfl, ⟨nd, rfl⟩⟩; (try first | exact ⟨rfl, _, World.drewN_drewN _ _ _⟩ | exact ⟨rfl, _, Eq.trans (World.drewN_drewN _ _ _) (congrArg (World.drewN _) (Nat.add_assoc _ _ _))⟩)) | (go_at_call 21; (with_reducible refine (impl_SquareKind.calls kj21 (Int.tmod t205 t190) t190 t206 true _ A33.out).mono ?_); rintro e w' ⟨rfl, ⟨nd, rfl⟩⟩; (try first | exact ⟨rfl, _, World.drewN_drewN _ _ _⟩ | exact ⟨rfl, _, Eq.trans (World.drewN_drewN _ _ _) (congrArg (World.drewN _) (Nat.add_assoc _ _ _))⟩)) | (go_at_call 21; (with_reducible refine (impl_SquareKind.calls kj21 (Int.tmod (wrap64 (t189 * (Int.tmod t205 t190))) t190) t190 t208 false _ A34.out).mono ?_); rintro e w' ⟨rfl, ⟨nd, rfl⟩⟩; (try first | exact ⟨rfl, _, World.drewN_drewN _ _ _⟩ | exact ⟨rfl, _, Eq.trans (World.drewN_drewN _ _ _) (congrArg (World.drewN _) (Nat.add_assoc _ _ _))⟩))); try go_wp2_with (first | (go_at_call 10; (with_reducible refine (laws_numberOf.calls kj21 _ _ l1 t205 _ ?side1 ?side2 A31.out).mono ?_); (case side1 => repeat (first | exact (Kd.C_below HR1.out HB.out) | (with_reducible refine Kd.C_alloc ?_ _) | (with_reducible refine Kd.C_drewN ?_ _) | (with_reducible refine Kd.C_drew ?_))); (case side2 => exact HC1.out); rintro e w' ⟨rfl, ⟨nd, rfl⟩⟩; (try first | exact ⟨rfl, _, World.drewN_drewN _ _ _⟩ | exact ⟨rfl, _, Eq.trans (World.drewN_drewN _ _ _) (congrArg (World.drewN _) (Nat.add_assoc _ _ _))⟩)) | (go_at_call 21; (with_reducible refine (impl_SquareKind.calls kj21 (Int.tmod t205 t190) t190 t206 true _ A33.out).mono ?_); rintro e w' ⟨rfl, ⟨nd, rfl⟩⟩; (try first | exact ⟨rfl, _, World.drewN_drewN _ _ _⟩ | exact ⟨rfl, _, Eq.trans (World.drewN_drewN _ _ _) (congrArg (World.drewN _) (Nat.add_assoc _ _ _))⟩)) | (go_at_call 21; (with_reducible refine (impl_SquareKind.calls kj21 (Int.tmod (wrap64 (t189 * (Int.tmod t205 t190))) t190) t190 t208 false _ A34.out).mono ?_); rintro e w' ⟨rfl, ⟨nd, rfl⟩⟩; (try first | exact ⟨rfl, _, World.drewN_drewN _ _ _⟩ | exact ⟨rfl, _, Eq.trans (World.drewN_drewN _ _ _) (congrArg (World.drewN _) (Nat.add_assoc _ _ _))⟩))))
                            go_ret
                            exact ⟨by first | rfl | (simp [errW_none, errW_some] <;> rfl) | (simp [*, errW_none, errW_some] <;> rfl), by repeat (first | (with_reducible first | exact HB.out | apply below_alloc | apply pw_below_drewN | apply below_drew1) | exact HB.out)⟩
                      · replace c35 := Bool.eq_false_iff.mpr c35
                        subst c35
                        have H1 : (some false) = some r := by rw [if_neg (show ¬ (false = true) by decide)] at H; exact H
                        clear H
                        have H := H1
                        clear H1
                        as_aux_lemma =>
                          obtain rfl := Option.some.inj H
                          go_wp2_with (first | (go_at_call 10; (with_reducible refine (laws_numberOf.calls kj21 _ _ l1 t205 _ ?side1 ?side2 A31.out).mono ?_); (case side1 => repeat (first | exact (Kd.C_below HR1.out HB.out) | (with_reducible refine Kd.C_alloc ?_ _) | (with_reducible refine Kd.C_drewN ?_ _) | (with_reducible refine Kd.C_drew ?_))); (case side2 => exact HC1.out); rintro e w' ⟨rfl, ⟨nd, rfl⟩⟩; (try first | exact ⟨rfl, _, World.drewN_drewN _ _ _⟩ | exact ⟨rfl, _, Eq.trans (World.drewN_drewN _ _ _) (congrArg (World.drewN _) (Nat.add_assoc _ _ _))⟩)) | (go_at_call 21; (with_reducible refine (impl_SquareKind.calls kj21 (Int.tmod t205 t190) t190 t206 false _ A33.out).mono ?_); rintro e w' ⟨rfl, ⟨nd, rfl⟩⟩; (try first | exact ⟨rfl, _, World.drewN_drewN _ _ _⟩ | exact ⟨rfl, _, Eq.trans (World.drewN_drewN _ _ _) (congrArg (World.drewN _) (Nat.add_assoc _ _ _))⟩)) | (go_at_call 21; (with_reducible refine (impl_SquareKind.calls kj21 (Int.tmod (wrap64 (t189 * (Int.tmod t205 t190))) t190) t190 t208 t209 _ A34.out).mono ?_); rintro e w' ⟨rfl, ⟨nd, rfl⟩⟩; (try first | exact ⟨rfl, _, World.drewN_drewN _ _ _⟩ | exact ⟨rfl, _, Eq.trans (World.drewN_drewN _ _ _) (congrArg (World.drewN _) (Nat.add_assoc _ _ _))⟩)))
                          repeat (go_quiet (first | (go_at_call 10; (with_reducible refine (laws_numberOf.calls kj21 _ _ l1 t205 _ ?side1 ?side2 A31.out).mono ?_); (case side1 => repeat (first | exact (Kd.C_below HR1.out HB.out) | (with_reducible refine Kd.C_alloc ?_ _) | (with_reducible refine Kd.C_drewN ?_ _) | (with_reducible refine Kd.C_drew ?_))); (case side2 => exact HC1.out); rintro e w' ⟨rfl, ⟨nd, rfl⟩⟩; (try first | exact ⟨rfl, _, World.drewN_drewN _ _ _⟩ | exact ⟨rfl, _, Eq.trans (World.drewN_drewN _ _ _) (congrArg (World.drewN _) (Nat.add_assoc _ _ _))⟩)) | (go_at_call 21; (with_reducible refine (impl_SquareKind.calls kj21 (Int.tmod t205 t190) t190 t206 false _ A33.out).mono ?_); rintro e w' ⟨rfl, ⟨nd, rfl⟩⟩; (try first | exact ⟨rfl, _, World.drewN_drewN _ _ _⟩ | exact ⟨rfl, _, Eq.trans (World.drewN_drewN _ _ _) (congrArg (World.drewN _) (Nat.add_assoc _ _ _))⟩)) | (go_at_call 21; (with_reducible refine (impl_SquareKind.calls kj21 (Int.tmod (wrap64 (t189 * (Int.tmod t205 t190))) t190) t190 t208 t209 _ A34.out).mono ?_); rintro e w' ⟨rfl, ⟨nd, rfl⟩⟩; (try first | exact ⟨rfl, _, World.drewN_drewN _ _ _⟩ | exact ⟨rfl, _, Eq.trans (World.drewN_drewN _ _ _) (congrArg (World.drewN _) (Nat.add_assoc _ _ _))⟩))); try go_wp2_with (first | (go_at_call 10; (with_reducible refine (laws_numberOf.calls kj21 _ _ l1 t205 _ ?side1 ?side2 A31.out).mono ?_); (case side1 => repeat (first | exact (Kd.C_below HR1.out HB.out) | (with_reducible refine Kd.C_alloc ?_ _) | (with_reducible refine Kd.C_drewN ?_ _) | (with_reducible refine Kd.C_drew ?_))); (case side2 => exact HC1.out); rintro e w' ⟨rfl, ⟨nd, rfl⟩⟩; (try first | exact ⟨rfl, _, World.drewN_drewN _ _ _⟩ | exact ⟨rfl, _, Eq.trans (World.drewN_drewN _ _ _) (congrArg (World.drewN _) (Nat.add_assoc _ _ _))⟩)) | (go_at_call 21; (with_reducible refine (impl_SquareKind.calls kj21 (Int.tmod t205 t190) t190 t206 false _ A33.out).mono ?_); rintro e w' ⟨rfl, ⟨nd, rfl⟩⟩; (try first | exact ⟨rfl, _, World.drewN_drewN _ _ _⟩ | exact ⟨rfl, _, Eq.trans (World.drewN_drewN _ _ _) (congrArg (World.drewN _) (Nat.add_assoc _ _ _))⟩)) | (go_at_call 21; (with_reducible refine (impl_SquareKind.calls kj21 (Int.tmod (wrap64 (t189 * (Int.tmod t205 t190))) t190) t190 t208 t209 _ A34.out).mono ?_); rintro e w' ⟨rfl, ⟨nd, rfl⟩⟩; (try first | exact ⟨rfl, _, World.drewN_drewN _ _ _⟩ | exact ⟨rfl, _, Eq.trans (World.drewN_drewN _ _ _) (congrArg (World.drewN _) (Nat.add_assoc _ _ _))⟩))))
                          go_ret
                          exact ⟨by first | rfl | (simp [errW_none, errW_some] <;> rfl) | (simp [*, errW_none, errW_some] <;> rfl), by repeat (first | (with_reducible first | exact HB.out | apply below_alloc | apply pw_below_drewN | apply below_drew1) | exact HB.out)⟩
            · replace c20 := Bool.eq_false_iff.mpr c20
              subst c20
              have H1 : (laws_FnRoots.j2 kj10 l1 t189 t190 t199 t200) = some r := by rw [if_neg (show ¬ (false = true) by decide)] at H; exact H
              clear H
              have H := H1
              clear H1
              as_aux_lemma =>
                have H' := Aside0.mk H
                clear H
                go_wp2
                repeat (go_quiet (fail); try go_wp2)
                go_meet
                case rel => exact ⟨_, H', ⟨by have := HJ10.out; first | omega | exact Nat.le_refl _⟩, ⟨by repeat (first | (with_reducible first | exact HB.out | apply below_alloc | apply pw_below_drewN | apply below_drew1) | exact HB.out)⟩⟩
          case rest =>
            clear HC19
            try clear c1
            try clear c2
            try clear p2
            try clear c3
            try clear c3b0
            try clear c4
            try clear p6
            try clear c13
            try clear c13b0
            try clear c13b1
            try clear c13b2
            try clear c14
            try clear c14b0
            try clear c14b1
            try clear c15
            try clear c15b0
            try clear c15b1
            try clear c15b2
            try clear c16
            try clear c16b0
            try clear c16b1
            try clear c17
            try clear c17b0
            try clear c17b1
            try clear c17b2
            try clear c18
            try clear c20
            try clear c23
            try clear c23b0
            try clear c23b1
            try clear c23b2
            try clear c24
            try clear c25
            try clear c25b0
            try clear c25b1
            try clear c26
            try clear c26b0
            try clear c26b1
            try clear c27
            try clear c28
            try clear c29
            try clear c29b0
            try clear c29b1
            try clear c30
            try clear c32
            try clear c32b0
            try clear c32b1
            try clear c35
            try clear c36
            try clear c37
            try clear c37b0
            try clear c37b1
            try clear p2
            try clear p6
            obtain ⟨kq, HA, HJ18, HB⟩ := hcut
            cases kq with
            | zero => exact absurd HA.out (by simp [laws_FnRoots.j2])
            | succ kj18 =>
              have H := HA.out
              clear HA
              simp only [laws_FnRoots.j2] at H
              have HC38 := Aside0.mk H
              clear H
              go_upto_if 184 with (fail)
              repeat (go_quiet (fail); go_upto_if 184 with (fail))
              go_cut [] (fun wc => ∃ (kq : Nat), Aside0 (laws_FnRoots.j3 kq l1 = some r) ∧ Aside0 (kq ≤ kj18) ∧ Aside0 (Below w.heap.size w wc))
              case first =>
                have H := HC38.out
                clear HC38
                by_cases c39 : t200 = true
                · subst c39
                  have H1 : ((impl_PowerMod.f kj18 t189 t199 t190).bind fun bt210 => (if bt210.2 = true then (if bt210.1 = 1 then (if t199 = 0 then (none) else (if (Int.tmod (wrap64 (t190 - 1)) t199) = 0 then (laws_FnRoots.j3 kj18 l1) else (some false))) else (some false)) else (some false))) = some r := by rw [if_pos rfl] at H; exact H
                  clear H
                  have H := H1
                  clear H1
                  replace H := Option.bind_eq_some_iff.mp H
                  obtain ⟨⟨t210, t211⟩, A400, H⟩ := H
                  replace H : (if t211 = true then (if t210 = 1 then (if t199 = 0 then (none) else (if (Int.tmod (wrap64 (t190 - 1)) t199) = 0 then (laws_FnRoots.j3 kj18 l1) else (some false))) else (some false)) else (some false)) = some r := H
                  have A40 := Aside0.mk A400
                  clear A400
                  by_cases c41 : t211 = true
                  · subst c41
                    have H1 : (if t210 = 1 then (if t199 = 0 then (none) else (if (Int.tmod (wrap64 (t190 - 1)) t199) = 0 then (laws_FnRoots.j3 kj18 l1) else (some false))) else (some false)) = some r := by rw [if_pos rfl] at H; exact H
                    clear H
                    have H := H1
                    clear H1
                    by_cases c42 : t210 = 1
                    · rw [if_pos c42] at H
                      have c42b0 : (t210 == 1) = true := beq_iff_eq.mpr c42
                      have c42b1 : (t210 != 1) = false := bne_eq_false_iff_eq.mpr c42
                      clear c42
                      (first | rw [c42b0] | (simp only [i64_w, i32_w]; rw [c42b0]) | skip)
                      by_cases c43 : t199 = 0
                      · rw [if_pos c43] at H
                        exact absurd H (by simp)
                      · rw [if_neg c43] at H
                        have c43b0 : (t199 == 0) = false := beq_eq_false_iff_ne.mpr c43
                        have c43b1 : (t199 != 0) = true := bne_iff_ne.mpr c43
                        by_cases c44 : (Int.tmod (wrap64 (t190 - 1)) t199) = 0
                        · rw [if_pos c44] at H
                          have c44b0 : ((Int.tmod (wrap64 (t190 - 1)) t199) == 0) = true := beq_iff_eq.mpr c44
                          have c44b1 : ((Int.tmod (wrap64 (t190 - 1)) t199) != 0) = false := bne_eq_false_iff_eq.mpr c44
                          clear c44
                          as_aux_lemma =>
                            have H' := Aside0.mk H
                            clear H
                            go_wp2_with (first | (go_at_call 8; (with_reducible refine (impl_PowerMod.calls kj18 t189 t199 t190 t210 true _ A40.out).mono ?_); rintro e w' ⟨rfl, ⟨nd, rfl⟩⟩; (try first | exact ⟨rfl, _, World.drewN_drewN _ _ _⟩ | exact ⟨rfl, _, Eq.trans (World.drewN_drewN _ _ _) (congrArg (World.drewN _) (Nat.add_assoc _ _ _))⟩)))
                            repeat (go_quiet (first | (go_at_call 8; (with_reducible refine (impl_PowerMod.calls kj18 t189 t199 t190 t210 true _ A40.out).mono ?_); rintro e w' ⟨rfl, ⟨nd, rfl⟩⟩; (try first | exact ⟨rfl, _, World.drewN_drewN _ _ _⟩ | exact ⟨rfl, _, Eq.trans (World.drewN_drewN _ _ _) (congrArg (World.drewN _) (Nat.add_assoc _ _ _))⟩))); try go_wp2_with (first | (go_at_call 8; (with_reducible refine (impl_PowerMod.calls kj18 t189 t199 t190 t210 true _ A40.out).mono ?_); rintro e w' ⟨rfl, ⟨nd, rfl⟩⟩; (try first | exact ⟨rfl, _, World.drewN_drewN _ _ _⟩ | exact ⟨rfl, _, Eq.trans (World.drewN_drewN _ _ _) (congrArg (World.drewN _) (Nat.add_assoc _ _ _))⟩))))
                            go_meet
                            case rel => exact ⟨_, H', ⟨by have := HJ10.out; have := HJ18.out; first | omega | exact Nat.le_refl _⟩, ⟨by repeat (first | (with_reducible first | exact HB.out | apply below_alloc | apply pw_below_drewN | apply below_drew1) | exact HB.out)⟩⟩
                        · rw [if_neg c44] at H
                          have c44b0 : ((Int.tmod (wrap64 (t190 - 1)) t199) == 0) = false := beq_eq_false_iff_ne.mpr c44
                          have c44b1 : ((Int.tmod (wrap64 (t190 - 1)) t199) != 0) = true := bne_iff_ne.mpr c44
                          as_aux_lemma =>
                            obtain rfl := Option.some.inj H
                            go_wp2_with (first | (go_at_call 8; (with_reducible refine (impl_PowerMod.calls kj18 t189 t199 t190 t210 true _ A40.out).mono ?_); rintro e w' ⟨rfl, ⟨nd, rfl⟩⟩; (try first | exact ⟨rfl, _, World.drewN_drewN _ _ _⟩ | exact ⟨rfl, _, Eq.trans (World.drewN_drewN _ _ _) (congrArg (World.drewN _) (Nat.add_assoc _ _ _))⟩)))
                            repeat (go_quiet (first | (go_at_call 8; (with_reducible refine (impl_PowerMod.calls kj18 t189 t199 t190 t210 true _ A40.out).mono ?_); rintro e w' ⟨rfl, ⟨nd, rfl⟩⟩; (try first | exact ⟨rfl, _, World.drewN_drewN _ _ _⟩ | exact ⟨rfl, _, Eq.trans (World.drewN_drewN _ _ _) (congrArg (World.drewN _) (Nat.add_assoc _ _ _))⟩))); try go_wp2_with (first | (go_at_call 8; (with_reducible refine (impl_PowerMod.calls kj18 t189 t199 t190 t210 true _ A40.out).mono ?_); rintro e w' ⟨rfl, ⟨nd, rfl⟩⟩; (try first | exact ⟨rfl, _, World.drewN_drewN _ _ _⟩ | exact ⟨rfl, _, Eq.trans (World.drewN_drewN _ _ _) (congrArg (World.drewN _) (Nat.add_assoc _ _ _))⟩))))
                            go_ret
                            exact ⟨by first | rfl | (simp [errW_none, errW_some] <;> rfl) | (simp [*, errW_none, errW_some] <;> rfl), by repeat (first | (with_reducible first | exact HB.out | apply below_alloc | apply pw_below_drewN | apply below_drew1) | exact HB.out)⟩
                    · rw [if_neg c42] at H
                      have c42b0 : (t210 == 1) = false := beq_eq_false_iff_ne.mpr c42
                      have c42b1 : (t210 != 1) = true := bne_iff_ne.mpr c42
                      (first | rw [c42b0] | (simp only [i64_w, i32_w]; rw [c42b0]) | skip)
                      as_aux_lemma =>
                        obtain rfl := Option.some.inj H
                        go_wp2_with (first | (go_at_call 8; (with_reducible refine (impl_PowerMod.calls kj18 t189 t199 t190 t210 true _ A40.out).mono ?_); rintro e w' ⟨rfl, ⟨nd, rfl⟩⟩; (try first | exact ⟨rfl, _, World.drewN_drewN _ _ _⟩ | exact ⟨rfl, _, Eq.trans (World.drewN_drewN _ _ _) (congrArg (World.drewN _) (Nat.add_assoc _ _ _))⟩)))
                        repeat (go_quiet (first | (go_at_call 8; (with_reducible refine (impl_PowerMod.calls kj18 t189 t199 t190 t210 true _ A40.out).mono ?_); rintro e w' ⟨rfl, ⟨nd, rfl⟩⟩; (try first | exact ⟨rfl, _, World.drewN_drewN _ _ _⟩ | exact ⟨rfl, _, Eq.trans (World.drewN_drewN _ _ _) (congrArg (World.drewN _) (Nat.add_assoc _ _ _))⟩))); try go_wp2_with (first | (go_at_call 8; (with_reducible refine (impl_PowerMod.calls kj18 t189 t199 t190 t210 true _ A40.out).mono ?_); rintro e w' ⟨rfl, ⟨nd, rfl⟩⟩; (try first | exact ⟨rfl, _, World.drewN_drewN _ _ _⟩ | exact ⟨rfl, _, Eq.trans (World.drewN_drewN _ _ _) (congrArg (World.drewN _) (Nat.add_assoc _ _ _))⟩))))
                        go_ret
                        exact ⟨by first | rfl | (simp [errW_none, errW_some] <;> rfl) | (simp [*, errW_none, errW_some] <;> rfl), by repeat (first | (with_reducible first | exact HB.out | apply below_alloc | apply pw_below_drewN | apply below_drew1) | exact HB.out)⟩
                  · replace c41 := Bool.eq_false_iff.mpr c41
                    subst c41
                    have H1 : (some false) = some r := by rw [if_neg (show ¬ (false = true) by decide)] at H; exact H
                    clear H
                    have H := H1
                    clear H1
                    as_aux_lemma =>
                      obtain rfl := Option.some.inj H
                      go_wp2_with (first | (go_at_call 8; (with_reducible refine (impl_PowerMod.calls kj18 t189 t199 t190 t210 false _ A40.out).mono ?_); rintro e w' ⟨rfl, ⟨nd, rfl⟩⟩; (try first | exact ⟨rfl, _, World.drewN_drewN _ _ _⟩ | exact ⟨rfl, _, Eq.trans (World.drewN_drewN _ _ _) (congrArg (World.drewN _) (Nat.add_assoc _ _ _))⟩)))
                      repeat (go_quiet (first | (go_at_call 8; (with_reducible refine (impl_PowerMod.calls kj18 t189 t199 t190 t210 false _ A40.out).mono ?_); rintro e w' ⟨rfl, ⟨nd, rfl⟩⟩; (try first | exact ⟨rfl, _, World.drewN_drewN _ _ _⟩ | exact ⟨rfl, _, Eq.trans (World.drewN_drewN _ _ _) (congrArg (World.drewN _) (Nat.add_assoc _ _ _))⟩))); try go_wp2_with (first | (go_at_call 8; (with_reducible refine (impl_PowerMod.calls kj18 t189 t199 t190 t210 false _ A40.out).mono ?_); rintro e w' ⟨rfl, ⟨nd, rfl⟩⟩; (try first | exact ⟨rfl, _, World.drewN_drewN _ _ _⟩ | exact ⟨rfl, _, Eq.trans (World.drewN_drewN _ _ _) (congrArg (World.drewN _) (Nat.add_assoc _ _ _))⟩))))
                      go_ret
                      exact ⟨by first | rfl | (simp [errW_none, errW_some] <;> rfl) | (simp [*, errW_none, errW_some] <;> rfl), by repeat (first | (with_reducible first | exact HB.out | apply below_alloc | apply pw_below_drewN | apply below_drew1) | exact HB.out)⟩
                · replace c39 := Bool.eq_false_iff.mpr c39
                  subst c39
                  have H1 : (laws_FnRoots.j3 kj18 l1) = some r := by rw [if_neg (show ¬ (false = true) by decide)] at H; exact H
                  clear H
                  have H := H1
                  clear H1
                  as_aux_lemma =>
                    have H' := Aside0.mk H
                    clear H
                    go_wp2
                    repeat (go_quiet (fail); try go_wp2)
                    go_meet
                    case rel => exact ⟨_, H', ⟨by have := HJ10.out; have := HJ18.out; first | omega | exact Nat.le_refl _⟩, ⟨by repeat (first | (with_reducible first | exact HB.out | apply below_alloc | apply pw_below_drewN | apply below_drew1) | exact HB.out)⟩⟩
              case rest =>
                clear HC38
                try clear c1
                try clear c2
                try clear p2
                try clear c3
                try clear c3b0
                try clear c4
                try clear p6
                try clear c13
                try clear c13b0
                try clear c13b1
                try clear c13b2
                try clear c14
                try clear c14b0
                try clear c14b1
                try clear c15
                try clear c15b0
                try clear c15b1
                try clear c15b2
                try clear c16
                try clear c16b0
                try clear c16b1
                try clear c17
                try clear c17b0
                try clear c17b1
                try clear c17b2
                try clear c18
                try clear c20
                try clear c23
                try clear c23b0
                try clear c23b1
                try clear c23b2
                try clear c24
                try clear c25
                try clear c25b0
                try clear c25b1
                try clear c26
                try clear c26b0
                try clear c26b1
                try clear c27
                try clear c28
                try clear c29
                try clear c29b0
                try clear c29b1
                try clear c30
                try clear c32
                try clear c32b0
                try clear c32b1
                try clear c35
                try clear c36
                try clear c37
                try clear c37b0
                try clear c37b1
                try clear c39
                try clear c41
                try clear c42
                try clear c42b0
                try clear c42b1
                try clear c43
                try clear c43b0
                try clear c43b1
                try clear c44
                try clear c44b0
                try clear c44b1
                try clear p2
                try clear p6
                obtain ⟨kq, HA, HJ37, HB⟩ := hcut
                cases kq with
                | zero => exact absurd HA.out (by simp [laws_FnRoots.j3])
                | succ kj37 =>
                  have H := HA.out
                  clear HA
                  simp only [laws_FnRoots.j3] at H
                  replace H := Option.bind_eq_some_iff.mp H
                  obtain ⟨t212, A450, H⟩ := H
                  replace H : ((impl_FirstGenerator.f kj37 t212).bind fun bt213 => ((spec_FirstGenerator.f kj37 t212).bind fun bt215 => (if (bt213.2 != bt215.2) = true then (laws_FnRoots.j4 kj37 t212 bt213.1 bt213.2 true) else (laws_FnRoots.j4 kj37 t212 bt213.1 bt213.2 (bt213.1 != bt215.1))))) = some r := H
                  have A45 := Aside0.mk A450
                  clear A450
                  replace H := Option.bind_eq_some_iff.mp H
                  obtain ⟨⟨t213, t214⟩, A460, H⟩ := H
                  replace H : ((spec_FirstGenerator.f kj37 t212).bind fun bt215 => (if (t214 != bt215.2) = true then (laws_FnRoots.j4 kj37 t212 t213 t214 true) else (laws_FnRoots.j4 kj37 t212 t213 t214 (t213 != bt215.1)))) = some r := H
                  have A46 := Aside0.mk A460
                  clear A460
                  replace H := Option.bind_eq_some_iff.mp H
                  obtain ⟨⟨t215, t216⟩, A470, H⟩ := H
                  replace H : (if (t214 != t216) = true then (laws_FnRoots.j4 kj37 t212 t213 t214 true) else (laws_FnRoots.j4 kj37 t212 t213 t214 (t213 != t215))) = some r := H
                  have A47 := Aside0.mk A470
                  clear A470
                  have HC48 := Aside0.mk H
                  clear H
                  go_upto_region 28 with (first | (go_at_call 27; (with_reducible refine (spec_DrawFirstGenerator.calls _ _ l1 t212 _ ?side1 ?side2 A45.out).mono ?_); (case side1 => repeat (first | exact (Kd.C_below HR1.out HB.out) | (with_reducible refine Kd.C_alloc ?_ _) | (with_reducible refine Kd.C_drewN ?_ _) | (with_reducible refine Kd.C_drew ?_))); (case side2 => exact HC1.out); rintro e w49 ⟨rfl, hb⟩; have n0_ := Aside0.mk (below_step (by repeat (first | (with_reducible first | exact HB.out | apply below_alloc | apply pw_below_drewN | apply below_drew1) | exact HB.out)) hb); clear HB; have HB := n0_; clear n0_; (try clear hb); (try clear hb2); (try clear hk); (try clear hi)) | (go_at_call 28; (with_reducible refine (impl_FirstGenerator.calls kj37 t212 t213 t214 _ A46.out).mono ?_); rintro e w' ⟨rfl, ⟨nd, rfl⟩⟩; (try first | exact ⟨rfl, _, World.drewN_drewN _ _ _⟩ | exact ⟨rfl, _, Eq.trans (World.drewN_drewN _ _ _) (congrArg (World.drewN _) (Nat.add_assoc _ _ _))⟩)) | (go_at_call 29; (with_reducible refine (spec_FirstGenerator.calls kj37 t212 t215 t216 _ A47.out).mono ?_); rintro e w' ⟨rfl, ⟨nd, rfl⟩⟩; (try first | exact ⟨rfl, _, World.drewN_drewN _ _ _⟩ | exact ⟨rfl, _, Eq.trans (World.drewN_drewN _ _ _) (congrArg (World.drewN _) (Nat.add_assoc _ _ _))⟩)))
                  repeat (go_quiet (first | (go_at_call 27; (with_reducible refine (spec_DrawFirstGenerator.calls _ _ l1 t212 _ ?side1 ?side2 A45.out).mono ?_); (case side1 => repeat (first | exact (Kd.C_below HR1.out HB.out) | (with_reducible refine Kd.C_alloc ?_ _) | (with_reducible refine Kd.C_drewN ?_ _) | (with_reducible refine Kd.C_drew ?_))); (case side2 => exact HC1.out); rintro e w49 ⟨rfl, hb⟩; have n0_ := Aside0.mk (below_step (by repeat (first | (with_reducible first | exact HB.out | apply below_alloc | apply pw_below_drewN | apply below_drew1) | exact HB.out)) hb); clear HB; have HB := n0_; clear n0_; (try clear hb); (try clear hb2); (try clear hk); (try clear hi)) | (go_at_call 28; (with_reducible refine (impl_FirstGenerator.calls kj37 t212 t213 t214 _ A46.out).mono ?_); rintro e w' ⟨rfl, ⟨nd, rfl⟩⟩; (try first | exact ⟨rfl, _, World.drewN_drewN _ _ _⟩ | exact ⟨rfl, _, Eq.trans (World.drewN_drewN _ _ _) (congrArg (World.drewN _) (Nat.add_assoc _ _ _))⟩)) | (go_at_call 29; (with_reducible refine (spec_FirstGenerator.calls kj37 t212 t215 t216 _ A47.out).mono ?_); rintro e w' ⟨rfl, ⟨nd, rfl⟩⟩; (try first | exact ⟨rfl, _, World.drewN_drewN _ _ _⟩ | exact ⟨rfl, _, Eq.trans (World.drewN_drewN _ _ _) (congrArg (World.drewN _) (Nat.add_assoc _ _ _))⟩))); go_upto_region 28 with (first | (go_at_call 27; (with_reducible refine (spec_DrawFirstGenerator.calls _ _ l1 t212 _ ?side1 ?side2 A45.out).mono ?_); (case side1 => repeat (first | exact (Kd.C_below HR1.out HB.out) | (with_reducible refine Kd.C_alloc ?_ _) | (with_reducible refine Kd.C_drewN ?_ _) | (with_reducible refine Kd.C_drew ?_))); (case side2 => exact HC1.out); rintro e w49 ⟨rfl, hb⟩; have n0_ := Aside0.mk (below_step (by repeat (first | (with_reducible first | exact HB.out | apply below_alloc | apply pw_below_drewN | apply below_drew1) | exact HB.out)) hb); clear HB; have HB := n0_; clear n0_; (try clear hb); (try clear hb2); (try clear hk); (try clear hi)) | (go_at_call 28; (with_reducible refine (impl_FirstGenerator.calls kj37 t212 t213 t214 _ A46.out).mono ?_); rintro e w' ⟨rfl, ⟨nd, rfl⟩⟩; (try first | exact ⟨rfl, _, World.drewN_drewN _ _ _⟩ | exact ⟨rfl, _, Eq.trans (World.drewN_drewN _ _ _) (congrArg (World.drewN _) (Nat.add_assoc _ _ _))⟩)) | (go_at_call 29; (with_reducible refine (spec_FirstGenerator.calls kj37 t212 t215 t216 _ A47.out).mono ?_); rintro e w' ⟨rfl, ⟨nd, rfl⟩⟩; (try first | exact ⟨rfl, _, World.drewN_drewN _ _ _⟩ | exact ⟨rfl, _, Eq.trans (World.drewN_drewN _ _ _) (congrArg (World.drewN _) (Nat.add_assoc _ _ _))⟩))))
                  (try simp only [Act.put, List.setIfInBounds_toArray, List.set_cons_zero, List.set_cons_succ])
                  go_cut [224] (fun v224 wc => ∃ (kq : Nat) (x224_47 : Bool), v224 = .bool x224_47 ∧ Aside0 (laws_FnRoots.j4 kq t212 t213 t214 x224_47 = some r) ∧ Aside0 (kq ≤ kj37) ∧ Aside0 (Below w.heap.size w wc))
                  case first =>
                    have H := HC48.out
                    clear HC48
                    by_cases c50 : (t214 != t216) = true
                    · rw [if_pos c50] at H
                      have c50b0 : (t214 != t216) = true := c50
                      (try (have c50b1 : decide (t214 = t216) = false := by simpa using c50))
                      (try (have c50b2 : (t214 == t216) = false := by simpa using c50))
                      (try (have c50b3 : ¬ (t214 = t216) := by simpa using c50))
                      clear c50
                      (first | rw [c50b0] | (simp only [i64_w, i32_w]; rw [c50b0]) | skip)
                      as_aux_lemma =>
                        have H' := Aside0.mk H
                        clear H
                        go_wp2
                        repeat (go_quiet (fail); try go_wp2)
                        go_meet
                        case rel => exact ⟨_, (true), (by first | rfl | (simp; done) | (simp [*]; done)), H', ⟨by have := HJ10.out; have := HJ18.out; have := HJ37.out; first | omega | exact Nat.le_refl _⟩, ⟨by repeat (first | (with_reducible first | exact HB.out | apply below_alloc | apply pw_below_drewN | apply below_drew1) | exact HB.out)⟩⟩
                    · rw [if_neg c50] at H
                      have c50b0 : (t214 != t216) = false := by simpa using c50
                      (try (have c50b1 : decide (t214 = t216) = true := by simpa using c50))
                      (try (have c50b2 : (t214 == t216) = true := by simpa using c50))
                      clear c50
                      (first | rw [c50b0] | (simp only [i64_w, i32_w]; rw [c50b0]) | skip)
                      as_aux_lemma =>
                        have H' := Aside0.mk H
                        clear H
                        go_wp2
                        repeat (go_quiet (fail); try go_wp2)
                        go_meet
                        case rel => exact ⟨_, ((t213 != t215)), (by first | rfl | (simp; done) | (simp [*]; done)), H', ⟨by have := HJ10.out; have := HJ18.out; have := HJ37.out; first | omega | exact Nat.le_refl _⟩, ⟨by repeat (first | (with_reducible first | exact HB.out | apply below_alloc | apply pw_below_drewN | apply below_drew1) | exact HB.out)⟩⟩
                  case rest =>
                    clear HC48
                    try clear c1
                    try clear c2
                    try clear p2
                    try clear c3
                    try clear c3b0
                    try clear c4
                    try clear c5
                    try clear p6
                    try clear c13
                    try clear c13b0
                    try clear c13b1
                    try clear c13b2
                    try clear c14
                    try clear c14b0
                    try clear c14b1
                    try clear c15
                    try clear c15b0
                    try clear c15b1
                    try clear c15b2
                    try clear c16
                    try clear c16b0
                    try clear c16b1
                    try clear c17
                    try clear c17b0
                    try clear c17b1
                    try clear c17b2
                    try clear c18
                    try clear c20
                    try clear c23
                    try clear c23b0
                    try clear c23b1
                    try clear c23b2
                    try clear c24
                    try clear c25
                    try clear c25b0
                    try clear c25b1
                    try clear c26
                    try clear c26b0
                    try clear c26b1
                    try clear c27
                    try clear c28
                    try clear c29
                    try clear c29b0
                    try clear c29b1
                    try clear c30
                    try clear c32
                    try clear c32b0
                    try clear c32b1
                    try clear c35
                    try clear c36
                    try clear c37
                    try clear c37b0
                    try clear c37b1
                    try clear c39
                    try clear c41
                    try clear c42
                    try clear c42b0
                    try clear c42b1
                    try clear c43
                    try clear c43b0
                    try clear c43b1
                    try clear c44
                    try clear c44b0
                    try clear c44b1
                    try clear c50
                    try clear c50b0
                    try clear c50b1
                    try clear c50b2
                    try clear p2
                    try clear p6
                    obtain ⟨kq, x224_47, rfl, HA, HJ47, HB⟩ := hcut
                    cases kq with
                    | zero => exact absurd HA.out (by simp [laws_FnRoots.j4])
                    | succ kj47 =>
                      have H := HA.out
                      clear HA
                      simp only [laws_FnRoots.j4] at H
                      by_cases c51 : x224_47 = true
                      · subst c51
                        have H1 : (some false) = some r := by rw [if_pos rfl] at H; exact H
                        clear H
                        have H := H1
                        clear H1
                        as_aux_lemma =>
                          obtain rfl := Option.some.inj H
                          go_wp2
                          repeat (go_quiet (fail); try go_wp2)
                          go_ret
                          exact ⟨by first | rfl | (simp [errW_none, errW_some] <;> rfl) | (simp [*, errW_none, errW_some] <;> rfl), by repeat (first | (with_reducible first | exact HB.out | apply below_alloc | apply pw_below_drewN | apply below_drew1) | exact HB.out)⟩
                      · replace c51 := Bool.eq_false_iff.mpr c51
                        subst c51
                        have H1 : (if t214 = true then ((impl_OrderMod.f kj47 t213 t212).bind fun bt217 => (if bt217.2 = true then (some (bt217.1 == (wrap64 (t212 - 1)))) else (some false))) else (some true)) = some r := by rw [if_neg (show ¬ (false = true) by decide)] at H; exact H
                        clear H
                        have H := H1
                        clear H1
                        by_cases c52 : t214 = true
                        · subst c52
                          have H1 : ((impl_OrderMod.f kj47 t213 t212).bind fun bt217 => (if bt217.2 = true then (some (bt217.1 == (wrap64 (t212 - 1)))) else (some false))) = some r := by rw [if_pos rfl] at H; exact H
                          clear H
                          have H := H1
                          clear H1
                          replace H := Option.bind_eq_some_iff.mp H
                          obtain ⟨⟨t217, t218⟩, A530, H⟩ := H
                          replace H : (if t218 = true then (some (t217 == (wrap64 (t212 - 1)))) else (some false)) = some r := H
                          have A53 := Aside0.mk A530
                          clear A530
                          by_cases c54 : t218 = true
                          · subst c54
                            have H1 : (some (t217 == (wrap64 (t212 - 1)))) = some r := by rw [if_pos rfl] at H; exact H
                            clear H
                            have H := H1
                            clear H1
                            as_aux_lemma =>
                              obtain rfl := Option.some.inj H
                              go_wp2_with (first | (go_at_call 25; (with_reducible refine (impl_OrderMod.calls kj47 t213 t212 t217 true _ A53.out).mono ?_); rintro e w' ⟨rfl, ⟨nd, rfl⟩⟩; (try first | exact ⟨rfl, _, World.drewN_drewN _ _ _⟩ | exact ⟨rfl, _, Eq.trans (World.drewN_drewN _ _ _) (congrArg (World.drewN _) (Nat.add_assoc _ _ _))⟩)))
                              repeat (go_quiet (first | (go_at_call 25; (with_reducible refine (impl_OrderMod.calls kj47 t213 t212 t217 true _ A53.out).mono ?_); rintro e w' ⟨rfl, ⟨nd, rfl⟩⟩; (try first | exact ⟨rfl, _, World.drewN_drewN _ _ _⟩ | exact ⟨rfl, _, Eq.trans (World.drewN_drewN _ _ _) (congrArg (World.drewN _) (Nat.add_assoc _ _ _))⟩))); try go_wp2_with (first | (go_at_call 25; (with_reducible refine (impl_OrderMod.calls kj47 t213 t212 t217 true _ A53.out).mono ?_); rintro e w' ⟨rfl, ⟨nd, rfl⟩⟩; (try first | exact ⟨rfl, _, World.drewN_drewN _ _ _⟩ | exact ⟨rfl, _, Eq.trans (World.drewN_drewN _ _ _) (congrArg (World.drewN _) (Nat.add_assoc _ _ _))⟩))))
                              go_ret
                              exact ⟨by first | rfl | (simp [errW_none, errW_some] <;> rfl) | (simp [*, errW_none, errW_some] <;> rfl), by repeat (first | (with_reducible first | exact HB.out | apply below_alloc | apply pw_below_drewN | apply below_drew1) | exact HB.out)⟩
                          · replace c54 := Bool.eq_false_iff.mpr c54
                            subst c54
                            have H1 : (some false) = some r := by rw [if_neg (show ¬ (false = true) by decide)] at H; exact H
                            clear H
                            have H := H1
                            clear H1
                            as_aux_lemma =>
                              obtain rfl := Option.some.inj H
                              go_wp2_with (first | (go_at_call 25; (with_reducible refine (impl_OrderMod.calls kj47 t213 t212 t217 false _ A53.out).mono ?_); rintro e w' ⟨rfl, ⟨nd, rfl⟩⟩; (try first | exact ⟨rfl, _, World.drewN_drewN _ _ _⟩ | exact ⟨rfl, _, Eq.trans (World.drewN_drewN _ _ _) (congrArg (World.drewN _) (Nat.add_assoc _ _ _))⟩)))
                              repeat (go_quiet (first | (go_at_call 25; (with_reducible refine (impl_OrderMod.calls kj47 t213 t212 t217 false _ A53.out).mono ?_); rintro e w' ⟨rfl, ⟨nd, rfl⟩⟩; (try first | exact ⟨rfl, _, World.drewN_drewN _ _ _⟩ | exact ⟨rfl, _, Eq.trans (World.drewN_drewN _ _ _) (congrArg (World.drewN _) (Nat.add_assoc _ _ _))⟩))); try go_wp2_with (first | (go_at_call 25; (with_reducible refine (impl_OrderMod.calls kj47 t213 t212 t217 false _ A53.out).mono ?_); rintro e w' ⟨rfl, ⟨nd, rfl⟩⟩; (try first | exact ⟨rfl, _, World.drewN_drewN _ _ _⟩ | exact ⟨rfl, _, Eq.trans (World.drewN_drewN _ _ _) (congrArg (World.drewN _) (Nat.add_assoc _ _ _))⟩))))
                              go_ret
                              exact ⟨by first | rfl | (simp [errW_none, errW_some] <;> rfl) | (simp [*, errW_none, errW_some] <;> rfl), by repeat (first | (with_reducible first | exact HB.out | apply below_alloc | apply pw_below_drewN | apply below_drew1) | exact HB.out)⟩
                        · replace c52 := Bool.eq_false_iff.mpr c52
                          subst c52
                          have H1 : (some true) = some r := by rw [if_neg (show ¬ (false = true) by decide)] at H; exact H
                          clear H
                          have H := H1
                          clear H1
                          as_aux_lemma =>
                            obtain rfl := Option.some.inj H
                            go_wp2
                            repeat (go_quiet (fail); try go_wp2)
                            go_ret
                            exact ⟨by first | rfl | (simp [errW_none, errW_some] <;> rfl) | (simp [*, errW_none, errW_some] <;> rfl), by repeat (first | (with_reducible first | exact HB.out | apply below_alloc | apply pw_below_drewN | apply below_drew1) | exact HB.out)⟩

/-- THE ONE PURE STATEMENT of laws_FnRoots: yours. -/
def laws_FnRoots.Pure : Prop := ∀ (l0 : List Int) (l1 : List Int), l0.length ≤ maxLen → l0.length * 1 ≤ 140737488351232 → (∀ x ∈ l0, (Lit.int .u8 x).wf = true) → l1.length ≤ maxLen → l1.length * 1 ≤ 140737488351232 → (∀ x ∈ l1, (Lit.int .u8 x).wf = true) → ∃ k, laws_FnRoots.f k l0 l1 = some true
theorem laws_FnRoots.walk (P : laws_FnRoots.Pure) (a0 : Option Addr) (len0 cap0 : Nat) (z0 : List Int) (a1 : Option Addr) (len1 cap1 : Nat) (z1 : List Int) (w : World) (w0 : (a0 = none ∧ len0 = 0 ∧ cap0 = 0 ∧ z0 = []) ∨ ∃ x, a0 = some x ∧ len0 ≤ cap0 ∧ cap0 ≤ maxLen ∧ z0.length = cap0 ∧ (∀ i, i < z0.length → w.cell? (x.add i) = some (.int .u8 (z0.getD i 0))) ∧ ∀ n ∈ z0, (Lit.int .u8 n).wf = true) (y0 : len0 * 1 ≤ 140737488351232) (w1 : (a1 = none ∧ len1 = 0 ∧ cap1 = 0 ∧ z1 = []) ∨ ∃ x, a1 = some x ∧ len1 ≤ cap1 ∧ cap1 ≤ maxLen ∧ z1.length = cap1 ∧ (∀ i, i < z1.length → w.cell? (x.add i) = some (.int .u8 (z1.getD i 0))) ∧ ∀ n ∈ z1, (Lit.int .u8 n).wf = true) (y1 : len1 * 1 ≤ 140737488351232) :
    Calls Try.prog 4 #[.slice a0 len0 cap0, .slice a1 len1 cap1] w fun e w' => e = .returned (.bool true) ∧ Below w.heap.size w w' := by
  obtain ⟨l0, rfl, hr0, hm0, hw0, hc0⟩ := ReadsInt.ofRowC w0
  obtain ⟨l1, rfl, hr1, hm1, hw1, hc1⟩ := ReadsInt.ofRowC w1
  obtain ⟨k, h⟩ := P l0 l1 hm0 y0 hw0 hm1 y1 hw1
  refine (laws_FnRoots.calls k _ _ l0 _ _ l1 true w (Kd.C_of_reads (d := (0 : Int)) (h1 := fun _ => rfl) hr0) hc0 (Kd.C_of_reads (d := (0 : Int)) (h1 := fun _ => rfl) hr1) hc1 h).mono ?_
  rintro e w' ⟨rfl, hd⟩
  exact ⟨rfl, hd⟩

end Go.Proofs.Ytdlljfejfgfmgaa.PFnRoots
