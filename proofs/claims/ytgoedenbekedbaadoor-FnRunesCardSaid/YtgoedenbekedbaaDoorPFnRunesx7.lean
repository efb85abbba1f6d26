-- Printed for this claim by a changed copy of the kit's printing program (wip/tools/patch_print.py); Lean checks it.
import Derived.Test.YtgoedenbekedbaaDoorPFnRunesx0
import Derived.Test.YtgoedenbekedbaaDoorPFnRunesx2
import Derived.Test.YtgoedenbekedbaaDoorPFnRunesx4
import Derived.Test.YtgoedenbekedbaaDoorPFnRunesx5
import Derived.Test.YtgoedenbekedbaaDoorPFnRunesx6
namespace Go.Proofs.YtgoedenbekedbaaDoor.PFnRunes
open Go.RowKit Go.Proofs.YtgoedenbekedbaaDoorW.PrintWords Go.Proofs.YtgoedenbekedbaaDoorW.PrintLast Go.Proofs.YtgoedenbekedbaaDoorW.PrintMore
attribute [local go_sem] max2_int min2_int max_two min_two max_three min_three max_four min_four   -- for this text's walks alone
set_option linter.unusedVariables false
set_option linter.unusedSimpArgs false

noncomputable section

theorem bU_ {w W V : World} (h : Aside0 (Below w.heap.size w W)) (e : V.os = W.os ∧ V.tape = W.tape ∧ V.output = W.output ∧ V.heap = W.heap := by exact ⟨rfl, rfl, rfl, rfl⟩) : Below w.heap.size w V :=
  ⟨by rw [e.1]; exact h.out.os, by rw [e.2.1]; exact h.out.tape, by rw [e.2.2.1]; exact h.out.output, by rw [e.2.2.2]; exact h.out.size, fun i hi => by rw [e.2.2.2]; exact h.out.block i hi⟩
theorem bS_ {w W V w1 : World} (h : Aside0 (Below w.heap.size w W)) (hb : Below V.heap.size V w1) (e : V.os = W.os ∧ V.tape = W.tape ∧ V.output = W.output ∧ V.heap = W.heap := by exact ⟨rfl, rfl, rfl, rfl⟩) : Aside0 (Below w.heap.size w w1) :=
  ⟨below_step (bU_ h e) hb⟩
/-! ### laws_FnRunes: function 6 -/
mutual
def laws_FnRunes.j0 : Nat → List Int → ByteArray → List Int → Bool → Bool → Option (Bool)
  | 0, _, _, _, _, _ => none
  | k + 1, x1, x5, x6, x7, x72 => if x72 = true then (some false) else (if x7 = true then ((impl_TextOf.f k x6).bind fun bt301 => ((laws_numberOf.f k x1).bind fun t303 => (if (wrap64 ((x5.size : Int) + 1)) = 0 then (none) else ((impl_NextStart.f k x5 (Int.tmod t303 (wrap64 ((x5.size : Int) + 1)))).bind fun bt304 => (if bt301.2 = true then (if bt301.1.toList = x5.toList then (laws_FnRunes.j1 k x1 x5 x6 x7 bt304.1 (!bt304.2)) else (laws_FnRunes.j1 k x1 x5 x6 x7 bt304.1 true)) else (laws_FnRunes.j1 k x1 x5 x6 x7 bt304.1 true)))))) else (laws_FnRunes.j2 k x1 x5 x6 x7))
def laws_FnRunes.j2 : Nat → List Int → ByteArray → List Int → Bool → Option (Bool)
  | 0, _, _, _, _ => none
  | k + 1, x1, x5, x6, x7 => (spec_DrawTextOf.f k x1).bind fun t309 => ((impl_TextOf.f k t309).bind fun bt312 => ((spec_TextOf.f k t309).bind fun bt314 => (if (bt312.2 != bt314.2) = true then (laws_FnRunes.j3 k x1 x5 x6 x7 t309 bt312.1 bt312.2 true) else (laws_FnRunes.j3 k x1 x5 x6 x7 t309 bt312.1 bt312.2 (bt312.1.toList != bt314.1.toList)))))
def laws_FnRunes.j3 : Nat → List Int → ByteArray → List Int → Bool → List Int → ByteArray → Bool → Bool → Option (Bool)
  | 0, _, _, _, _, _, _, _, _ => none
  | k + 1, x1, x5, x6, x7, x17, x18, x19, x133 => if x133 = true then (some false) else (if x19 = true then ((impl_RunesOf.f k x18).bind fun bt316 => (if bt316.2 = true then ((laws_sameInts.f k bt316.1 x17).bind fun t320 => (laws_FnRunes.j4 k x1 x5 x6 x7 x17 x18 (!t320))) else (laws_FnRunes.j4 k x1 x5 x6 x7 x17 x18 true))) else (laws_FnRunes.j7 k x1))
def laws_FnRunes.j7 : Nat → List Int → Option (Bool)
  | 0, _ => none
  | k + 1, x1 => (spec_DrawRuneBytes.f x1).bind fun t325 => ((impl_RuneBytes.f t325).bind fun bt326 => ((spec_RuneBytes.f t325).bind fun bt328 => ((spec_DrawRuneAt.f k x1).bind fun bt330 => ((impl_RuneAt.f bt330.1 bt330.2).bind fun bt332 => ((spec_RuneAt.f k bt330.1 bt330.2).bind fun bt335 => ((spec_DrawNextStart.f k x1).bind fun bt338 => ((impl_NextStart.f k bt338.1 bt338.2).bind fun bt340 => ((spec_NextStart.f k bt338.1 bt338.2).bind fun bt342 => ((spec_DrawIsStart.f x1).bind fun t344 => (if (bt326.2 == bt328.2) = true then (if bt326.1.toList = bt328.1.toList then (if (bt332.2.2 == bt335.2.2) = true then (if bt332.1 = bt335.1 then (if bt332.2.1 = bt335.2.1 then (if (bt340.2 == bt342.2) = true then (if bt340.1 = bt342.1 then ((impl_IsStart.f t344).bind fun t345 => ((spec_IsStart.f t344).bind fun t346 => (if (t345 == t346) = true then ((impl_GoodRune.f t325).bind fun t347 => ((spec_GoodRune.f t325).bind fun t348 => (if (t347 == t348) = true then (if bt326.2 = true then (if (bt326.1.size : Int) ≥ 1 then (if (bt326.1.size : Int) ≤ 4 then (if 0 < (bt326.1.size : Int) then ((impl_IsStart.f (bt bt326.1 0)).bind fun t349 => (some t349)) else (none)) else (some false)) else (some false)) else (some true)) else (some false)))) else (some false)))) else (some false)) else (some false)) else (some false)) else (some false)) else (some false)) else (some false)) else (some false)))))))))))
def laws_FnRunes.j4 : Nat → List Int → ByteArray → List Int → Bool → List Int → ByteArray → Bool → Option (Bool)
  | 0, _, _, _, _, _, _, _ => none
  | k + 1, x1, x5, x6, x7, x17, x18, x147 => if x147 = true then (some false) else (if x7 = true then (laws_FnRunes.l0 k x1 x5 x6 x17 x18 0) else (laws_FnRunes.j7 k x1))
def laws_FnRunes.l0 : Nat → List Int → ByteArray → List Int → List Int → ByteArray → Int → Option (Bool)
  | 0, _, _, _, _, _, _ => none
  | k + 1, x1, x5, x6, x17, x18, x25 => if x25 ≥ (x6.length : Int) then (laws_FnRunes.j6 k x1 x5 x6 x17 x18 x25 true) else (laws_FnRunes.j6 k x1 x5 x6 x17 x18 x25 (decide (x25 ≥ (x17.length : Int))))
def laws_FnRunes.j6 : Nat → List Int → ByteArray → List Int → List Int → ByteArray → Int → Bool → Option (Bool)
  | 0, _, _, _, _, _, _, _ => none
  | k + 1, x1, x5, x6, x17, x18, x25, x160 => if x160 = true then (if ((decide (x6.length < x17.length)) != (Op.bytesLess x5.toList x18.toList)) = true then (some false) else (laws_FnRunes.j7 k x1)) else (if 0 ≤ x25 then (if x25 < (x6.length : Int) then (if x25 < (x17.length : Int) then (if (rd x6 x25) = (rd x17 x25) then (laws_FnRunes.l0 k x1 x5 x6 x17 x18 (wrap64 (x25 + 1))) else (if ((decide ((rd x6 x25) < (rd x17 x25))) != (Op.bytesLess x5.toList x18.toList)) = true then (some false) else (laws_FnRunes.j7 k x1))) else (none)) else (none)) else (none))
def laws_FnRunes.j1 : Nat → List Int → ByteArray → List Int → Bool → Int → Bool → Option (Bool)
  | 0, _, _, _, _, _, _ => none
  | k + 1, x1, x5, x6, x7, x12, x100 => if x100 = true then (some false) else (if x12 < (x5.size : Int) then ((impl_RuneAt.f x5 x12).bind fun bt306 => (if bt306.2.2 = true then (laws_FnRunes.j2 k x1 x5 x6 x7) else (some false))) else (laws_FnRunes.j2 k x1 x5 x6 x7))
end
def laws_FnRunes.f (k : Nat) (l0 : List Int) (l1 : List Int) : Option (Bool) := if (wrap64 ((l0.length : Int) + (l1.length : Int))) > 1048576 then (some true) else ((spec_DrawRunesOf.f k l0).bind fun t291 => ((impl_RunesOf.f k t291).bind fun bt292 => ((spec_RunesOf.f k t291).bind fun bt296 => (if (bt292.2 != bt296.2) = true then (laws_FnRunes.j0 k l1 t291 bt292.1 bt292.2 true) else ((laws_sameInts.f k bt292.1 bt296.1).bind fun t300 => (laws_FnRunes.j0 k l1 t291 bt292.1 bt292.2 (!t300)))))))
theorem laws_FnRunes.mono_l : ∀ k, (∀ y0 y1 y2 y3 y4, LeO (laws_FnRunes.j0 k y0 y1 y2 y3 y4) (laws_FnRunes.j0 (k + 1) y0 y1 y2 y3 y4)) ∧ (∀ y0 y1 y2 y3, LeO (laws_FnRunes.j2 k y0 y1 y2 y3) (laws_FnRunes.j2 (k + 1) y0 y1 y2 y3)) ∧ (∀ y0 y1 y2 y3 y4 y5 y6 y7, LeO (laws_FnRunes.j3 k y0 y1 y2 y3 y4 y5 y6 y7) (laws_FnRunes.j3 (k + 1) y0 y1 y2 y3 y4 y5 y6 y7)) ∧ (∀ y0, LeO (laws_FnRunes.j7 k y0) (laws_FnRunes.j7 (k + 1) y0)) ∧ (∀ y0 y1 y2 y3 y4 y5 y6, LeO (laws_FnRunes.j4 k y0 y1 y2 y3 y4 y5 y6) (laws_FnRunes.j4 (k + 1) y0 y1 y2 y3 y4 y5 y6)) ∧ (∀ y0 y1 y2 y3 y4 y5, LeO (laws_FnRunes.l0 k y0 y1 y2 y3 y4 y5) (laws_FnRunes.l0 (k + 1) y0 y1 y2 y3 y4 y5)) ∧ (∀ y0 y1 y2 y3 y4 y5 y6, LeO (laws_FnRunes.j6 k y0 y1 y2 y3 y4 y5 y6) (laws_FnRunes.j6 (k + 1) y0 y1 y2 y3 y4 y5 y6)) ∧ (∀ y0 y1 y2 y3 y4 y5, LeO (laws_FnRunes.j1 k y0 y1 y2 y3 y4 y5) (laws_FnRunes.j1 (k + 1) y0 y1 y2 y3 y4 y5))
  | 0 => ⟨fun _ _ _ _ _ r h => by simp [laws_FnRunes.j0] at h, fun _ _ _ _ r h => by simp [laws_FnRunes.j2] at h, fun _ _ _ _ _ _ _ _ r h => by simp [laws_FnRunes.j3] at h, fun _ r h => by simp [laws_FnRunes.j7] at h, fun _ _ _ _ _ _ _ r h => by simp [laws_FnRunes.j4] at h, fun _ _ _ _ _ _ r h => by simp [laws_FnRunes.l0] at h, fun _ _ _ _ _ _ _ r h => by simp [laws_FnRunes.j6] at h, fun _ _ _ _ _ _ r h => by simp [laws_FnRunes.j1] at h⟩
  | k + 1 => by
    obtain ⟨ih0, ih1, ih2, ih3, ih4, ih5, ih6, ih7⟩ := laws_FnRunes.mono_l k
    refine ⟨?_, ?_, ?_, ?_, ?_, ?_, ?_, ?_⟩
    · intro y0 y1 y2 y3 y4
      unfold laws_FnRunes.j0
      repeat' first
      | (with_reducible exact ih0 _ _ _ _ _)
      | (with_reducible exact ih1 _ _ _ _)
      | (with_reducible exact ih2 _ _ _ _ _ _ _ _)
      | (with_reducible exact ih3 _)
      | (with_reducible exact ih4 _ _ _ _ _ _ _)
      | (with_reducible exact ih5 _ _ _ _ _ _)
      | (with_reducible exact ih6 _ _ _ _ _ _ _)
      | (with_reducible exact ih7 _ _ _ _ _ _)
      | (with_reducible exact impl_NextStart.mono _ _ _)
      | (with_reducible exact impl_RunesOf.mono _ _)
      | (with_reducible exact impl_TextOf.mono _ _)
      | (with_reducible exact laws_numberOf.mono _ _)
      | (with_reducible exact laws_sameInts.mono _ _ _)
      | (with_reducible exact spec_DrawNextStart.mono _ _)
      | (with_reducible exact spec_DrawRuneAt.mono _ _)
      | (with_reducible exact spec_DrawRunesOf.mono _ _)
      | (with_reducible exact spec_DrawTextOf.mono _ _)
      | (with_reducible exact spec_NextStart.mono _ _ _)
      | (with_reducible exact spec_RuneAt.mono _ _ _)
      | (with_reducible exact spec_RunesOf.mono _ _)
      | (with_reducible exact spec_TextOf.mono _ _)
      | (with_reducible exact LeO.refl _)
      | (with_reducible exact LeO.none _)
      | (with_reducible refine LeO.ite ?_ ?_)
      | (with_reducible refine LeO.bind ?_ (fun _ => ?_))
      | exact ih0 _ _ _ _ _
      | exact ih1 _ _ _ _
      | exact ih2 _ _ _ _ _ _ _ _
      | exact ih3 _
      | exact ih4 _ _ _ _ _ _ _
      | exact ih5 _ _ _ _ _ _
      | exact ih6 _ _ _ _ _ _ _
      | exact ih7 _ _ _ _ _ _
      | exact impl_NextStart.mono _ _ _
      | exact impl_RunesOf.mono _ _
      | exact impl_TextOf.mono _ _
      | exact laws_numberOf.mono _ _
      | exact laws_sameInts.mono _ _ _
      | exact spec_DrawNextStart.mono _ _
      | exact spec_DrawRuneAt.mono _ _
      | exact spec_DrawRunesOf.mono _ _
      | exact spec_DrawTextOf.mono _ _
      | exact spec_NextStart.mono _ _ _
      | exact spec_RuneAt.mono _ _ _
      | exact spec_RunesOf.mono _ _
      | exact spec_TextOf.mono _ _
      | exact LeO.none _
      | refine LeO.ite ?_ ?_
      | refine LeO.bind ?_ (fun _ => ?_)
    · intro y0 y1 y2 y3
      unfold laws_FnRunes.j2
      repeat' first
      | (with_reducible exact ih0 _ _ _ _ _)
      | (with_reducible exact ih1 _ _ _ _)
      | (with_reducible exact ih2 _ _ _ _ _ _ _ _)
      | (with_reducible exact ih3 _)
      | (with_reducible exact ih4 _ _ _ _ _ _ _)
      | (with_reducible exact ih5 _ _ _ _ _ _)
      | (with_reducible exact ih6 _ _ _ _ _ _ _)
      | (with_reducible exact ih7 _ _ _ _ _ _)
      | (with_reducible exact impl_NextStart.mono _ _ _)
      | (with_reducible exact impl_RunesOf.mono _ _)
      | (with_reducible exact impl_TextOf.mono _ _)
      | (with_reducible exact laws_numberOf.mono _ _)
      | (with_reducible exact laws_sameInts.mono _ _ _)
      | (with_reducible exact spec_DrawNextStart.mono _ _)
      | (with_reducible exact spec_DrawRuneAt.mono _ _)
      | (with_reducible exact spec_DrawRunesOf.mono _ _)
      | (with_reducible exact spec_DrawTextOf.mono _ _)
      | (with_reducible exact spec_NextStart.mono _ _ _)
      | (with_reducible exact spec_RuneAt.mono _ _ _)
      | (with_reducible exact spec_RunesOf.mono _ _)
      | (with_reducible exact spec_TextOf.mono _ _)
      | (with_reducible exact LeO.refl _)
      | (with_reducible exact LeO.none _)
      | (with_reducible refine LeO.ite ?_ ?_)
      | (with_reducible refine LeO.bind ?_ (fun _ => ?_))
      | exact ih0 _ _ _ _ _
      | exact ih1 _ _ _ _
      | exact ih2 _ _ _ _ _ _ _ _
      | exact ih3 _
      | exact ih4 _ _ _ _ _ _ _
      | exact ih5 _ _ _ _ _ _
      | exact ih6 _ _ _ _ _ _ _
      | exact ih7 _ _ _ _ _ _
      | exact impl_NextStart.mono _ _ _
      | exact impl_RunesOf.mono _ _
      | exact impl_TextOf.mono _ _
      | exact laws_numberOf.mono _ _
      | exact laws_sameInts.mono _ _ _
      | exact spec_DrawNextStart.mono _ _
      | exact spec_DrawRuneAt.mono _ _
      | exact spec_DrawRunesOf.mono _ _
      | exact spec_DrawTextOf.mono _ _
      | exact spec_NextStart.mono _ _ _
      | exact spec_RuneAt.mono _ _ _
      | exact spec_RunesOf.mono _ _
      | exact spec_TextOf.mono _ _
      | exact LeO.none _
      | refine LeO.ite ?_ ?_
      | refine LeO.bind ?_ (fun _ => ?_)
    · intro y0 y1 y2 y3 y4 y5 y6 y7
      unfold laws_FnRunes.j3
      repeat' first
      | (with_reducible exact ih0 _ _ _ _ _)
      | (with_reducible exact ih1 _ _ _ _)
      | (with_reducible exact ih2 _ _ _ _ _ _ _ _)
      | (with_reducible exact ih3 _)
      | (with_reducible exact ih4 _ _ _ _ _ _ _)
      | (with_reducible exact ih5 _ _ _ _ _ _)
      | (with_reducible exact ih6 _ _ _ _ _ _ _)
      | (with_reducible exact ih7 _ _ _ _ _ _)
      | (with_reducible exact impl_NextStart.mono _ _ _)
      | (with_reducible exact impl_RunesOf.mono _ _)
      | (with_reducible exact impl_TextOf.mono _ _)
      | (with_reducible exact laws_numberOf.mono _ _)
      | (with_reducible exact laws_sameInts.mono _ _ _)
      | (with_reducible exact spec_DrawNextStart.mono _ _)
      | (with_reducible exact spec_DrawRuneAt.mono _ _)
      | (with_reducible exact spec_DrawRunesOf.mono _ _)
      | (with_reducible exact spec_DrawTextOf.mono _ _)
      | (with_reducible exact spec_NextStart.mono _ _ _)
      | (with_reducible exact spec_RuneAt.mono _ _ _)
      | (with_reducible exact spec_RunesOf.mono _ _)
      | (with_reducible exact spec_TextOf.mono _ _)
      | (with_reducible exact LeO.refl _)
      | (with_reducible exact LeO.none _)
      | (with_reducible refine LeO.ite ?_ ?_)
      | (with_reducible refine LeO.bind ?_ (fun _ => ?_))
      | exact ih0 _ _ _ _ _
      | exact ih1 _ _ _ _
      | exact ih2 _ _ _ _ _ _ _ _
      | exact ih3 _
      | exact ih4 _ _ _ _ _ _ _
      | exact ih5 _ _ _ _ _ _
      | exact ih6 _ _ _ _ _ _ _
      | exact ih7 _ _ _ _ _ _
      | exact impl_NextStart.mono _ _ _
      | exact impl_RunesOf.mono _ _
      | exact impl_TextOf.mono _ _
      | exact laws_numberOf.mono _ _
      | exact laws_sameInts.mono _ _ _
      | exact spec_DrawNextStart.mono _ _
      | exact spec_DrawRuneAt.mono _ _
      | exact spec_DrawRunesOf.mono _ _
      | exact spec_DrawTextOf.mono _ _
      | exact spec_NextStart.mono _ _ _
      | exact spec_RuneAt.mono _ _ _
      | exact spec_RunesOf.mono _ _
      | exact spec_TextOf.mono _ _
      | exact LeO.none _
      | refine LeO.ite ?_ ?_
      | refine LeO.bind ?_ (fun _ => ?_)
    · intro y0
      unfold laws_FnRunes.j7
      repeat' first
      | (with_reducible exact ih0 _ _ _ _ _)
      | (with_reducible exact ih1 _ _ _ _)
      | (with_reducible exact ih2 _ _ _ _ _ _ _ _)
      | (with_reducible exact ih3 _)
      | (with_reducible exact ih4 _ _ _ _ _ _ _)
      | (with_reducible exact ih5 _ _ _ _ _ _)
      | (with_reducible exact ih6 _ _ _ _ _ _ _)
      | (with_reducible exact ih7 _ _ _ _ _ _)
      | (with_reducible exact impl_NextStart.mono _ _ _)
      | (with_reducible exact impl_RunesOf.mono _ _)
      | (with_reducible exact impl_TextOf.mono _ _)
      | (with_reducible exact laws_numberOf.mono _ _)
      | (with_reducible exact laws_sameInts.mono _ _ _)
      | (with_reducible exact spec_DrawNextStart.mono _ _)
      | (with_reducible exact spec_DrawRuneAt.mono _ _)
      | (with_reducible exact spec_DrawRunesOf.mono _ _)
      | (with_reducible exact spec_DrawTextOf.mono _ _)
      | (with_reducible exact spec_NextStart.mono _ _ _)
      | (with_reducible exact spec_RuneAt.mono _ _ _)
      | (with_reducible exact spec_RunesOf.mono _ _)
      | (with_reducible exact spec_TextOf.mono _ _)
      | (with_reducible exact LeO.refl _)
      | (with_reducible exact LeO.none _)
      | (with_reducible refine LeO.ite ?_ ?_)
      | (with_reducible refine LeO.bind ?_ (fun _ => ?_))
      | exact ih0 _ _ _ _ _
      | exact ih1 _ _ _ _
      | exact ih2 _ _ _ _ _ _ _ _
      | exact ih3 _
      | exact ih4 _ _ _ _ _ _ _
      | exact ih5 _ _ _ _ _ _
      | exact ih6 _ _ _ _ _ _ _
      | exact ih7 _ _ _ _ _ _
      | exact impl_NextStart.mono _ _ _
      | exact impl_RunesOf.mono _ _
      | exact impl_TextOf.mono _ _
      | exact laws_numberOf.mono _ _
      | exact laws_sameInts.mono _ _ _
      | exact spec_DrawNextStart.mono _ _
      | exact spec_DrawRuneAt.mono _ _
      | exact spec_DrawRunesOf.mono _ _
      | exact spec_DrawTextOf.mono _ _
      | exact spec_NextStart.mono _ _ _
      | exact spec_RuneAt.mono _ _ _
      | exact spec_RunesOf.mono _ _
      | exact spec_TextOf.mono _ _
      | exact LeO.none _
      | refine LeO.ite ?_ ?_
      | refine LeO.bind ?_ (fun _ => ?_)
    · intro y0 y1 y2 y3 y4 y5 y6
      unfold laws_FnRunes.j4
      repeat' first
      | (with_reducible exact ih0 _ _ _ _ _)
      | (with_reducible exact ih1 _ _ _ _)
      | (with_reducible exact ih2 _ _ _ _ _ _ _ _)
      | (with_reducible exact ih3 _)
      | (with_reducible exact ih4 _ _ _ _ _ _ _)
      | (with_reducible exact ih5 _ _ _ _ _ _)
      | (with_reducible exact ih6 _ _ _ _ _ _ _)
      | (with_reducible exact ih7 _ _ _ _ _ _)
      | (with_reducible exact impl_NextStart.mono _ _ _)
      | (with_reducible exact impl_RunesOf.mono _ _)
      | (with_reducible exact impl_TextOf.mono _ _)
      | (with_reducible exact laws_numberOf.mono _ _)
      | (with_reducible exact laws_sameInts.mono _ _ _)
      | (with_reducible exact spec_DrawNextStart.mono _ _)
      | (with_reducible exact spec_DrawRuneAt.mono _ _)
      | (with_reducible exact spec_DrawRunesOf.mono _ _)
      | (with_reducible exact spec_DrawTextOf.mono _ _)
      | (with_reducible exact spec_NextStart.mono _ _ _)
      | (with_reducible exact spec_RuneAt.mono _ _ _)
      | (with_reducible exact spec_RunesOf.mono _ _)
      | (with_reducible exact spec_TextOf.mono _ _)
      | (with_reducible exact LeO.refl _)
      | (with_reducible exact LeO.none _)
      | (with_reducible refine LeO.ite ?_ ?_)
      | (with_reducible refine LeO.bind ?_ (fun _ => ?_))
      | exact ih0 _ _ _ _ _
      | exact ih1 _ _ _ _
      | exact ih2 _ _ _ _ _ _ _ _
      | exact ih3 _
      | exact ih4 _ _ _ _ _ _ _
      | exact ih5 _ _ _ _ _ _
      | exact ih6 _ _ _ _ _ _ _
      | exact ih7 _ _ _ _ _ _
      | exact impl_NextStart.mono _ _ _
      | exact impl_RunesOf.mono _ _
      | exact impl_TextOf.mono _ _
      | exact laws_numberOf.mono _ _
      | exact laws_sameInts.mono _ _ _
      | exact spec_DrawNextStart.mono _ _
      | exact spec_DrawRuneAt.mono _ _
      | exact spec_DrawRunesOf.mono _ _
      | exact spec_DrawTextOf.mono _ _
      | exact spec_NextStart.mono _ _ _
      | exact spec_RuneAt.mono _ _ _
      | exact spec_RunesOf.mono _ _
      | exact spec_TextOf.mono _ _
      | exact LeO.none _
      | refine LeO.ite ?_ ?_
      | refine LeO.bind ?_ (fun _ => ?_)
    · intro y0 y1 y2 y3 y4 y5
      unfold laws_FnRunes.l0
      repeat' first
      | (with_reducible exact ih0 _ _ _ _ _)
      | (with_reducible exact ih1 _ _ _ _)
      | (with_reducible exact ih2 _ _ _ _ _ _ _ _)
      | (with_reducible exact ih3 _)
      | (with_reducible exact ih4 _ _ _ _ _ _ _)
      | (with_reducible exact ih5 _ _ _ _ _ _)
      | (with_reducible exact ih6 _ _ _ _ _ _ _)
      | (with_reducible exact ih7 _ _ _ _ _ _)
      | (with_reducible exact impl_NextStart.mono _ _ _)
      | (with_reducible exact impl_RunesOf.mono _ _)
      | (with_reducible exact impl_TextOf.mono _ _)
      | (with_reducible exact laws_numberOf.mono _ _)
      | (with_reducible exact laws_sameInts.mono _ _ _)
      | (with_reducible exact spec_DrawNextStart.mono _ _)
      | (with_reducible exact spec_DrawRuneAt.mono _ _)
      | (with_reducible exact spec_DrawRunesOf.mono _ _)
      | (with_reducible exact spec_DrawTextOf.mono _ _)
      | (with_reducible exact spec_NextStart.mono _ _ _)
      | (with_reducible exact spec_RuneAt.mono _ _ _)
      | (with_reducible exact spec_RunesOf.mono _ _)
      | (with_reducible exact spec_TextOf.mono _ _)
      | (with_reducible exact LeO.refl _)
      | (with_reducible exact LeO.none _)
      | (with_reducible refine LeO.ite ?_ ?_)
      | (with_reducible refine LeO.bind ?_ (fun _ => ?_))
      | exact ih0 _ _ _ _ _
      | exact ih1 _ _ _ _
      | exact ih2 _ _ _ _ _ _ _ _
      | exact ih3 _
      | exact ih4 _ _ _ _ _ _ _
      | exact ih5 _ _ _ _ _ _
      | exact ih6 _ _ _ _ _ _ _
      | exact ih7 _ _ _ _ _ _
      | exact impl_NextStart.mono _ _ _
      | exact impl_RunesOf.mono _ _
      | exact impl_TextOf.mono _ _
      | exact laws_numberOf.mono _ _
      | exact laws_sameInts.mono _ _ _
      | exact spec_DrawNextStart.mono _ _
      | exact spec_DrawRuneAt.mono _ _
      | exact spec_DrawRunesOf.mono _ _
      | exact spec_DrawTextOf.mono _ _
      | exact spec_NextStart.mono _ _ _
      | exact spec_RuneAt.mono _ _ _
      | exact spec_RunesOf.mono _ _
      | exact spec_TextOf.mono _ _
      | exact LeO.none _
      | refine LeO.ite ?_ ?_
      | refine LeO.bind ?_ (fun _ => ?_)
    · intro y0 y1 y2 y3 y4 y5 y6
      unfold laws_FnRunes.j6
      repeat' first
      | (with_reducible exact ih0 _ _ _ _ _)
      | (with_reducible exact ih1 _ _ _ _)
      | (with_reducible exact ih2 _ _ _ _ _ _ _ _)
      | (with_reducible exact ih3 _)
      | (with_reducible exact ih4 _ _ _ _ _ _ _)
      | (with_reducible exact ih5 _ _ _ _ _ _)
      | (with_reducible exact ih6 _ _ _ _ _ _ _)
      | (with_reducible exact ih7 _ _ _ _ _ _)
      | (with_reducible exact impl_NextStart.mono _ _ _)
      | (with_reducible exact impl_RunesOf.mono _ _)
      | (with_reducible exact impl_TextOf.mono _ _)
      | (with_reducible exact laws_numberOf.mono _ _)
      | (with_reducible exact laws_sameInts.mono _ _ _)
      | (with_reducible exact spec_DrawNextStart.mono _ _)
      | (with_reducible exact spec_DrawRuneAt.mono _ _)
      | (with_reducible exact spec_DrawRunesOf.mono _ _)
      | (with_reducible exact spec_DrawTextOf.mono _ _)
      | (with_reducible exact spec_NextStart.mono _ _ _)
      | (with_reducible exact spec_RuneAt.mono _ _ _)
      | (with_reducible exact spec_RunesOf.mono _ _)
      | (with_reducible exact spec_TextOf.mono _ _)
      | (with_reducible exact LeO.refl _)
      | (with_reducible exact LeO.none _)
      | (with_reducible refine LeO.ite ?_ ?_)
      | (with_reducible refine LeO.bind ?_ (fun _ => ?_))
      | exact ih0 _ _ _ _ _
      | exact ih1 _ _ _ _
      | exact ih2 _ _ _ _ _ _ _ _
      | exact ih3 _
      | exact ih4 _ _ _ _ _ _ _
      | exact ih5 _ _ _ _ _ _
      | exact ih6 _ _ _ _ _ _ _
      | exact ih7 _ _ _ _ _ _
      | exact impl_NextStart.mono _ _ _
      | exact impl_RunesOf.mono _ _
      | exact impl_TextOf.mono _ _
      | exact laws_numberOf.mono _ _
      | exact laws_sameInts.mono _ _ _
      | exact spec_DrawNextStart.mono _ _
      | exact spec_DrawRuneAt.mono _ _
      | exact spec_DrawRunesOf.mono _ _
      | exact spec_DrawTextOf.mono _ _
      | exact spec_NextStart.mono _ _ _
      | exact spec_RuneAt.mono _ _ _
      | exact spec_RunesOf.mono _ _
      | exact spec_TextOf.mono _ _
      | exact LeO.none _
      | refine LeO.ite ?_ ?_
      | refine LeO.bind ?_ (fun _ => ?_)
    · intro y0 y1 y2 y3 y4 y5
      unfold laws_FnRunes.j1
      repeat' first
      | (with_reducible exact ih0 _ _ _ _ _)
      | (with_reducible exact ih1 _ _ _ _)
      | (with_reducible exact ih2 _ _ _ _ _ _ _ _)
      | (with_reducible exact ih3 _)
      | (with_reducible exact ih4 _ _ _ _ _ _ _)
      | (with_reducible exact ih5 _ _ _ _ _ _)
      | (with_reducible exact ih6 _ _ _ _ _ _ _)
      | (with_reducible exact ih7 _ _ _ _ _ _)
      | (with_reducible exact impl_NextStart.mono _ _ _)
      | (with_reducible exact impl_RunesOf.mono _ _)
      | (with_reducible exact impl_TextOf.mono _ _)
      | (with_reducible exact laws_numberOf.mono _ _)
      | (with_reducible exact laws_sameInts.mono _ _ _)
      | (with_reducible exact spec_DrawNextStart.mono _ _)
      | (with_reducible exact spec_DrawRuneAt.mono _ _)
      | (with_reducible exact spec_DrawRunesOf.mono _ _)
      | (with_reducible exact spec_DrawTextOf.mono _ _)
      | (with_reducible exact spec_NextStart.mono _ _ _)
      | (with_reducible exact spec_RuneAt.mono _ _ _)
      | (with_reducible exact spec_RunesOf.mono _ _)
      | (with_reducible exact spec_TextOf.mono _ _)
      | (with_reducible exact LeO.refl _)
      | (with_reducible exact LeO.none _)
      | (with_reducible refine LeO.ite ?_ ?_)
      | (with_reducible refine LeO.bind ?_ (fun _ => ?_))
      | exact ih0 _ _ _ _ _
      | exact ih1 _ _ _ _
      | exact ih2 _ _ _ _ _ _ _ _
      | exact ih3 _
      | exact ih4 _ _ _ _ _ _ _
      | exact ih5 _ _ _ _ _ _
      | exact ih6 _ _ _ _ _ _ _
      | exact ih7 _ _ _ _ _ _
      | exact impl_NextStart.mono _ _ _
      | exact impl_RunesOf.mono _ _
      | exact impl_TextOf.mono _ _
      | exact laws_numberOf.mono _ _
      | exact laws_sameInts.mono _ _ _
      | exact spec_DrawNextStart.mono _ _
      | exact spec_DrawRuneAt.mono _ _
      | exact spec_DrawRunesOf.mono _ _
      | exact spec_DrawTextOf.mono _ _
      | exact spec_NextStart.mono _ _ _
      | exact spec_RuneAt.mono _ _ _
      | exact spec_RunesOf.mono _ _
      | exact spec_TextOf.mono _ _
      | exact LeO.none _
      | refine LeO.ite ?_ ?_
      | refine LeO.bind ?_ (fun _ => ?_)
theorem laws_FnRunes.mono : ∀ a0 a1 k, LeO (laws_FnRunes.f k a0 a1) (laws_FnRunes.f (k + 1) a0 a1) := by
  intro a0 a1 k
  obtain ⟨ih0, ih1, ih2, ih3, ih4, ih5, ih6, ih7⟩ := laws_FnRunes.mono_l k
  unfold laws_FnRunes.f
  repeat' first
      | (with_reducible exact ih0 _ _ _ _ _)
      | (with_reducible exact ih1 _ _ _ _)
      | (with_reducible exact ih2 _ _ _ _ _ _ _ _)
      | (with_reducible exact ih3 _)
      | (with_reducible exact ih4 _ _ _ _ _ _ _)
      | (with_reducible exact ih5 _ _ _ _ _ _)
      | (with_reducible exact ih6 _ _ _ _ _ _ _)
      | (with_reducible exact ih7 _ _ _ _ _ _)
      | (with_reducible exact impl_NextStart.mono _ _ _)
      | (with_reducible exact impl_RunesOf.mono _ _)
      | (with_reducible exact impl_TextOf.mono _ _)
      | (with_reducible exact laws_numberOf.mono _ _)
      | (with_reducible exact laws_sameInts.mono _ _ _)
      | (with_reducible exact spec_DrawNextStart.mono _ _)
      | (with_reducible exact spec_DrawRuneAt.mono _ _)
      | (with_reducible exact spec_DrawRunesOf.mono _ _)
      | (with_reducible exact spec_DrawTextOf.mono _ _)
      | (with_reducible exact spec_NextStart.mono _ _ _)
      | (with_reducible exact spec_RuneAt.mono _ _ _)
      | (with_reducible exact spec_RunesOf.mono _ _)
      | (with_reducible exact spec_TextOf.mono _ _)
      | (with_reducible exact LeO.refl _)
      | (with_reducible exact LeO.none _)
      | (with_reducible refine LeO.ite ?_ ?_)
      | (with_reducible refine LeO.bind ?_ (fun _ => ?_))
      | exact ih0 _ _ _ _ _
      | exact ih1 _ _ _ _
      | exact ih2 _ _ _ _ _ _ _ _
      | exact ih3 _
      | exact ih4 _ _ _ _ _ _ _
      | exact ih5 _ _ _ _ _ _
      | exact ih6 _ _ _ _ _ _ _
      | exact ih7 _ _ _ _ _ _
      | exact impl_NextStart.mono _ _ _
      | exact impl_RunesOf.mono _ _
      | exact impl_TextOf.mono _ _
      | exact laws_numberOf.mono _ _
      | exact laws_sameInts.mono _ _ _
      | exact spec_DrawNextStart.mono _ _
      | exact spec_DrawRuneAt.mono _ _
      | exact spec_DrawRunesOf.mono _ _
      | exact spec_DrawTextOf.mono _ _
      | exact spec_NextStart.mono _ _ _
      | exact spec_RuneAt.mono _ _ _
      | exact spec_RunesOf.mono _ _
      | exact spec_TextOf.mono _ _
      | exact LeO.none _
      | refine LeO.ite ?_ ?_
      | refine LeO.bind ?_ (fun _ => ?_)
set_option maxHeartbeats 8000000 in
set_option maxRecDepth 100000 in
theorem laws_FnRunes.calls (k : Nat) (A0 : Option Addr) (c0 : Nat) (l0 : List Int) (A1 : Option Addr) (c1 : Nat) (l1 : List Int) (r : Bool) (w : World) (tb : Go.Proofs.YtgoedenbekedbaaDoor.TabsU.Tabs0 w) (hr_ : r = true) (hr0 : Kd.C (Kd.int .u8) w A0 l0.length l0) (hc0 : l0.length ≤ c0) (hr1 : Kd.C (Kd.int .u8) w A1 l1.length l1) (hc1 : l1.length ≤ c1) (h : laws_FnRunes.f k l0 l1 = some r) :
    Calls Tryd.prog 6 #[.slice A0 l0.length c0, .slice A1 l1.length c1] w fun e w' => e = .returned (.bool r) ∧ Below w.heap.size w w' := by
  have HR_ := Aside0.mk hr_
  clear hr_
  have TB := Aside0.mk tb
  clear tb
  have HR0 := Aside0.mk hr0
  have HC0 := Aside0.mk hc0
  clear hr0 hc0
  have HR1 := Aside0.mk hr1
  have HC1 := Aside0.mk hc1
  clear hr1 hc1
  have HB := Aside0.mk (Below.refl w.heap.size w)
  have H : (if (wrap64 ((l0.length : Int) + (l1.length : Int))) > 1048576 then (some true) else ((spec_DrawRunesOf.f k l0).bind fun t291 => ((impl_RunesOf.f k t291).bind fun bt292 => ((spec_RunesOf.f k t291).bind fun bt296 => (if (bt292.2 != bt296.2) = true then (laws_FnRunes.j0 k l1 t291 bt292.1 bt292.2 true) else ((laws_sameInts.f k bt292.1 bt296.1).bind fun t300 => (laws_FnRunes.j0 k l1 t291 bt292.1 bt292.2 (!t300)))))))) = some r := h
  clear h
  by_cases c3 : (wrap64 ((l0.length : Int) + (l1.length : Int))) > 1048576
  · rw [if_pos c3] at H
    have c3b0 : decide (1048576 < (wrap64 ((l0.length : Int) + (l1.length : Int)))) = true := decide_eq_true c3
    clear c3
    as_aux_lemma =>
      obtain rfl := Option.some.inj H
      go_enter Tryd.func6, Tryd.ntmps6
      go_wp2
      repeat (go_quiet (fail); try go_wp2)
      all_goals (try exact absurd ‹some undef = some (Value.bool _)› (by simp [undef]))
      go_ret
      exact ⟨by first | rfl | (simp [errW_none, errW_some] <;> rfl) | (simp [*, errW_none, errW_some] <;> rfl), by repeat (first | (with_reducible first | exact HB.out | apply below_alloc | apply pw_below_drewN | apply below_drew1) | exact HB.out)⟩
  · rw [if_neg c3] at H
    have c3b0 : decide (1048576 < (wrap64 ((l0.length : Int) + (l1.length : Int)))) = false := decide_eq_false c3
    clear c3
    replace H := Option.bind_eq_some_iff.mp H
    obtain ⟨t291, A40, H⟩ := H
    replace H : ((impl_RunesOf.f k t291).bind fun bt292 => ((spec_RunesOf.f k t291).bind fun bt296 => (if (bt292.2 != bt296.2) = true then (laws_FnRunes.j0 k l1 t291 bt292.1 bt292.2 true) else ((laws_sameInts.f k bt292.1 bt296.1).bind fun t300 => (laws_FnRunes.j0 k l1 t291 bt292.1 bt292.2 (!t300)))))) = some r := H
    have A4 := Aside0.mk A40
    clear A40
    replace H := Option.bind_eq_some_iff.mp H
    obtain ⟨⟨t292, t293⟩, A50, H⟩ := H
    replace H : ((spec_RunesOf.f k t291).bind fun bt296 => (if (t293 != bt296.2) = true then (laws_FnRunes.j0 k l1 t291 t292 t293 true) else ((laws_sameInts.f k t292 bt296.1).bind fun t300 => (laws_FnRunes.j0 k l1 t291 t292 t293 (!t300))))) = some r := H
    have A5 := Aside0.mk A50
    clear A50
    replace H := Option.bind_eq_some_iff.mp H
    obtain ⟨⟨t296, t297⟩, A60, H⟩ := H
    replace H : (if (t293 != t297) = true then (laws_FnRunes.j0 k l1 t291 t292 t293 true) else ((laws_sameInts.f k t292 t296).bind fun t300 => (laws_FnRunes.j0 k l1 t291 t292 t293 (!t300)))) = some r := H
    have A6 := Aside0.mk A60
    clear A60
    have HC7 := Aside0.mk H
    clear H
    go_enter Tryd.func6, Tryd.ntmps6
    go_upto_region 6 with (first | (go_at_call 21; (with_reducible refine (spec_DrawRunesOf.calls k _ _ l0 t291 _ ?side1 ?side2 A4.out).mono ?_); (case side1 => repeat (first | exact HR0.out | (with_reducible refine Kd.C_alloc ?_ _) | (with_reducible refine Kd.C_drewN ?_ _) | (with_reducible refine Kd.C_drew ?_))); (case side2 => exact HC0.out); rintro e w8 ⟨rfl, hb⟩; replace HB := bS_ HB hb; (try clear hb)) | (go_at_call 22; (with_reducible refine (impl_RunesOf.calls k t291 t292 t293 _ ?side1 A5.out).mono ?_); (case side1 => exact Go.Proofs.YtgoedenbekedbaaDoor.TabsU.Tabs0.of_below TB.out (bU_ HB)); rintro e w9 ⟨v294, rfl, ho0, hb⟩; have HO295 := Aside0.mk (Kd.R_lower ho0 (below_size (bU_ HB))); replace HB := bS_ HB hb; (try clear hb); (try clear ho0)) | (go_at_call 23; (with_reducible refine (spec_RunesOf.calls k t291 t296 t297 _ A6.out).mono ?_); rintro e w10 ⟨v298, rfl, ho0, hb⟩; have HO299 := Aside0.mk (Kd.R_lower (Kd.R_new' ho0 (Kd.R_lt (by (with_reducible repeat (first | apply Kd.R_alloc | apply Kd.R_drewN | apply Kd.R_drew)); exact HO295.out))) (below_size (bU_ HB))); replace HO295 := Aside0.mk (Kd.R_elder' (by (with_reducible repeat (first | apply Kd.R_alloc | apply Kd.R_drewN | apply Kd.R_drew)); exact HO295.out) (Kd.R_base ho0) hb); replace HB := bS_ HB hb; (try clear hb); (try clear ho0)))
    repeat (go_quiet (fail); go_upto_region 6 with (first | (go_at_call 21; (with_reducible refine (spec_DrawRunesOf.calls k _ _ l0 t291 _ ?side1 ?side2 A4.out).mono ?_); (case side1 => repeat (first | exact HR0.out | (with_reducible refine Kd.C_alloc ?_ _) | (with_reducible refine Kd.C_drewN ?_ _) | (with_reducible refine Kd.C_drew ?_))); (case side2 => exact HC0.out); rintro e w8 ⟨rfl, hb⟩; replace HB := bS_ HB hb; (try clear hb)) | (go_at_call 22; (with_reducible refine (impl_RunesOf.calls k t291 t292 t293 _ ?side1 A5.out).mono ?_); (case side1 => exact Go.Proofs.YtgoedenbekedbaaDoor.TabsU.Tabs0.of_below TB.out (bU_ HB)); rintro e w9 ⟨v294, rfl, ho0, hb⟩; have HO295 := Aside0.mk (Kd.R_lower ho0 (below_size (bU_ HB))); replace HB := bS_ HB hb; (try clear hb); (try clear ho0)) | (go_at_call 23; (with_reducible refine (spec_RunesOf.calls k t291 t296 t297 _ A6.out).mono ?_); rintro e w10 ⟨v298, rfl, ho0, hb⟩; have HO299 := Aside0.mk (Kd.R_lower (Kd.R_new' ho0 (Kd.R_lt (by (with_reducible repeat (first | apply Kd.R_alloc | apply Kd.R_drewN | apply Kd.R_drew)); exact HO295.out))) (below_size (bU_ HB))); replace HO295 := Aside0.mk (Kd.R_elder' (by (with_reducible repeat (first | apply Kd.R_alloc | apply Kd.R_drewN | apply Kd.R_drew)); exact HO295.out) (Kd.R_base ho0) hb); replace HB := bS_ HB hb; (try clear hb); (try clear ho0))))
    (try simp only [Act.put, List.setIfInBounds_toArray, List.set_cons_zero, List.set_cons_succ])
    go_cut [72] (fun v72 wc => ∃ (kq : Nat) (x72_6 : Bool), v72 = .bool x72_6 ∧ Aside0 (laws_FnRunes.j0 kq l1 t291 t292 t293 x72_6 = some r) ∧ Aside0 (kq ≤ k) ∧ Aside0 (Kd.R (Kd.int .i64) 3 wc w.heap.size (fun _ => True) v294 t292) ∧ Aside0 (Below w.heap.size w wc))
    case first =>
      as_aux_lemma =>
        have H := HC7.out
        clear HC7
        by_cases c11 : (t293 != t297) = true
        · rw [if_pos c11] at H
          have c11b0 : (t293 != t297) = true := c11
          (try (have c11b1 : decide (t293 = t297) = false := by simpa using c11))
          (try (have c11b2 : (t293 == t297) = false := by simpa using c11))
          (try (have c11b3 : ¬ (t293 = t297) := by simpa using c11))
          clear c11
          (first | rw [c11b0] | (simp only [i64_w, i32_w]; rw [c11b0]) | skip)
          exfalso
          cases k with
          | zero => exact absurd H (by simp [laws_FnRunes.j0])
          | succ kz_ => rw [laws_FnRunes.j0, if_pos rfl] at H; exact absurd ((Option.some.inj H).trans HR_.out) (by decide)
        · rw [if_neg c11] at H
          have c11b0 : (t293 != t297) = false := by simpa using c11
          (try (have c11b1 : decide (t293 = t297) = true := by simpa using c11))
          (try (have c11b2 : (t293 == t297) = true := by simpa using c11))
          clear c11
          (first | rw [c11b0] | (simp only [i64_w, i32_w]; rw [c11b0]) | skip)
          replace H := Option.bind_eq_some_iff.mp H
          obtain ⟨t300, A120, H⟩ := H
          replace H : (laws_FnRunes.j0 k l1 t291 t292 t293 (!t300)) = some r := H
          have A12 := Aside0.mk A120
          clear A120
          as_aux_lemma =>
            have H' := Aside0.mk H
            clear H
            obtain ⟨Ao13, co13, eo13⟩ := Kd.R_slice HO295.out
            subst eo13
            obtain ⟨Ao14, co14, eo14⟩ := Kd.R_slice HO299.out
            subst eo14
            go_wp2_with (first | (go_at_call 24; (with_reducible refine (laws_sameInts.calls k _ _ t292 _ _ t296 t300 _ ?side1 ?side2 ?side3 ?side4 A12.out).mono ?_); (case side1 => repeat (first | exact (Kd.R_reads' HO295.out).2.2 | (with_reducible refine Kd.C_alloc ?_ _) | (with_reducible refine Kd.C_drewN ?_ _) | (with_reducible refine Kd.C_drew ?_))); (case side2 => exact (Kd.R_reads' HO295.out).2.1); (case side3 => repeat (first | exact (Kd.R_reads' HO299.out).2.2 | (with_reducible refine Kd.C_alloc ?_ _) | (with_reducible refine Kd.C_drewN ?_ _) | (with_reducible refine Kd.C_drew ?_))); (case side4 => exact (Kd.R_reads' HO299.out).2.1); rintro e w' ⟨rfl, ⟨nd, rfl⟩⟩; (try first | exact ⟨rfl, _, World.drewN_drewN _ _ _⟩ | exact ⟨rfl, _, Eq.trans (World.drewN_drewN _ _ _) (congrArg (World.drewN _) (Nat.add_assoc _ _ _))⟩)))
            repeat (go_quiet (fail); try go_wp2_with (first | (go_at_call 24; (with_reducible refine (laws_sameInts.calls k _ _ t292 _ _ t296 t300 _ ?side1 ?side2 ?side3 ?side4 A12.out).mono ?_); (case side1 => repeat (first | exact (Kd.R_reads' HO295.out).2.2 | (with_reducible refine Kd.C_alloc ?_ _) | (with_reducible refine Kd.C_drewN ?_ _) | (with_reducible refine Kd.C_drew ?_))); (case side2 => exact (Kd.R_reads' HO295.out).2.1); (case side3 => repeat (first | exact (Kd.R_reads' HO299.out).2.2 | (with_reducible refine Kd.C_alloc ?_ _) | (with_reducible refine Kd.C_drewN ?_ _) | (with_reducible refine Kd.C_drew ?_))); (case side4 => exact (Kd.R_reads' HO299.out).2.1); rintro e w' ⟨rfl, ⟨nd, rfl⟩⟩; (try first | exact ⟨rfl, _, World.drewN_drewN _ _ _⟩ | exact ⟨rfl, _, Eq.trans (World.drewN_drewN _ _ _) (congrArg (World.drewN _) (Nat.add_assoc _ _ _))⟩))))
            all_goals (try exact absurd ‹some undef = some (Value.bool _)› (by simp [undef]))
            go_meet
            case rel => exact ⟨_, (!t300), (by first | rfl | (simp; done) | (simp [*]; done)), H', ⟨by first | omega | exact Nat.le_refl _⟩, ⟨by (with_reducible repeat (first | apply Kd.R_alloc | apply Kd.R_drewN | apply Kd.R_drew)); exact Kd.R_mono HO295.out (fun _ hk => trivial)⟩, ⟨by repeat (first | (with_reducible first | exact HB.out | apply below_alloc | apply pw_below_drewN | apply below_drew1) | exact HB.out)⟩⟩
    case rest =>
      as_aux_lemma =>
        clear HC7
        try clear c1
        try clear p2
        try clear c3
        try clear c3b0
        try clear c6
        try clear p6
        try clear c11
        try clear c11b0
        try clear c11b1
        try clear c11b2
        obtain ⟨kq, x72_6, rfl, HA, HJ6, HO_6, HB⟩ := hcut
        cases kq with
        | zero => exact absurd HA.out (by simp [laws_FnRunes.j0])
        | succ kj6 =>
          have H := HA.out
          clear HA
          simp only [laws_FnRunes.j0] at H
          by_cases c15 : x72_6 = true
          · subst c15
            have H1 : (some false) = some r := by rw [if_pos rfl] at H; exact H
            clear H
            have H := H1
            clear H1
            exact absurd ((Option.some.inj H).trans HR_.out) (by decide)
          · replace c15 := Bool.eq_false_iff.mpr c15
            subst c15
            have H1 : (if t293 = true then ((impl_TextOf.f kj6 t292).bind fun bt301 => ((laws_numberOf.f kj6 l1).bind fun t303 => (if (wrap64 ((t291.size : Int) + 1)) = 0 then (none) else ((impl_NextStart.f kj6 t291 (Int.tmod t303 (wrap64 ((t291.size : Int) + 1)))).bind fun bt304 => (if bt301.2 = true then (if bt301.1.toList = t291.toList then (laws_FnRunes.j1 kj6 l1 t291 t292 t293 bt304.1 (!bt304.2)) else (laws_FnRunes.j1 kj6 l1 t291 t292 t293 bt304.1 true)) else (laws_FnRunes.j1 kj6 l1 t291 t292 t293 bt304.1 true)))))) else (laws_FnRunes.j2 kj6 l1 t291 t292 t293)) = some r := by rw [if_neg (show ¬ (false = true) by decide)] at H; exact H
            clear H
            have H := H1
            clear H1
            have HC16 := Aside0.mk H
            clear H
            go_upto_if 73 with (fail)
            repeat (go_quiet (fail); go_upto_if 73 with (fail))
            go_cut [] (fun wc => ∃ (kq : Nat), Aside0 (laws_FnRunes.j2 kq l1 t291 t292 t293 = some r) ∧ Aside0 (kq ≤ kj6) ∧ Aside0 (Kd.R (Kd.int .i64) 3 wc w.heap.size (fun _ => True) v294 t292) ∧ Aside0 (Below w.heap.size w wc))
            case first =>
              as_aux_lemma =>
                have H := HC16.out
                clear HC16
                by_cases c17 : t293 = true
                · subst c17
                  have H1 : ((impl_TextOf.f kj6 t292).bind fun bt301 => ((laws_numberOf.f kj6 l1).bind fun t303 => (if (wrap64 ((t291.size : Int) + 1)) = 0 then (none) else ((impl_NextStart.f kj6 t291 (Int.tmod t303 (wrap64 ((t291.size : Int) + 1)))).bind fun bt304 => (if bt301.2 = true then (if bt301.1.toList = t291.toList then (laws_FnRunes.j1 kj6 l1 t291 t292 true bt304.1 (!bt304.2)) else (laws_FnRunes.j1 kj6 l1 t291 t292 true bt304.1 true)) else (laws_FnRunes.j1 kj6 l1 t291 t292 true bt304.1 true)))))) = some r := by rw [if_pos rfl] at H; exact H
                  clear H
                  have H := H1
                  clear H1
                  replace H := Option.bind_eq_some_iff.mp H
                  obtain ⟨⟨t301, t302⟩, A180, H⟩ := H
                  replace H : ((laws_numberOf.f kj6 l1).bind fun t303 => (if (wrap64 ((t291.size : Int) + 1)) = 0 then (none) else ((impl_NextStart.f kj6 t291 (Int.tmod t303 (wrap64 ((t291.size : Int) + 1)))).bind fun bt304 => (if t302 = true then (if t301.toList = t291.toList then (laws_FnRunes.j1 kj6 l1 t291 t292 true bt304.1 (!bt304.2)) else (laws_FnRunes.j1 kj6 l1 t291 t292 true bt304.1 true)) else (laws_FnRunes.j1 kj6 l1 t291 t292 true bt304.1 true))))) = some r := H
                  have A18 := Aside0.mk A180
                  clear A180
                  replace H := Option.bind_eq_some_iff.mp H
                  obtain ⟨t303, A190, H⟩ := H
                  replace H : (if (wrap64 ((t291.size : Int) + 1)) = 0 then (none) else ((impl_NextStart.f kj6 t291 (Int.tmod t303 (wrap64 ((t291.size : Int) + 1)))).bind fun bt304 => (if t302 = true then (if t301.toList = t291.toList then (laws_FnRunes.j1 kj6 l1 t291 t292 true bt304.1 (!bt304.2)) else (laws_FnRunes.j1 kj6 l1 t291 t292 true bt304.1 true)) else (laws_FnRunes.j1 kj6 l1 t291 t292 true bt304.1 true)))) = some r := H
                  have A19 := Aside0.mk A190
                  clear A190
                  by_cases c20 : (wrap64 ((t291.size : Int) + 1)) = 0
                  · rw [if_pos c20] at H
                    exact absurd H (by simp)
                  · rw [if_neg c20] at H
                    have c20b0 : ((wrap64 ((t291.size : Int) + 1)) == 0) = false := beq_eq_false_iff_ne.mpr c20
                    have c20b1 : ((wrap64 ((t291.size : Int) + 1)) != 0) = true := bne_iff_ne.mpr c20
                    (first | rw [c20b0] | (simp only [i64_w, i32_w]; rw [c20b0]) | skip)
                    replace H := Option.bind_eq_some_iff.mp H
                    obtain ⟨⟨t304, t305⟩, A210, H⟩ := H
                    replace H : (if t302 = true then (if t301.toList = t291.toList then (laws_FnRunes.j1 kj6 l1 t291 t292 true t304 (!t305)) else (laws_FnRunes.j1 kj6 l1 t291 t292 true t304 true)) else (laws_FnRunes.j1 kj6 l1 t291 t292 true t304 true)) = some r := H
                    have A21 := Aside0.mk A210
                    clear A210
                    have HC22 := Aside0.mk H
                    clear H
                    obtain ⟨Ao23, co23, eo23⟩ := Kd.R_slice HO_6.out
                    subst eo23
                    go_upto_region 11 with (first | (go_at_call 25; (with_reducible refine (impl_TextOf.calls kj6 _ _ t292 t301 t302 _ ?side1 ?side2 A18.out).mono ?_); (case side1 => repeat (first | exact (Kd.R_reads' HO_6.out).2.2 | (with_reducible refine Kd.C_alloc ?_ _) | (with_reducible refine Kd.C_drewN ?_ _) | (with_reducible refine Kd.C_drew ?_))); (case side2 => exact (Kd.R_reads' HO_6.out).2.1); rintro e w' ⟨rfl, ⟨nd, rfl⟩⟩; (try first | exact ⟨rfl, _, World.drewN_drewN _ _ _⟩ | exact ⟨rfl, _, Eq.trans (World.drewN_drewN _ _ _) (congrArg (World.drewN _) (Nat.add_assoc _ _ _))⟩)) | (go_at_call 27; (with_reducible refine (laws_numberOf.calls kj6 _ _ l1 t303 _ ?side1 ?side2 A19.out).mono ?_); (case side1 => repeat (first | exact (Kd.C_below HR1.out (bU_ HB)) | (with_reducible refine Kd.C_alloc ?_ _) | (with_reducible refine Kd.C_drewN ?_ _) | (with_reducible refine Kd.C_drew ?_))); (case side2 => exact HC1.out); rintro e w' ⟨rfl, ⟨nd, rfl⟩⟩; (try first | exact ⟨rfl, _, World.drewN_drewN _ _ _⟩ | exact ⟨rfl, _, Eq.trans (World.drewN_drewN _ _ _) (congrArg (World.drewN _) (Nat.add_assoc _ _ _))⟩)) | (go_at_call 26; (with_reducible refine (impl_NextStart.calls kj6 t291 (Int.tmod t303 (wrap64 ((t291.size : Int) + 1))) t304 t305 _ A21.out).mono ?_); rintro e w' ⟨rfl, ⟨nd, rfl⟩⟩; (try first | exact ⟨rfl, _, World.drewN_drewN _ _ _⟩ | exact ⟨rfl, _, Eq.trans (World.drewN_drewN _ _ _) (congrArg (World.drewN _) (Nat.add_assoc _ _ _))⟩)))
                    repeat (go_quiet (fail); go_upto_region 11 with (first | (go_at_call 25; (with_reducible refine (impl_TextOf.calls kj6 _ _ t292 t301 t302 _ ?side1 ?side2 A18.out).mono ?_); (case side1 => repeat (first | exact (Kd.R_reads' HO_6.out).2.2 | (with_reducible refine Kd.C_alloc ?_ _) | (with_reducible refine Kd.C_drewN ?_ _) | (with_reducible refine Kd.C_drew ?_))); (case side2 => exact (Kd.R_reads' HO_6.out).2.1); rintro e w' ⟨rfl, ⟨nd, rfl⟩⟩; (try first | exact ⟨rfl, _, World.drewN_drewN _ _ _⟩ | exact ⟨rfl, _, Eq.trans (World.drewN_drewN _ _ _) (congrArg (World.drewN _) (Nat.add_assoc _ _ _))⟩)) | (go_at_call 27; (with_reducible refine (laws_numberOf.calls kj6 _ _ l1 t303 _ ?side1 ?side2 A19.out).mono ?_); (case side1 => repeat (first | exact (Kd.C_below HR1.out (bU_ HB)) | (with_reducible refine Kd.C_alloc ?_ _) | (with_reducible refine Kd.C_drewN ?_ _) | (with_reducible refine Kd.C_drew ?_))); (case side2 => exact HC1.out); rintro e w' ⟨rfl, ⟨nd, rfl⟩⟩; (try first | exact ⟨rfl, _, World.drewN_drewN _ _ _⟩ | exact ⟨rfl, _, Eq.trans (World.drewN_drewN _ _ _) (congrArg (World.drewN _) (Nat.add_assoc _ _ _))⟩)) | (go_at_call 26; (with_reducible refine (impl_NextStart.calls kj6 t291 (Int.tmod t303 (wrap64 ((t291.size : Int) + 1))) t304 t305 _ A21.out).mono ?_); rintro e w' ⟨rfl, ⟨nd, rfl⟩⟩; (try first | exact ⟨rfl, _, World.drewN_drewN _ _ _⟩ | exact ⟨rfl, _, Eq.trans (World.drewN_drewN _ _ _) (congrArg (World.drewN _) (Nat.add_assoc _ _ _))⟩))))
                    (try simp only [Act.put, List.setIfInBounds_toArray, List.set_cons_zero, List.set_cons_succ])
                    go_cut [100] (fun v100 wc => ∃ (kq : Nat) (x100_21 : Bool), v100 = .bool x100_21 ∧ Aside0 (laws_FnRunes.j1 kq l1 t291 t292 true t304 x100_21 = some r) ∧ Aside0 (kq ≤ kj6) ∧ Aside0 (Kd.R (Kd.int .i64) 3 wc w.heap.size (fun _ => True) (.slice Ao23 t292.length co23) t292) ∧ Aside0 (Below w.heap.size w wc))
                    case first =>
                      as_aux_lemma =>
                        have H := HC22.out
                        clear HC22
                        by_cases c24 : t302 = true
                        · subst c24
                          have H1 : (if t301.toList = t291.toList then (laws_FnRunes.j1 kj6 l1 t291 t292 true t304 (!t305)) else (laws_FnRunes.j1 kj6 l1 t291 t292 true t304 true)) = some r := by rw [if_pos rfl] at H; exact H
                          clear H
                          have H := H1
                          clear H1
                          by_cases c25 : t301.toList = t291.toList
                          · rw [if_pos c25] at H
                            have c25b0 : (t301.toList == t291.toList) = true := beq_iff_eq.mpr c25
                            have c25b1 : (t301.toList != t291.toList) = false := bne_eq_false_iff_eq.mpr c25
                            clear c25
                            (first | rw [c25b0] | (simp only [i64_w, i32_w]; rw [c25b0]) | skip)
                            as_aux_lemma =>
                              have H' := Aside0.mk H
                              clear H
                              go_wp2
                              repeat (go_quiet (fail); try go_wp2)
                              all_goals (try exact absurd ‹some undef = some (Value.bool _)› (by simp [undef]))
                              go_meet
                              case rel => exact ⟨_, (!t305), (by first | rfl | (simp; done) | (simp [*]; done)), H', ⟨by have := HJ6.out; first | omega | exact Nat.le_refl _⟩, ⟨by (with_reducible repeat (first | apply Kd.R_alloc | apply Kd.R_drewN | apply Kd.R_drew)); exact HO_6.out⟩, ⟨by repeat (first | (with_reducible first | exact HB.out | apply below_alloc | apply pw_below_drewN | apply below_drew1) | exact HB.out)⟩⟩
                          · rw [if_neg c25] at H
                            have c25b0 : (t301.toList == t291.toList) = false := beq_eq_false_iff_ne.mpr c25
                            have c25b1 : (t301.toList != t291.toList) = true := bne_iff_ne.mpr c25
                            (first | rw [c25b0] | (simp only [i64_w, i32_w]; rw [c25b0]) | skip)
                            exfalso
                            cases kj6 with
                            | zero => exact absurd H (by simp [laws_FnRunes.j1])
                            | succ kz_ => rw [laws_FnRunes.j1, if_pos rfl] at H; exact absurd ((Option.some.inj H).trans HR_.out) (by decide)
                        · replace c24 := Bool.eq_false_iff.mpr c24
                          subst c24
                          have H1 : (laws_FnRunes.j1 kj6 l1 t291 t292 true t304 true) = some r := by rw [if_neg (show ¬ (false = true) by decide)] at H; exact H
                          clear H
                          have H := H1
                          clear H1
                          exfalso
                          cases kj6 with
                          | zero => exact absurd H (by simp [laws_FnRunes.j1])
                          | succ kz_ => rw [laws_FnRunes.j1, if_pos rfl] at H; exact absurd ((Option.some.inj H).trans HR_.out) (by decide)
                    case rest =>
                      as_aux_lemma =>
                        clear HC22
                        try clear c1
                        try clear c2
                        try clear p2
                        try clear c3
                        try clear c3b0
                        try clear c6
                        try clear p6
                        try clear c11
                        try clear c11b0
                        try clear c11b1
                        try clear c11b2
                        try clear c15
                        try clear c17
                        try clear c20
                        try clear c20b0
                        try clear c20b1
                        try clear c24
                        try clear c25
                        try clear c25b0
                        try clear c25b1
                        try clear p2
                        try clear p6
                        obtain ⟨kq, x100_21, rfl, HA, HJ21, HO_6, HB⟩ := hcut
                        cases kq with
                        | zero => exact absurd HA.out (by simp [laws_FnRunes.j1])
                        | succ kj21 =>
                          have H := HA.out
                          clear HA
                          simp only [laws_FnRunes.j1] at H
                          by_cases c26 : x100_21 = true
                          · subst c26
                            have H1 : (some false) = some r := by rw [if_pos rfl] at H; exact H
                            clear H
                            have H := H1
                            clear H1
                            exact absurd ((Option.some.inj H).trans HR_.out) (by decide)
                          · replace c26 := Bool.eq_false_iff.mpr c26
                            subst c26
                            have H1 : (if t304 < (t291.size : Int) then ((impl_RuneAt.f t291 t304).bind fun bt306 => (if bt306.2.2 = true then (laws_FnRunes.j2 kj21 l1 t291 t292 true) else (some false))) else (laws_FnRunes.j2 kj21 l1 t291 t292 true)) = some r := by rw [if_neg (show ¬ (false = true) by decide)] at H; exact H
                            clear H
                            have H := H1
                            clear H1
                            by_cases c27 : t304 < (t291.size : Int)
                            · rw [if_pos c27] at H
                              have c27b0 : decide (t304 < (t291.size : Int)) = true := decide_eq_true c27
                              clear c27
                              replace H := Option.bind_eq_some_iff.mp H
                              obtain ⟨⟨t306, t307, t308⟩, A280, H⟩ := H
                              replace H : (if t308 = true then (laws_FnRunes.j2 kj21 l1 t291 t292 true) else (some false)) = some r := H
                              have A28 := Aside0.mk A280
                              clear A280
                              by_cases c29 : t308 = true
                              · subst c29
                                have H1 : (laws_FnRunes.j2 kj21 l1 t291 t292 true) = some r := by rw [if_pos rfl] at H; exact H
                                clear H
                                have H := H1
                                clear H1
                                as_aux_lemma =>
                                  have H' := Aside0.mk H
                                  clear H
                                  go_wp2_with (first | (go_at_call 28; (with_reducible refine (impl_RuneAt.calls t291 t304 t306 t307 true _ ?side1 A28.out).mono ?_); (case side1 => exact Go.Proofs.YtgoedenbekedbaaDoor.TabsU.Tabs0.of_below TB.out (bU_ HB)); rintro e w30 ⟨rfl, hb⟩; replace HO_6 := Aside0.mk (Kd.R_below (by (with_reducible repeat (first | apply Kd.R_alloc | apply Kd.R_drewN | apply Kd.R_drew)); exact HO_6.out) hb); replace HB := bS_ HB hb; (try clear hb)))
                                  repeat (go_quiet (fail); try go_wp2_with (first | (go_at_call 28; (with_reducible refine (impl_RuneAt.calls t291 t304 t306 t307 true _ ?side1 A28.out).mono ?_); (case side1 => exact Go.Proofs.YtgoedenbekedbaaDoor.TabsU.Tabs0.of_below TB.out (bU_ HB)); rintro e w30 ⟨rfl, hb⟩; replace HO_6 := Aside0.mk (Kd.R_below (by (with_reducible repeat (first | apply Kd.R_alloc | apply Kd.R_drewN | apply Kd.R_drew)); exact HO_6.out) hb); replace HB := bS_ HB hb; (try clear hb))))
                                  all_goals (try exact absurd ‹some undef = some (Value.bool _)› (by simp [undef]))
                                  go_meet
                                  case rel => exact ⟨_, H', ⟨by have := HJ6.out; have := HJ21.out; first | omega | exact Nat.le_refl _⟩, ⟨by (with_reducible repeat (first | apply Kd.R_alloc | apply Kd.R_drewN | apply Kd.R_drew)); exact HO_6.out⟩, ⟨by repeat (first | (with_reducible first | exact HB.out | apply below_alloc | apply pw_below_drewN | apply below_drew1) | exact HB.out)⟩⟩
                              · replace c29 := Bool.eq_false_iff.mpr c29
                                subst c29
                                have H1 : (some false) = some r := by rw [if_neg (show ¬ (false = true) by decide)] at H; exact H
                                clear H
                                have H := H1
                                clear H1
                                exact absurd ((Option.some.inj H).trans HR_.out) (by decide)
                            · rw [if_neg c27] at H
                              have c27b0 : decide (t304 < (t291.size : Int)) = false := decide_eq_false c27
                              clear c27
                              as_aux_lemma =>
                                have H' := Aside0.mk H
                                clear H
                                go_wp2
                                repeat (go_quiet (fail); try go_wp2)
                                all_goals (try exact absurd ‹some undef = some (Value.bool _)› (by simp [undef]))
                                go_meet
                                case rel => exact ⟨_, H', ⟨by have := HJ6.out; have := HJ21.out; first | omega | exact Nat.le_refl _⟩, ⟨by (with_reducible repeat (first | apply Kd.R_alloc | apply Kd.R_drewN | apply Kd.R_drew)); exact HO_6.out⟩, ⟨by repeat (first | (with_reducible first | exact HB.out | apply below_alloc | apply pw_below_drewN | apply below_drew1) | exact HB.out)⟩⟩
                · replace c17 := Bool.eq_false_iff.mpr c17
                  subst c17
                  have H1 : (laws_FnRunes.j2 kj6 l1 t291 t292 false) = some r := by rw [if_neg (show ¬ (false = true) by decide)] at H; exact H
                  clear H
                  have H := H1
                  clear H1
                  as_aux_lemma =>
                    have H' := Aside0.mk H
                    clear H
                    go_wp2
                    repeat (go_quiet (fail); try go_wp2)
                    all_goals (try exact absurd ‹some undef = some (Value.bool _)› (by simp [undef]))
                    go_meet
                    case rel => exact ⟨_, H', ⟨by have := HJ6.out; first | omega | exact Nat.le_refl _⟩, ⟨by (with_reducible repeat (first | apply Kd.R_alloc | apply Kd.R_drewN | apply Kd.R_drew)); exact HO_6.out⟩, ⟨by repeat (first | (with_reducible first | exact HB.out | apply below_alloc | apply pw_below_drewN | apply below_drew1) | exact HB.out)⟩⟩
            case rest =>
              as_aux_lemma =>
                clear HC16
                try clear c1
                try clear c2
                try clear p2
                try clear c3
                try clear c3b0
                try clear c6
                try clear p6
                try clear c11
                try clear c11b0
                try clear c11b1
                try clear c11b2
                try clear c15
                try clear c17
                try clear c20
                try clear c20b0
                try clear c20b1
                try clear c24
                try clear c25
                try clear c25b0
                try clear c25b1
                try clear c26
                try clear c27
                try clear c27b0
                try clear c29
                try clear p2
                try clear p6
                obtain ⟨kq, HA, HJ15, HO_6, HB⟩ := hcut
                cases kq with
                | zero => exact absurd HA.out (by simp [laws_FnRunes.j2])
                | succ kj15 =>
                  have H := HA.out
                  clear HA
                  simp only [laws_FnRunes.j2] at H
                  replace H := Option.bind_eq_some_iff.mp H
                  obtain ⟨t309, A310, H⟩ := H
                  replace H : ((impl_TextOf.f kj15 t309).bind fun bt312 => ((spec_TextOf.f kj15 t309).bind fun bt314 => (if (bt312.2 != bt314.2) = true then (laws_FnRunes.j3 kj15 l1 t291 t292 t293 t309 bt312.1 bt312.2 true) else (laws_FnRunes.j3 kj15 l1 t291 t292 t293 t309 bt312.1 bt312.2 (bt312.1.toList != bt314.1.toList))))) = some r := H
                  have A31 := Aside0.mk A310
                  clear A310
                  replace H := Option.bind_eq_some_iff.mp H
                  obtain ⟨⟨t312, t313⟩, A320, H⟩ := H
                  replace H : ((spec_TextOf.f kj15 t309).bind fun bt314 => (if (t313 != bt314.2) = true then (laws_FnRunes.j3 kj15 l1 t291 t292 t293 t309 t312 t313 true) else (laws_FnRunes.j3 kj15 l1 t291 t292 t293 t309 t312 t313 (t312.toList != bt314.1.toList)))) = some r := H
                  have A32 := Aside0.mk A320
                  clear A320
                  replace H := Option.bind_eq_some_iff.mp H
                  obtain ⟨⟨t314, t315⟩, A330, H⟩ := H
                  replace H : (if (t313 != t315) = true then (laws_FnRunes.j3 kj15 l1 t291 t292 t293 t309 t312 t313 true) else (laws_FnRunes.j3 kj15 l1 t291 t292 t293 t309 t312 t313 (t312.toList != t314.toList))) = some r := H
                  have A33 := Aside0.mk A330
                  clear A330
                  have HC34 := Aside0.mk H
                  clear H
                  go_upto_region 20 with (first | (go_at_call 29; (with_reducible refine (spec_DrawTextOf.calls kj15 _ _ l1 t309 _ ?side1 ?side2 A31.out).mono ?_); (case side1 => repeat (first | exact (Kd.C_below HR1.out HB.out) | (with_reducible refine Kd.C_alloc ?_ _) | (with_reducible refine Kd.C_drewN ?_ _) | (with_reducible refine Kd.C_drew ?_))); (case side2 => exact HC1.out); rintro e w35 ⟨v310, rfl, ho0, hb⟩; have HO311 := Aside0.mk (Kd.R_lower (Kd.R_new' ho0 (Kd.R_lt (by (with_reducible repeat (first | apply Kd.R_alloc | apply Kd.R_drewN | apply Kd.R_drew)); exact HO_6.out))) (below_size (bU_ HB))); replace HO_6 := Aside0.mk (Kd.R_elder' (by (with_reducible repeat (first | apply Kd.R_alloc | apply Kd.R_drewN | apply Kd.R_drew)); exact HO_6.out) (Kd.R_base ho0) hb); replace HB := bS_ HB hb; (try clear hb); (try clear ho0); obtain ⟨Ao36, co36, eo36⟩ := Kd.R_slice HO311.out; subst eo36) | (go_at_call 25; (with_reducible refine (impl_TextOf.calls kj15 _ _ t309 t312 t313 _ ?side1 ?side2 A32.out).mono ?_); (case side1 => repeat (first | exact (Kd.R_reads' HO311.out).2.2 | (with_reducible refine Kd.C_alloc ?_ _) | (with_reducible refine Kd.C_drewN ?_ _) | (with_reducible refine Kd.C_drew ?_))); (case side2 => exact (Kd.R_reads' HO311.out).2.1); rintro e w' ⟨rfl, ⟨nd, rfl⟩⟩; (try first | exact ⟨rfl, _, World.drewN_drewN _ _ _⟩ | exact ⟨rfl, _, Eq.trans (World.drewN_drewN _ _ _) (congrArg (World.drewN _) (Nat.add_assoc _ _ _))⟩)) | (go_at_call 30; (with_reducible refine (spec_TextOf.calls kj15 _ _ t309 t314 t315 _ ?side1 ?side2 A33.out).mono ?_); (case side1 => repeat (first | exact (Kd.R_reads' HO311.out).2.2 | (with_reducible refine Kd.C_alloc ?_ _) | (with_reducible refine Kd.C_drewN ?_ _) | (with_reducible refine Kd.C_drew ?_))); (case side2 => exact (Kd.R_reads' HO311.out).2.1); rintro e w37 ⟨rfl, hb⟩; replace HO_6 := Aside0.mk (Kd.R_below (by (with_reducible repeat (first | apply Kd.R_alloc | apply Kd.R_drewN | apply Kd.R_drew)); exact HO_6.out) hb); replace HO311 := Aside0.mk (Kd.R_below (by (with_reducible repeat (first | apply Kd.R_alloc | apply Kd.R_drewN | apply Kd.R_drew)); exact HO311.out) hb); replace HB := bS_ HB hb; (try clear hb)))
                  repeat (go_quiet (fail); go_upto_region 20 with (first | (go_at_call 29; (with_reducible refine (spec_DrawTextOf.calls kj15 _ _ l1 t309 _ ?side1 ?side2 A31.out).mono ?_); (case side1 => repeat (first | exact (Kd.C_below HR1.out HB.out) | (with_reducible refine Kd.C_alloc ?_ _) | (with_reducible refine Kd.C_drewN ?_ _) | (with_reducible refine Kd.C_drew ?_))); (case side2 => exact HC1.out); rintro e w35 ⟨v310, rfl, ho0, hb⟩; have HO311 := Aside0.mk (Kd.R_lower (Kd.R_new' ho0 (Kd.R_lt (by (with_reducible repeat (first | apply Kd.R_alloc | apply Kd.R_drewN | apply Kd.R_drew)); exact HO_6.out))) (below_size (bU_ HB))); replace HO_6 := Aside0.mk (Kd.R_elder' (by (with_reducible repeat (first | apply Kd.R_alloc | apply Kd.R_drewN | apply Kd.R_drew)); exact HO_6.out) (Kd.R_base ho0) hb); replace HB := bS_ HB hb; (try clear hb); (try clear ho0); obtain ⟨Ao36, co36, eo36⟩ := Kd.R_slice HO311.out; subst eo36) | (go_at_call 25; (with_reducible refine (impl_TextOf.calls kj15 _ _ t309 t312 t313 _ ?side1 ?side2 A32.out).mono ?_); (case side1 => repeat (first | exact (Kd.R_reads' HO311.out).2.2 | (with_reducible refine Kd.C_alloc ?_ _) | (with_reducible refine Kd.C_drewN ?_ _) | (with_reducible refine Kd.C_drew ?_))); (case side2 => exact (Kd.R_reads' HO311.out).2.1); rintro e w' ⟨rfl, ⟨nd, rfl⟩⟩; (try first | exact ⟨rfl, _, World.drewN_drewN _ _ _⟩ | exact ⟨rfl, _, Eq.trans (World.drewN_drewN _ _ _) (congrArg (World.drewN _) (Nat.add_assoc _ _ _))⟩)) | (go_at_call 30; (with_reducible refine (spec_TextOf.calls kj15 _ _ t309 t314 t315 _ ?side1 ?side2 A33.out).mono ?_); (case side1 => repeat (first | exact (Kd.R_reads' HO311.out).2.2 | (with_reducible refine Kd.C_alloc ?_ _) | (with_reducible refine Kd.C_drewN ?_ _) | (with_reducible refine Kd.C_drew ?_))); (case side2 => exact (Kd.R_reads' HO311.out).2.1); rintro e w37 ⟨rfl, hb⟩; replace HO_6 := Aside0.mk (Kd.R_below (by (with_reducible repeat (first | apply Kd.R_alloc | apply Kd.R_drewN | apply Kd.R_drew)); exact HO_6.out) hb); replace HO311 := Aside0.mk (Kd.R_below (by (with_reducible repeat (first | apply Kd.R_alloc | apply Kd.R_drewN | apply Kd.R_drew)); exact HO311.out) hb); replace HB := bS_ HB hb; (try clear hb))))
                  (try simp only [Act.put, List.setIfInBounds_toArray, List.set_cons_zero, List.set_cons_succ])
                  go_cut [133] (fun v133 wc => ∃ (kq : Nat) (x133_33 : Bool), v133 = .bool x133_33 ∧ Aside0 (laws_FnRunes.j3 kq l1 t291 t292 t293 t309 t312 t313 x133_33 = some r) ∧ Aside0 (kq ≤ kj15) ∧ Aside0 (Kd.R (Kd.int .i64) 3 wc w.heap.size (fun k_ => some k_ ≠ ((.slice Ao36 t309.length co36) : Value).ownBlock) v294 t292) ∧ Aside0 (Kd.R (Kd.int .i64) 3 wc w.heap.size (fun k_ => some k_ ≠ (v294 : Value).ownBlock) (.slice Ao36 t309.length co36) t309) ∧ Aside0 (Below w.heap.size w wc))
                  case first =>
                    as_aux_lemma =>
                      have H := HC34.out
                      clear HC34
                      by_cases c38 : (t313 != t315) = true
                      · rw [if_pos c38] at H
                        have c38b0 : (t313 != t315) = true := c38
                        (try (have c38b1 : decide (t313 = t315) = false := by simpa using c38))
                        (try (have c38b2 : (t313 == t315) = false := by simpa using c38))
                        (try (have c38b3 : ¬ (t313 = t315) := by simpa using c38))
                        clear c38
                        (first | rw [c38b0] | (simp only [i64_w, i32_w]; rw [c38b0]) | skip)
                        exfalso
                        cases kj15 with
                        | zero => exact absurd H (by simp [laws_FnRunes.j3])
                        | succ kz_ => rw [laws_FnRunes.j3, if_pos rfl] at H; exact absurd ((Option.some.inj H).trans HR_.out) (by decide)
                      · rw [if_neg c38] at H
                        have c38b0 : (t313 != t315) = false := by simpa using c38
                        (try (have c38b1 : decide (t313 = t315) = true := by simpa using c38))
                        (try (have c38b2 : (t313 == t315) = true := by simpa using c38))
                        clear c38
                        (first | rw [c38b0] | (simp only [i64_w, i32_w]; rw [c38b0]) | skip)
                        as_aux_lemma =>
                          have H' := Aside0.mk H
                          clear H
                          go_wp2
                          repeat (go_quiet (fail); try go_wp2)
                          all_goals (try exact absurd ‹some undef = some (Value.bool _)› (by simp [undef]))
                          go_meet
                          case rel => exact ⟨_, ((t312.toList != t314.toList)), (by first | rfl | (simp; done) | (simp [*]; done)), H', ⟨by have := HJ6.out; have := HJ15.out; first | omega | exact Nat.le_refl _⟩, ⟨by (with_reducible repeat (first | apply Kd.R_alloc | apply Kd.R_drewN | apply Kd.R_drew)); exact Kd.R_mono HO_6.out (fun _ hk => hk.2)⟩, ⟨by (with_reducible repeat (first | apply Kd.R_alloc | apply Kd.R_drewN | apply Kd.R_drew)); exact Kd.R_mono HO311.out (fun _ hk => hk.2)⟩, ⟨by repeat (first | (with_reducible first | exact HB.out | apply below_alloc | apply pw_below_drewN | apply below_drew1) | exact HB.out)⟩⟩
                  case rest =>
                    as_aux_lemma =>
                      clear HC34
                      try clear c1
                      try clear c2
                      try clear p2
                      try clear c3
                      try clear c3b0
                      try clear c6
                      try clear p6
                      try clear c11
                      try clear c11b0
                      try clear c11b1
                      try clear c11b2
                      try clear c15
                      try clear c17
                      try clear c20
                      try clear c20b0
                      try clear c20b1
                      try clear c24
                      try clear c25
                      try clear c25b0
                      try clear c25b1
                      try clear c26
                      try clear c27
                      try clear c27b0
                      try clear c29
                      try clear c38
                      try clear c38b0
                      try clear c38b1
                      try clear c38b2
                      try clear p2
                      try clear p6
                      obtain ⟨kq, x133_33, rfl, HA, HJ33, HO_6, HO_17, HB⟩ := hcut
                      cases kq with
                      | zero => exact absurd HA.out (by simp [laws_FnRunes.j3])
                      | succ kj33 =>
                        have H := HA.out
                        clear HA
                        simp only [laws_FnRunes.j3] at H
                        by_cases c39 : x133_33 = true
                        · subst c39
                          have H1 : (some false) = some r := by rw [if_pos rfl] at H; exact H
                          clear H
                          have H := H1
                          clear H1
                          exact absurd ((Option.some.inj H).trans HR_.out) (by decide)
                        · replace c39 := Bool.eq_false_iff.mpr c39
                          subst c39
                          have H1 : (if t313 = true then ((impl_RunesOf.f kj33 t312).bind fun bt316 => (if bt316.2 = true then ((laws_sameInts.f kj33 bt316.1 t309).bind fun t320 => (laws_FnRunes.j4 kj33 l1 t291 t292 t293 t309 t312 (!t320))) else (laws_FnRunes.j4 kj33 l1 t291 t292 t293 t309 t312 true))) else (laws_FnRunes.j7 kj33 l1)) = some r := by rw [if_neg (show ¬ (false = true) by decide)] at H; exact H
                          clear H
                          have H := H1
                          clear H1
                          have HC40 := Aside0.mk H
                          clear H
                          go_upto_if 134 with (fail)
                          repeat (go_quiet (fail); go_upto_if 134 with (fail))
                          go_cut [] (fun wc => ∃ (kq : Nat), Aside0 (laws_FnRunes.j7 kq l1 = some r) ∧ Aside0 (kq ≤ kj33) ∧ Aside0 (Below w.heap.size w wc))
                          case first =>
                            as_aux_lemma =>
                              have H := HC40.out
                              clear HC40
                              by_cases c41 : t313 = true
                              · subst c41
                                have H1 : ((impl_RunesOf.f kj33 t312).bind fun bt316 => (if bt316.2 = true then ((laws_sameInts.f kj33 bt316.1 t309).bind fun t320 => (laws_FnRunes.j4 kj33 l1 t291 t292 t293 t309 t312 (!t320))) else (laws_FnRunes.j4 kj33 l1 t291 t292 t293 t309 t312 true))) = some r := by rw [if_pos rfl] at H; exact H
                                clear H
                                have H := H1
                                clear H1
                                replace H := Option.bind_eq_some_iff.mp H
                                obtain ⟨⟨t316, t317⟩, A420, H⟩ := H
                                replace H : (if t317 = true then ((laws_sameInts.f kj33 t316 t309).bind fun t320 => (laws_FnRunes.j4 kj33 l1 t291 t292 t293 t309 t312 (!t320))) else (laws_FnRunes.j4 kj33 l1 t291 t292 t293 t309 t312 true)) = some r := H
                                have A42 := Aside0.mk A420
                                clear A420
                                have HC43 := Aside0.mk H
                                clear H
                                go_upto_region 24 with (first | (go_at_call 22; (with_reducible refine (impl_RunesOf.calls kj33 t312 t316 t317 _ ?side1 A42.out).mono ?_); (case side1 => exact Go.Proofs.YtgoedenbekedbaaDoor.TabsU.Tabs0.of_below TB.out (bU_ HB)); rintro e w44 ⟨v318, rfl, ho0, hb⟩; have HO319 := Aside0.mk (Kd.R_lower (Kd.R_new' (Kd.R_new' ho0 (Kd.R_lt (by (with_reducible repeat (first | apply Kd.R_alloc | apply Kd.R_drewN | apply Kd.R_drew)); exact HO_6.out))) (Kd.R_lt (by (with_reducible repeat (first | apply Kd.R_alloc | apply Kd.R_drewN | apply Kd.R_drew)); exact HO_17.out))) (below_size (bU_ HB))); replace HO_6 := Aside0.mk (Kd.R_elder' (by (with_reducible repeat (first | apply Kd.R_alloc | apply Kd.R_drewN | apply Kd.R_drew)); exact HO_6.out) (Kd.R_base ho0) hb); replace HO_17 := Aside0.mk (Kd.R_elder' (by (with_reducible repeat (first | apply Kd.R_alloc | apply Kd.R_drewN | apply Kd.R_drew)); exact HO_17.out) (Kd.R_base ho0) hb); replace HB := bS_ HB hb; (try clear hb); (try clear ho0)))
                                repeat (go_quiet (fail); go_upto_region 24 with (first | (go_at_call 22; (with_reducible refine (impl_RunesOf.calls kj33 t312 t316 t317 _ ?side1 A42.out).mono ?_); (case side1 => exact Go.Proofs.YtgoedenbekedbaaDoor.TabsU.Tabs0.of_below TB.out (bU_ HB)); rintro e w44 ⟨v318, rfl, ho0, hb⟩; have HO319 := Aside0.mk (Kd.R_lower (Kd.R_new' (Kd.R_new' ho0 (Kd.R_lt (by (with_reducible repeat (first | apply Kd.R_alloc | apply Kd.R_drewN | apply Kd.R_drew)); exact HO_6.out))) (Kd.R_lt (by (with_reducible repeat (first | apply Kd.R_alloc | apply Kd.R_drewN | apply Kd.R_drew)); exact HO_17.out))) (below_size (bU_ HB))); replace HO_6 := Aside0.mk (Kd.R_elder' (by (with_reducible repeat (first | apply Kd.R_alloc | apply Kd.R_drewN | apply Kd.R_drew)); exact HO_6.out) (Kd.R_base ho0) hb); replace HO_17 := Aside0.mk (Kd.R_elder' (by (with_reducible repeat (first | apply Kd.R_alloc | apply Kd.R_drewN | apply Kd.R_drew)); exact HO_17.out) (Kd.R_base ho0) hb); replace HB := bS_ HB hb; (try clear hb); (try clear ho0))))
                                (try simp only [Act.put, List.setIfInBounds_toArray, List.set_cons_zero, List.set_cons_succ])
                                go_cut [147] (fun v147 wc => ∃ (kq : Nat) (x147_42 : Bool), v147 = .bool x147_42 ∧ Aside0 (laws_FnRunes.j4 kq l1 t291 t292 t293 t309 t312 x147_42 = some r) ∧ Aside0 (kq ≤ kj33) ∧ Aside0 (Kd.R (Kd.int .i64) 3 wc w.heap.size (fun k_ => some k_ ≠ ((.slice Ao36 t309.length co36) : Value).ownBlock) v294 t292) ∧ Aside0 (Kd.R (Kd.int .i64) 3 wc w.heap.size (fun k_ => some k_ ≠ (v294 : Value).ownBlock) (.slice Ao36 t309.length co36) t309) ∧ Aside0 (Below w.heap.size w wc))
                                case first =>
                                  as_aux_lemma =>
                                    have H := HC43.out
                                    clear HC43
                                    by_cases c45 : t317 = true
                                    · subst c45
                                      have H1 : ((laws_sameInts.f kj33 t316 t309).bind fun t320 => (laws_FnRunes.j4 kj33 l1 t291 t292 t293 t309 t312 (!t320))) = some r := by rw [if_pos rfl] at H; exact H
                                      clear H
                                      have H := H1
                                      clear H1
                                      replace H := Option.bind_eq_some_iff.mp H
                                      obtain ⟨t320, A460, H⟩ := H
                                      replace H : (laws_FnRunes.j4 kj33 l1 t291 t292 t293 t309 t312 (!t320)) = some r := H
                                      have A46 := Aside0.mk A460
                                      clear A460
                                      as_aux_lemma =>
                                        have H' := Aside0.mk H
                                        clear H
                                        obtain ⟨Ao47, co47, eo47⟩ := Kd.R_slice HO319.out
                                        subst eo47
                                        go_wp2_with (first | (go_at_call 24; (with_reducible refine (laws_sameInts.calls kj33 _ _ t316 _ _ t309 t320 _ ?side1 ?side2 ?side3 ?side4 A46.out).mono ?_); (case side1 => repeat (first | exact (Kd.R_reads' HO319.out).2.2 | (with_reducible refine Kd.C_alloc ?_ _) | (with_reducible refine Kd.C_drewN ?_ _) | (with_reducible refine Kd.C_drew ?_))); (case side2 => exact (Kd.R_reads' HO319.out).2.1); (case side3 => repeat (first | exact (Kd.R_reads' HO_17.out).2.2 | (with_reducible refine Kd.C_alloc ?_ _) | (with_reducible refine Kd.C_drewN ?_ _) | (with_reducible refine Kd.C_drew ?_))); (case side4 => exact (Kd.R_reads' HO_17.out).2.1); rintro e w' ⟨rfl, ⟨nd, rfl⟩⟩; (try first | exact ⟨rfl, _, World.drewN_drewN _ _ _⟩ | exact ⟨rfl, _, Eq.trans (World.drewN_drewN _ _ _) (congrArg (World.drewN _) (Nat.add_assoc _ _ _))⟩)))
                                        repeat (go_quiet (fail); try go_wp2_with (first | (go_at_call 24; (with_reducible refine (laws_sameInts.calls kj33 _ _ t316 _ _ t309 t320 _ ?side1 ?side2 ?side3 ?side4 A46.out).mono ?_); (case side1 => repeat (first | exact (Kd.R_reads' HO319.out).2.2 | (with_reducible refine Kd.C_alloc ?_ _) | (with_reducible refine Kd.C_drewN ?_ _) | (with_reducible refine Kd.C_drew ?_))); (case side2 => exact (Kd.R_reads' HO319.out).2.1); (case side3 => repeat (first | exact (Kd.R_reads' HO_17.out).2.2 | (with_reducible refine Kd.C_alloc ?_ _) | (with_reducible refine Kd.C_drewN ?_ _) | (with_reducible refine Kd.C_drew ?_))); (case side4 => exact (Kd.R_reads' HO_17.out).2.1); rintro e w' ⟨rfl, ⟨nd, rfl⟩⟩; (try first | exact ⟨rfl, _, World.drewN_drewN _ _ _⟩ | exact ⟨rfl, _, Eq.trans (World.drewN_drewN _ _ _) (congrArg (World.drewN _) (Nat.add_assoc _ _ _))⟩))))
                                        all_goals (try exact absurd ‹some undef = some (Value.bool _)› (by simp [undef]))
                                        go_meet
                                        case rel => exact ⟨_, (!t320), (by first | rfl | (simp; done) | (simp [*]; done)), H', ⟨by have := HJ6.out; have := HJ15.out; have := HJ33.out; first | omega | exact Nat.le_refl _⟩, ⟨by (with_reducible repeat (first | apply Kd.R_alloc | apply Kd.R_drewN | apply Kd.R_drew)); exact Kd.R_mono HO_6.out (fun _ hk => hk.1)⟩, ⟨by (with_reducible repeat (first | apply Kd.R_alloc | apply Kd.R_drewN | apply Kd.R_drew)); exact Kd.R_mono HO_17.out (fun _ hk => hk.1)⟩, ⟨by repeat (first | (with_reducible first | exact HB.out | apply below_alloc | apply pw_below_drewN | apply below_drew1) | exact HB.out)⟩⟩
                                    · replace c45 := Bool.eq_false_iff.mpr c45
                                      subst c45
                                      have H1 : (laws_FnRunes.j4 kj33 l1 t291 t292 t293 t309 t312 true) = some r := by rw [if_neg (show ¬ (false = true) by decide)] at H; exact H
                                      clear H
                                      have H := H1
                                      clear H1
                                      exfalso
                                      cases kj33 with
                                      | zero => exact absurd H (by simp [laws_FnRunes.j4])
                                      | succ kz_ => rw [laws_FnRunes.j4, if_pos rfl] at H; exact absurd ((Option.some.inj H).trans HR_.out) (by decide)
                                case rest =>
                                  as_aux_lemma =>
                                    clear HC43
                                    try clear c1
                                    try clear c2
                                    try clear p2
                                    try clear c3
                                    try clear c3b0
                                    try clear c4
                                    try clear c6
                                    try clear p6
                                    try clear c11
                                    try clear c11b0
                                    try clear c11b1
                                    try clear c11b2
                                    try clear c15
                                    try clear c17
                                    try clear c20
                                    try clear c20b0
                                    try clear c20b1
                                    try clear c24
                                    try clear c25
                                    try clear c25b0
                                    try clear c25b1
                                    try clear c26
                                    try clear c27
                                    try clear c27b0
                                    try clear c29
                                    try clear c38
                                    try clear c38b0
                                    try clear c38b1
                                    try clear c38b2
                                    try clear c39
                                    try clear c41
                                    try clear c45
                                    try clear p2
                                    try clear p6
                                    obtain ⟨kq, x147_42, rfl, HA, HJ42, HO_6, HO_17, HB⟩ := hcut
                                    cases kq with
                                    | zero => exact absurd HA.out (by simp [laws_FnRunes.j4])
                                    | succ kj42 =>
                                      have H := HA.out
                                      clear HA
                                      simp only [laws_FnRunes.j4] at H
                                      by_cases c48 : x147_42 = true
                                      · subst c48
                                        have H1 : (some false) = some r := by rw [if_pos rfl] at H; exact H
                                        clear H
                                        have H := H1
                                        clear H1
                                        exact absurd ((Option.some.inj H).trans HR_.out) (by decide)
                                      · replace c48 := Bool.eq_false_iff.mpr c48
                                        subst c48
                                        have H1 : (if t293 = true then (laws_FnRunes.l0 kj42 l1 t291 t292 t309 t312 0) else (laws_FnRunes.j7 kj42 l1)) = some r := by rw [if_neg (show ¬ (false = true) by decide)] at H; exact H
                                        clear H
                                        have H := H1
                                        clear H1
                                        by_cases c49 : t293 = true
                                        · subst c49
                                          have H1 : (laws_FnRunes.l0 kj42 l1 t291 t292 t309 t312 0) = some r := by rw [if_pos rfl] at H; exact H
                                          clear H
                                          have H := H1
                                          clear H1
                                          have H' := Aside0.mk H
                                          clear H
                                          go_wp2
                                          repeat (go_quiet (fail); try go_wp2)
                                          go_loopg [25] kj42 (fun kq v25 w' => ∃ (x25_5 : Int), v25 = .int .i64 x25_5 ∧ Aside0 (laws_FnRunes.l0 kq l1 t291 t292 t309 t312 x25_5 = some r) ∧ Aside0 (kq ≤ kj42) ∧ Aside0 (Kd.R (Kd.int .i64) 3 w' w.heap.size (fun k_ => some k_ ≠ ((.slice Ao36 t309.length co36) : Value).ownBlock) v294 t292) ∧ Aside0 (Kd.R (Kd.int .i64) 3 w' w.heap.size (fun k_ => some k_ ≠ (v294 : Value).ownBlock) (.slice Ao36 t309.length co36) t309) ∧ Aside0 (Below w.heap.size w w'))
                                          case atStart => exact ⟨(0), (by first | rfl | (simp; done) | (simp [*]; done)), H', ⟨Nat.le_refl _⟩, ⟨by (with_reducible repeat (first | apply Kd.R_alloc | apply Kd.R_drewN | apply Kd.R_drew)); exact HO_6.out⟩, ⟨by (with_reducible repeat (first | apply Kd.R_alloc | apply Kd.R_drewN | apply Kd.R_drew)); exact HO_17.out⟩, ⟨by repeat (first | (with_reducible first | exact HB.out | apply below_alloc | apply pw_below_drewN | apply below_drew1) | exact HB.out)⟩⟩
                                          case round =>
                                            as_aux_lemma =>
                                              clear H'
                                              try clear c1
                                              try clear c2
                                              try clear p2
                                              try clear c3
                                              try clear c3b0
                                              try clear c4
                                              try clear c6
                                              try clear p6
                                              try clear c11
                                              try clear c11b0
                                              try clear c11b1
                                              try clear c11b2
                                              try clear c15
                                              try clear c17
                                              try clear c20
                                              try clear c20b0
                                              try clear c20b1
                                              try clear c24
                                              try clear c25
                                              try clear c25b0
                                              try clear c25b1
                                              try clear c26
                                              try clear c27
                                              try clear c27b0
                                              try clear c29
                                              try clear c38
                                              try clear c38b0
                                              try clear c38b1
                                              try clear c38b2
                                              try clear c39
                                              try clear c41
                                              try clear c45
                                              try clear c48
                                              try clear c49
                                              try clear p2
                                              try clear p6
                                              obtain ⟨x25_5, rfl, HA, HK5, HO_6, HO_17, HB⟩ := hrel
                                              cases gk with
                                              | zero => exact absurd HA.out (by simp [laws_FnRunes.l0])
                                              | succ k5 =>
                                                have H := HA.out
                                                clear HA
                                                simp only [laws_FnRunes.l0] at H
                                                have HC50 := Aside0.mk H
                                                clear H
                                                go_upto_region 30 with (fail)
                                                repeat (go_quiet (fail); go_upto_region 30 with (fail))
                                                go_cut [160] (fun v160 wc => ∃ (kq : Nat) (x160_49 : Bool), v160 = .bool x160_49 ∧ Aside0 (laws_FnRunes.j6 kq l1 t291 t292 t309 t312 x25_5 x160_49 = some r) ∧ Aside0 (kq ≤ k5) ∧ Aside0 (Kd.R (Kd.int .i64) 3 wc w.heap.size (fun k_ => some k_ ≠ ((.slice Ao36 t309.length co36) : Value).ownBlock) v294 t292) ∧ Aside0 (Kd.R (Kd.int .i64) 3 wc w.heap.size (fun k_ => some k_ ≠ (v294 : Value).ownBlock) (.slice Ao36 t309.length co36) t309) ∧ Aside0 (Below w.heap.size w wc))
                                                case first =>
                                                  as_aux_lemma =>
                                                    have H := HC50.out
                                                    clear HC50
                                                    by_cases c51 : x25_5 ≥ (t292.length : Int)
                                                    · rw [if_pos c51] at H
                                                      have c51b0 : decide ((t292.length : Int) ≤ x25_5) = true := decide_eq_true c51
                                                      clear c51
                                                      (first | rw [c51b0] | (simp only [i64_w, i32_w]; rw [c51b0]) | skip)
                                                      as_aux_lemma =>
                                                        have H' := Aside0.mk H
                                                        clear H
                                                        obtain ⟨Ao52, co52, eo52⟩ := Kd.R_slice HO_6.out
                                                        subst eo52
                                                        go_wp2
                                                        repeat (go_quiet (fail); try go_wp2)
                                                        all_goals (try exact absurd ‹some undef = some (Value.bool _)› (by simp [undef]))
                                                        go_meet
                                                        case rel => exact ⟨_, (true), (by first | rfl | (simp; done) | (simp [*]; done)), H', ⟨by have := HJ6.out; have := HJ15.out; have := HJ33.out; have := HJ42.out; have := HK5.out; first | omega | exact Nat.le_refl _⟩, ⟨by (with_reducible repeat (first | apply Kd.R_alloc | apply Kd.R_drewN | apply Kd.R_drew)); exact HO_6.out⟩, ⟨by (with_reducible repeat (first | apply Kd.R_alloc | apply Kd.R_drewN | apply Kd.R_drew)); exact HO_17.out⟩, ⟨by repeat (first | (with_reducible first | exact HB.out | apply below_alloc | apply pw_below_drewN | apply below_drew1) | exact HB.out)⟩⟩
                                                    · rw [if_neg c51] at H
                                                      have c51b0 : decide ((t292.length : Int) ≤ x25_5) = false := decide_eq_false c51
                                                      clear c51
                                                      (first | rw [c51b0] | (simp only [i64_w, i32_w]; rw [c51b0]) | skip)
                                                      as_aux_lemma =>
                                                        have H' := Aside0.mk H
                                                        clear H
                                                        obtain ⟨Ao53, co53, eo53⟩ := Kd.R_slice HO_6.out
                                                        subst eo53
                                                        go_wp2
                                                        repeat (go_quiet (fail); try go_wp2)
                                                        all_goals (try exact absurd ‹some undef = some (Value.bool _)› (by simp [undef]))
                                                        go_meet
                                                        case rel => exact ⟨_, (decide (x25_5 ≥ (t309.length : Int))), (by first | rfl | (simp; done) | (simp [*]; done)), H', ⟨by have := HJ6.out; have := HJ15.out; have := HJ33.out; have := HJ42.out; have := HK5.out; first | omega | exact Nat.le_refl _⟩, ⟨by (with_reducible repeat (first | apply Kd.R_alloc | apply Kd.R_drewN | apply Kd.R_drew)); exact HO_6.out⟩, ⟨by (with_reducible repeat (first | apply Kd.R_alloc | apply Kd.R_drewN | apply Kd.R_drew)); exact HO_17.out⟩, ⟨by repeat (first | (with_reducible first | exact HB.out | apply below_alloc | apply pw_below_drewN | apply below_drew1) | exact HB.out)⟩⟩
                                                case rest =>
                                                  as_aux_lemma =>
                                                    clear HC50
                                                    try clear c1
                                                    try clear c2
                                                    try clear p2
                                                    try clear c3
                                                    try clear c3b0
                                                    try clear c4
                                                    try clear c5
                                                    try clear c6
                                                    try clear p6
                                                    try clear c11
                                                    try clear c11b0
                                                    try clear c11b1
                                                    try clear c11b2
                                                    try clear c15
                                                    try clear c17
                                                    try clear c20
                                                    try clear c20b0
                                                    try clear c20b1
                                                    try clear c24
                                                    try clear c25
                                                    try clear c25b0
                                                    try clear c25b1
                                                    try clear c26
                                                    try clear c27
                                                    try clear c27b0
                                                    try clear c29
                                                    try clear c38
                                                    try clear c38b0
                                                    try clear c38b1
                                                    try clear c38b2
                                                    try clear c39
                                                    try clear c41
                                                    try clear c45
                                                    try clear c48
                                                    try clear c49
                                                    try clear c51
                                                    try clear c51b0
                                                    try clear p2
                                                    try clear p6
                                                    obtain ⟨kq, x160_49, rfl, HA, HJ49, HO_6, HO_17, HB⟩ := hcut
                                                    cases kq with
                                                    | zero => exact absurd HA.out (by simp [laws_FnRunes.j6])
                                                    | succ kj49 =>
                                                      have H := HA.out
                                                      clear HA
                                                      simp only [laws_FnRunes.j6] at H
                                                      by_cases c54 : x160_49 = true
                                                      · subst c54
                                                        have H1 : (if ((decide (t292.length < t309.length)) != (Op.bytesLess t291.toList t312.toList)) = true then (some false) else (laws_FnRunes.j7 kj49 l1)) = some r := by rw [if_pos rfl] at H; exact H
                                                        clear H
                                                        have H := H1
                                                        clear H1
                                                        by_cases c55 : ((decide (t292.length < t309.length)) != (Op.bytesLess t291.toList t312.toList)) = true
                                                        · rw [if_pos c55] at H
                                                          have c55b0 : ((decide (t292.length < t309.length)) != (Op.bytesLess t291.toList t312.toList)) = true := c55
                                                          (try (have c55b1 : decide ((decide (t292.length < t309.length)) = (Op.bytesLess t291.toList t312.toList)) = false := by simpa using c55))
                                                          (try (have c55b2 : ((decide (t292.length < t309.length)) == (Op.bytesLess t291.toList t312.toList)) = false := by simpa using c55))
                                                          (try (have c55b3 : ¬ ((decide (t292.length < t309.length)) = (Op.bytesLess t291.toList t312.toList)) := by simpa using c55))
                                                          clear c55
                                                          exact absurd ((Option.some.inj H).trans HR_.out) (by decide)
                                                        · rw [if_neg c55] at H
                                                          have c55b0 : ((decide (t292.length < t309.length)) != (Op.bytesLess t291.toList t312.toList)) = false := by simpa using c55
                                                          (try (have c55b1 : decide ((decide (t292.length < t309.length)) = (Op.bytesLess t291.toList t312.toList)) = true := by simpa using c55))
                                                          (try (have c55b2 : ((decide (t292.length < t309.length)) == (Op.bytesLess t291.toList t312.toList)) = true := by simpa using c55))
                                                          clear c55
                                                          as_aux_lemma =>
                                                            have H' := Aside0.mk H
                                                            clear H
                                                            obtain ⟨Ao56, co56, eo56⟩ := Kd.R_slice HO_6.out
                                                            subst eo56
                                                            go_wp2
                                                            repeat (go_quiet (fail); try go_wp2)
                                                            all_goals (try exact absurd ‹some undef = some (Value.bool _)› (by simp [undef]))
                                                            go_meet
                                                            case rel => exact ⟨_, H', ⟨by have := HJ6.out; have := HJ15.out; have := HJ33.out; have := HJ42.out; have := HK5.out; have := HJ49.out; first | omega | exact Nat.le_refl _⟩, ⟨by repeat (first | (with_reducible first | exact HB.out | apply below_alloc | apply pw_below_drewN | apply below_drew1) | exact HB.out)⟩⟩
                                                      · replace c54 := Bool.eq_false_iff.mpr c54
                                                        subst c54
                                                        have H1 : (if 0 ≤ x25_5 then (if x25_5 < (t292.length : Int) then (if x25_5 < (t309.length : Int) then (if (rd t292 x25_5) = (rd t309 x25_5) then (laws_FnRunes.l0 kj49 l1 t291 t292 t309 t312 (wrap64 (x25_5 + 1))) else (if ((decide ((rd t292 x25_5) < (rd t309 x25_5))) != (Op.bytesLess t291.toList t312.toList)) = true then (some false) else (laws_FnRunes.j7 kj49 l1))) else (none)) else (none)) else (none)) = some r := by rw [if_neg (show ¬ (false = true) by decide)] at H; exact H
                                                        clear H
                                                        have H := H1
                                                        clear H1
                                                        by_cases c57 : 0 ≤ x25_5
                                                        · rw [if_pos c57] at H
                                                          have c57b0 : decide (0 ≤ x25_5) = true := decide_eq_true c57
                                                          clear c57
                                                          by_cases c58 : x25_5 < (t292.length : Int)
                                                          · rw [if_pos c58] at H
                                                            have c58b0 : decide (x25_5 < (t292.length : Int)) = true := decide_eq_true c58
                                                            clear c58
                                                            by_cases c59 : x25_5 < (t309.length : Int)
                                                            · rw [if_pos c59] at H
                                                              have c59b0 : decide (x25_5 < (t309.length : Int)) = true := decide_eq_true c59
                                                              clear c59
                                                              by_cases c60 : (rd t292 x25_5) = (rd t309 x25_5)
                                                              · rw [if_pos c60] at H
                                                                have c60b0 : ((rd t292 x25_5) == (rd t309 x25_5)) = true := beq_iff_eq.mpr c60
                                                                have c60b1 : ((rd t292 x25_5) != (rd t309 x25_5)) = false := bne_eq_false_iff_eq.mpr c60
                                                                clear c60
                                                                as_aux_lemma =>
                                                                  have H' := Aside0.mk H
                                                                  clear H
                                                                  obtain ⟨Ao61, co61, eo61⟩ := Kd.R_slice HO_6.out
                                                                  subst eo61
                                                                  have p321 : 0 ≤ (x25_5 : Int) := of_decide_eq_true (by first | (with_reducible assumption) | assumption)
                                                                  have q321 : x25_5 < (t292.length : Int) := of_decide_eq_true (by first | (with_reducible assumption) | assumption)
                                                                  obtain ⟨ad321, e321, hx321_0⟩ := Kd.at_int (Kd.R_reads' HO_6.out).2.2 x25_5 p321 q321
                                                                  cases e321
                                                                  replace p321 := eq_true p321
                                                                  replace q321 := eq_true q321
                                                                  have p322 : 0 ≤ (x25_5 : Int) := of_decide_eq_true (by first | (with_reducible assumption) | assumption)
                                                                  have q322 : x25_5 < (t309.length : Int) := of_decide_eq_true (by first | (with_reducible assumption) | assumption)
                                                                  obtain ⟨ad322, e322, hx322_0⟩ := Kd.at_int (Kd.R_reads' HO_17.out).2.2 x25_5 p322 q322
                                                                  cases e322
                                                                  replace p322 := eq_true p322
                                                                  replace q322 := eq_true q322
                                                                  go_wp2
                                                                  repeat (go_quiet (fail); try go_wp2)
                                                                  all_goals (try exact absurd ‹some undef = some (Value.bool _)› (by simp [undef]))
                                                                  go_roundg kj49
                                                                  case measure => have := HJ6.out; have := HJ15.out; have := HJ33.out; have := HJ42.out; have := HK5.out; have := HJ49.out; omega
                                                                  case rel => exact ⟨(wrap64 (x25_5 + 1)), (by first | rfl | (simp; done) | (simp [*]; done)), H', ⟨by have := HJ6.out; have := HJ15.out; have := HJ33.out; have := HJ42.out; have := HK5.out; have := HJ49.out; omega⟩, ⟨by (with_reducible repeat (first | apply Kd.R_alloc | apply Kd.R_drewN | apply Kd.R_drew)); exact HO_6.out⟩, ⟨by (with_reducible repeat (first | apply Kd.R_alloc | apply Kd.R_drewN | apply Kd.R_drew)); exact HO_17.out⟩, ⟨by repeat (first | (with_reducible first | exact HB.out | apply below_alloc | apply pw_below_drewN | apply below_drew1) | exact HB.out)⟩⟩
                                                              · rw [if_neg c60] at H
                                                                have c60b0 : ((rd t292 x25_5) == (rd t309 x25_5)) = false := beq_eq_false_iff_ne.mpr c60
                                                                have c60b1 : ((rd t292 x25_5) != (rd t309 x25_5)) = true := bne_iff_ne.mpr c60
                                                                by_cases c62 : ((decide ((rd t292 x25_5) < (rd t309 x25_5))) != (Op.bytesLess t291.toList t312.toList)) = true
                                                                · rw [if_pos c62] at H
                                                                  have c62b0 : ((decide ((rd t292 x25_5) < (rd t309 x25_5))) != (Op.bytesLess t291.toList t312.toList)) = true := c62
                                                                  (try (have c62b1 : decide ((decide ((rd t292 x25_5) < (rd t309 x25_5))) = (Op.bytesLess t291.toList t312.toList)) = false := by simpa using c62))
                                                                  (try (have c62b2 : ((decide ((rd t292 x25_5) < (rd t309 x25_5))) == (Op.bytesLess t291.toList t312.toList)) = false := by simpa using c62))
                                                                  (try (have c62b3 : ¬ ((decide ((rd t292 x25_5) < (rd t309 x25_5))) = (Op.bytesLess t291.toList t312.toList)) := by simpa using c62))
                                                                  clear c62
                                                                  exact absurd ((Option.some.inj H).trans HR_.out) (by decide)
                                                                · rw [if_neg c62] at H
                                                                  have c62b0 : ((decide ((rd t292 x25_5) < (rd t309 x25_5))) != (Op.bytesLess t291.toList t312.toList)) = false := by simpa using c62
                                                                  (try (have c62b1 : decide ((decide ((rd t292 x25_5) < (rd t309 x25_5))) = (Op.bytesLess t291.toList t312.toList)) = true := by simpa using c62))
                                                                  (try (have c62b2 : ((decide ((rd t292 x25_5) < (rd t309 x25_5))) == (Op.bytesLess t291.toList t312.toList)) = true := by simpa using c62))
                                                                  clear c62
                                                                  as_aux_lemma =>
                                                                    have H' := Aside0.mk H
                                                                    clear H
                                                                    obtain ⟨Ao63, co63, eo63⟩ := Kd.R_slice HO_6.out
                                                                    subst eo63
                                                                    have p321 : 0 ≤ (x25_5 : Int) := of_decide_eq_true (by first | (with_reducible assumption) | assumption)
                                                                    have q321 : x25_5 < (t292.length : Int) := of_decide_eq_true (by first | (with_reducible assumption) | assumption)
                                                                    obtain ⟨ad321, e321, hx321_0⟩ := Kd.at_int (Kd.R_reads' HO_6.out).2.2 x25_5 p321 q321
                                                                    cases e321
                                                                    replace p321 := eq_true p321
                                                                    replace q321 := eq_true q321
                                                                    have p322 : 0 ≤ (x25_5 : Int) := of_decide_eq_true (by first | (with_reducible assumption) | assumption)
                                                                    have q322 : x25_5 < (t309.length : Int) := of_decide_eq_true (by first | (with_reducible assumption) | assumption)
                                                                    obtain ⟨ad322, e322, hx322_0⟩ := Kd.at_int (Kd.R_reads' HO_17.out).2.2 x25_5 p322 q322
                                                                    cases e322
                                                                    replace p322 := eq_true p322
                                                                    replace q322 := eq_true q322
                                                                    have p323 : 0 ≤ (x25_5 : Int) := of_decide_eq_true (by first | (with_reducible assumption) | assumption)
                                                                    have q323 : x25_5 < (t292.length : Int) := of_decide_eq_true (by first | (with_reducible assumption) | assumption)
                                                                    obtain ⟨ad323, e323, hx323_0⟩ := Kd.at_int (Kd.R_reads' HO_6.out).2.2 x25_5 p323 q323
                                                                    obtain rfl : ad321 = ad323 := (by injection e323)
                                                                    replace p323 := eq_true p323
                                                                    replace q323 := eq_true q323
                                                                    have p324 : 0 ≤ (x25_5 : Int) := of_decide_eq_true (by first | (with_reducible assumption) | assumption)
                                                                    have q324 : x25_5 < (t309.length : Int) := of_decide_eq_true (by first | (with_reducible assumption) | assumption)
                                                                    obtain ⟨ad324, e324, hx324_0⟩ := Kd.at_int (Kd.R_reads' HO_17.out).2.2 x25_5 p324 q324
                                                                    obtain rfl : ad322 = ad324 := (by injection e324)
                                                                    replace p324 := eq_true p324
                                                                    replace q324 := eq_true q324
                                                                    go_wp2
                                                                    repeat (go_quiet (fail); try go_wp2)
                                                                    all_goals (try exact absurd ‹some undef = some (Value.bool _)› (by simp [undef]))
                                                                    go_meet
                                                                    case rel => exact ⟨_, H', ⟨by have := HJ6.out; have := HJ15.out; have := HJ33.out; have := HJ42.out; have := HK5.out; have := HJ49.out; first | omega | exact Nat.le_refl _⟩, ⟨by repeat (first | (with_reducible first | exact HB.out | apply below_alloc | apply pw_below_drewN | apply below_drew1) | exact HB.out)⟩⟩
                                                            · rw [if_neg c59] at H
                                                              exact absurd H (by simp)
                                                          · rw [if_neg c58] at H
                                                            exact absurd H (by simp)
                                                        · rw [if_neg c57] at H
                                                          exact absurd H (by simp)
                                        · replace c49 := Bool.eq_false_iff.mpr c49
                                          subst c49
                                          have H1 : (laws_FnRunes.j7 kj42 l1) = some r := by rw [if_neg (show ¬ (false = true) by decide)] at H; exact H
                                          clear H
                                          have H := H1
                                          clear H1
                                          as_aux_lemma =>
                                            have H' := Aside0.mk H
                                            clear H
                                            go_wp2
                                            repeat (go_quiet (fail); try go_wp2)
                                            all_goals (try exact absurd ‹some undef = some (Value.bool _)› (by simp [undef]))
                                            go_meet
                                            case rel => exact ⟨_, H', ⟨by have := HJ6.out; have := HJ15.out; have := HJ33.out; have := HJ42.out; first | omega | exact Nat.le_refl _⟩, ⟨by repeat (first | (with_reducible first | exact HB.out | apply below_alloc | apply pw_below_drewN | apply below_drew1) | exact HB.out)⟩⟩
                              · replace c41 := Bool.eq_false_iff.mpr c41
                                subst c41
                                have H1 : (laws_FnRunes.j7 kj33 l1) = some r := by rw [if_neg (show ¬ (false = true) by decide)] at H; exact H
                                clear H
                                have H := H1
                                clear H1
                                as_aux_lemma =>
                                  have H' := Aside0.mk H
                                  clear H
                                  go_wp2
                                  repeat (go_quiet (fail); try go_wp2)
                                  all_goals (try exact absurd ‹some undef = some (Value.bool _)› (by simp [undef]))
                                  go_meet
                                  case rel => exact ⟨_, H', ⟨by have := HJ6.out; have := HJ15.out; have := HJ33.out; first | omega | exact Nat.le_refl _⟩, ⟨by repeat (first | (with_reducible first | exact HB.out | apply below_alloc | apply pw_below_drewN | apply below_drew1) | exact HB.out)⟩⟩
                          case rest =>
                            as_aux_lemma =>
                              clear HC40
                              try clear c1
                              try clear c2
                              try clear p2
                              try clear c3
                              try clear c3b0
                              try clear p3
                              try clear q3
                              try clear hx3
                              try clear c4
                              try clear c5
                              try clear c6
                              try clear p6
                              try clear c11
                              try clear c11b0
                              try clear c11b1
                              try clear c11b2
                              try clear c15
                              try clear c17
                              try clear c20
                              try clear c20b0
                              try clear c20b1
                              try clear c24
                              try clear c25
                              try clear c25b0
                              try clear c25b1
                              try clear c26
                              try clear c27
                              try clear c27b0
                              try clear c29
                              try clear p32
                              try clear q32
                              try clear hx32
                              try clear c38
                              try clear c38b0
                              try clear c38b1
                              try clear c38b2
                              try clear c39
                              try clear c41
                              try clear c45
                              try clear c48
                              try clear c49
                              try clear c51
                              try clear c51b0
                              try clear c54
                              try clear c55
                              try clear c55b0
                              try clear c55b1
                              try clear c55b2
                              try clear c57
                              try clear c57b0
                              try clear c58
                              try clear c58b0
                              try clear c59
                              try clear c59b0
                              try clear c60
                              try clear c60b0
                              try clear c60b1
                              try clear c62
                              try clear c62b0
                              try clear c62b1
                              try clear c62b2
                              try clear hx321_0
                              try clear hx322_0
                              try clear hx323_0
                              try clear hx324_0
                              try clear p2
                              try clear p321
                              try clear p322
                              try clear p323
                              try clear p324
                              try clear p6
                              try clear q321
                              try clear q322
                              try clear q323
                              try clear q324
                              obtain ⟨kq, HA, HJ39, HB⟩ := hcut
                              cases kq with
                              | zero => exact absurd HA.out (by simp [laws_FnRunes.j7])
                              | succ kj39 =>
                                have H := HA.out
                                clear HA
                                simp only [laws_FnRunes.j7] at H
                                replace H := Option.bind_eq_some_iff.mp H
                                obtain ⟨t325, A640, H⟩ := H
                                replace H : ((impl_RuneBytes.f t325).bind fun bt326 => ((spec_RuneBytes.f t325).bind fun bt328 => ((spec_DrawRuneAt.f kj39 l1).bind fun bt330 => ((impl_RuneAt.f bt330.1 bt330.2).bind fun bt332 => ((spec_RuneAt.f kj39 bt330.1 bt330.2).bind fun bt335 => ((spec_DrawNextStart.f kj39 l1).bind fun bt338 => ((impl_NextStart.f kj39 bt338.1 bt338.2).bind fun bt340 => ((spec_NextStart.f kj39 bt338.1 bt338.2).bind fun bt342 => ((spec_DrawIsStart.f l1).bind fun t344 => (if (bt326.2 == bt328.2) = true then (if bt326.1.toList = bt328.1.toList then (if (bt332.2.2 == bt335.2.2) = true then (if bt332.1 = bt335.1 then (if bt332.2.1 = bt335.2.1 then (if (bt340.2 == bt342.2) = true then (if bt340.1 = bt342.1 then ((impl_IsStart.f t344).bind fun t345 => ((spec_IsStart.f t344).bind fun t346 => (if (t345 == t346) = true then ((impl_GoodRune.f t325).bind fun t347 => ((spec_GoodRune.f t325).bind fun t348 => (if (t347 == t348) = true then (if bt326.2 = true then (if (bt326.1.size : Int) ≥ 1 then (if (bt326.1.size : Int) ≤ 4 then (if 0 < (bt326.1.size : Int) then ((impl_IsStart.f (bt bt326.1 0)).bind fun t349 => (some t349)) else (none)) else (some false)) else (some false)) else (some true)) else (some false)))) else (some false)))) else (some false)) else (some false)) else (some false)) else (some false)) else (some false)) else (some false)) else (some false))))))))))) = some r := H
                                have A64 := Aside0.mk A640
                                clear A640
                                replace H := Option.bind_eq_some_iff.mp H
                                obtain ⟨⟨t326, t327⟩, A650, H⟩ := H
                                replace H : ((spec_RuneBytes.f t325).bind fun bt328 => ((spec_DrawRuneAt.f kj39 l1).bind fun bt330 => ((impl_RuneAt.f bt330.1 bt330.2).bind fun bt332 => ((spec_RuneAt.f kj39 bt330.1 bt330.2).bind fun bt335 => ((spec_DrawNextStart.f kj39 l1).bind fun bt338 => ((impl_NextStart.f kj39 bt338.1 bt338.2).bind fun bt340 => ((spec_NextStart.f kj39 bt338.1 bt338.2).bind fun bt342 => ((spec_DrawIsStart.f l1).bind fun t344 => (if (t327 == bt328.2) = true then (if t326.toList = bt328.1.toList then (if (bt332.2.2 == bt335.2.2) = true then (if bt332.1 = bt335.1 then (if bt332.2.1 = bt335.2.1 then (if (bt340.2 == bt342.2) = true then (if bt340.1 = bt342.1 then ((impl_IsStart.f t344).bind fun t345 => ((spec_IsStart.f t344).bind fun t346 => (if (t345 == t346) = true then ((impl_GoodRune.f t325).bind fun t347 => ((spec_GoodRune.f t325).bind fun t348 => (if (t347 == t348) = true then (if t327 = true then (if (t326.size : Int) ≥ 1 then (if (t326.size : Int) ≤ 4 then (if 0 < (t326.size : Int) then ((impl_IsStart.f (bt t326 0)).bind fun t349 => (some t349)) else (none)) else (some false)) else (some false)) else (some true)) else (some false)))) else (some false)))) else (some false)) else (some false)) else (some false)) else (some false)) else (some false)) else (some false)) else (some false)))))))))) = some r := H
                                have A65 := Aside0.mk A650
                                clear A650
                                replace H := Option.bind_eq_some_iff.mp H
                                obtain ⟨⟨t328, t329⟩, A660, H⟩ := H
                                replace H : ((spec_DrawRuneAt.f kj39 l1).bind fun bt330 => ((impl_RuneAt.f bt330.1 bt330.2).bind fun bt332 => ((spec_RuneAt.f kj39 bt330.1 bt330.2).bind fun bt335 => ((spec_DrawNextStart.f kj39 l1).bind fun bt338 => ((impl_NextStart.f kj39 bt338.1 bt338.2).bind fun bt340 => ((spec_NextStart.f kj39 bt338.1 bt338.2).bind fun bt342 => ((spec_DrawIsStart.f l1).bind fun t344 => (if (t327 == t329) = true then (if t326.toList = t328.toList then (if (bt332.2.2 == bt335.2.2) = true then (if bt332.1 = bt335.1 then (if bt332.2.1 = bt335.2.1 then (if (bt340.2 == bt342.2) = true then (if bt340.1 = bt342.1 then ((impl_IsStart.f t344).bind fun t345 => ((spec_IsStart.f t344).bind fun t346 => (if (t345 == t346) = true then ((impl_GoodRune.f t325).bind fun t347 => ((spec_GoodRune.f t325).bind fun t348 => (if (t347 == t348) = true then (if t327 = true then (if (t326.size : Int) ≥ 1 then (if (t326.size : Int) ≤ 4 then (if 0 < (t326.size : Int) then ((impl_IsStart.f (bt t326 0)).bind fun t349 => (some t349)) else (none)) else (some false)) else (some false)) else (some true)) else (some false)))) else (some false)))) else (some false)) else (some false)) else (some false)) else (some false)) else (some false)) else (some false)) else (some false))))))))) = some r := H
                                have A66 := Aside0.mk A660
                                clear A660
                                replace H := Option.bind_eq_some_iff.mp H
                                obtain ⟨⟨t330, t331⟩, A670, H⟩ := H
                                replace H : ((impl_RuneAt.f t330 t331).bind fun bt332 => ((spec_RuneAt.f kj39 t330 t331).bind fun bt335 => ((spec_DrawNextStart.f kj39 l1).bind fun bt338 => ((impl_NextStart.f kj39 bt338.1 bt338.2).bind fun bt340 => ((spec_NextStart.f kj39 bt338.1 bt338.2).bind fun bt342 => ((spec_DrawIsStart.f l1).bind fun t344 => (if (t327 == t329) = true then (if t326.toList = t328.toList then (if (bt332.2.2 == bt335.2.2) = true then (if bt332.1 = bt335.1 then (if bt332.2.1 = bt335.2.1 then (if (bt340.2 == bt342.2) = true then (if bt340.1 = bt342.1 then ((impl_IsStart.f t344).bind fun t345 => ((spec_IsStart.f t344).bind fun t346 => (if (t345 == t346) = true then ((impl_GoodRune.f t325).bind fun t347 => ((spec_GoodRune.f t325).bind fun t348 => (if (t347 == t348) = true then (if t327 = true then (if (t326.size : Int) ≥ 1 then (if (t326.size : Int) ≤ 4 then (if 0 < (t326.size : Int) then ((impl_IsStart.f (bt t326 0)).bind fun t349 => (some t349)) else (none)) else (some false)) else (some false)) else (some true)) else (some false)))) else (some false)))) else (some false)) else (some false)) else (some false)) else (some false)) else (some false)) else (some false)) else (some false)))))))) = some r := H
                                have A67 := Aside0.mk A670
                                clear A670
                                replace H := Option.bind_eq_some_iff.mp H
                                obtain ⟨⟨t332, t333, t334⟩, A680, H⟩ := H
                                replace H : ((spec_RuneAt.f kj39 t330 t331).bind fun bt335 => ((spec_DrawNextStart.f kj39 l1).bind fun bt338 => ((impl_NextStart.f kj39 bt338.1 bt338.2).bind fun bt340 => ((spec_NextStart.f kj39 bt338.1 bt338.2).bind fun bt342 => ((spec_DrawIsStart.f l1).bind fun t344 => (if (t327 == t329) = true then (if t326.toList = t328.toList then (if (t334 == bt335.2.2) = true then (if t332 = bt335.1 then (if t333 = bt335.2.1 then (if (bt340.2 == bt342.2) = true then (if bt340.1 = bt342.1 then ((impl_IsStart.f t344).bind fun t345 => ((spec_IsStart.f t344).bind fun t346 => (if (t345 == t346) = true then ((impl_GoodRune.f t325).bind fun t347 => ((spec_GoodRune.f t325).bind fun t348 => (if (t347 == t348) = true then (if t327 = true then (if (t326.size : Int) ≥ 1 then (if (t326.size : Int) ≤ 4 then (if 0 < (t326.size : Int) then ((impl_IsStart.f (bt t326 0)).bind fun t349 => (some t349)) else (none)) else (some false)) else (some false)) else (some true)) else (some false)))) else (some false)))) else (some false)) else (some false)) else (some false)) else (some false)) else (some false)) else (some false)) else (some false))))))) = some r := H
                                have A68 := Aside0.mk A680
                                clear A680
                                replace H := Option.bind_eq_some_iff.mp H
                                obtain ⟨⟨t335, t336, t337⟩, A690, H⟩ := H
                                replace H : ((spec_DrawNextStart.f kj39 l1).bind fun bt338 => ((impl_NextStart.f kj39 bt338.1 bt338.2).bind fun bt340 => ((spec_NextStart.f kj39 bt338.1 bt338.2).bind fun bt342 => ((spec_DrawIsStart.f l1).bind fun t344 => (if (t327 == t329) = true then (if t326.toList = t328.toList then (if (t334 == t337) = true then (if t332 = t335 then (if t333 = t336 then (if (bt340.2 == bt342.2) = true then (if bt340.1 = bt342.1 then ((impl_IsStart.f t344).bind fun t345 => ((spec_IsStart.f t344).bind fun t346 => (if (t345 == t346) = true then ((impl_GoodRune.f t325).bind fun t347 => ((spec_GoodRune.f t325).bind fun t348 => (if (t347 == t348) = true then (if t327 = true then (if (t326.size : Int) ≥ 1 then (if (t326.size : Int) ≤ 4 then (if 0 < (t326.size : Int) then ((impl_IsStart.f (bt t326 0)).bind fun t349 => (some t349)) else (none)) else (some false)) else (some false)) else (some true)) else (some false)))) else (some false)))) else (some false)) else (some false)) else (some false)) else (some false)) else (some false)) else (some false)) else (some false)))))) = some r := H
                                have A69 := Aside0.mk A690
                                clear A690
                                replace H := Option.bind_eq_some_iff.mp H
                                obtain ⟨⟨t338, t339⟩, A700, H⟩ := H
                                replace H : ((impl_NextStart.f kj39 t338 t339).bind fun bt340 => ((spec_NextStart.f kj39 t338 t339).bind fun bt342 => ((spec_DrawIsStart.f l1).bind fun t344 => (if (t327 == t329) = true then (if t326.toList = t328.toList then (if (t334 == t337) = true then (if t332 = t335 then (if t333 = t336 then (if (bt340.2 == bt342.2) = true then (if bt340.1 = bt342.1 then ((impl_IsStart.f t344).bind fun t345 => ((spec_IsStart.f t344).bind fun t346 => (if (t345 == t346) = true then ((impl_GoodRune.f t325).bind fun t347 => ((spec_GoodRune.f t325).bind fun t348 => (if (t347 == t348) = true then (if t327 = true then (if (t326.size : Int) ≥ 1 then (if (t326.size : Int) ≤ 4 then (if 0 < (t326.size : Int) then ((impl_IsStart.f (bt t326 0)).bind fun t349 => (some t349)) else (none)) else (some false)) else (some false)) else (some true)) else (some false)))) else (some false)))) else (some false)) else (some false)) else (some false)) else (some false)) else (some false)) else (some false)) else (some false))))) = some r := H
                                have A70 := Aside0.mk A700
                                clear A700
                                replace H := Option.bind_eq_some_iff.mp H
                                obtain ⟨⟨t340, t341⟩, A710, H⟩ := H
                                replace H : ((spec_NextStart.f kj39 t338 t339).bind fun bt342 => ((spec_DrawIsStart.f l1).bind fun t344 => (if (t327 == t329) = true then (if t326.toList = t328.toList then (if (t334 == t337) = true then (if t332 = t335 then (if t333 = t336 then (if (t341 == bt342.2) = true then (if t340 = bt342.1 then ((impl_IsStart.f t344).bind fun t345 => ((spec_IsStart.f t344).bind fun t346 => (if (t345 == t346) = true then ((impl_GoodRune.f t325).bind fun t347 => ((spec_GoodRune.f t325).bind fun t348 => (if (t347 == t348) = true then (if t327 = true then (if (t326.size : Int) ≥ 1 then (if (t326.size : Int) ≤ 4 then (if 0 < (t326.size : Int) then ((impl_IsStart.f (bt t326 0)).bind fun t349 => (some t349)) else (none)) else (some false)) else (some false)) else (some true)) else (some false)))) else (some false)))) else (some false)) else (some false)) else (some false)) else (some false)) else (some false)) else (some false)) else (some false)))) = some r := H
                                have A71 := Aside0.mk A710
                                clear A710
                                replace H := Option.bind_eq_some_iff.mp H
                                obtain ⟨⟨t342, t343⟩, A720, H⟩ := H
                                replace H : ((spec_DrawIsStart.f l1).bind fun t344 => (if (t327 == t329) = true then (if t326.toList = t328.toList then (if (t334 == t337) = true then (if t332 = t335 then (if t333 = t336 then (if (t341 == t343) = true then (if t340 = t342 then ((impl_IsStart.f t344).bind fun t345 => ((spec_IsStart.f t344).bind fun t346 => (if (t345 == t346) = true then ((impl_GoodRune.f t325).bind fun t347 => ((spec_GoodRune.f t325).bind fun t348 => (if (t347 == t348) = true then (if t327 = true then (if (t326.size : Int) ≥ 1 then (if (t326.size : Int) ≤ 4 then (if 0 < (t326.size : Int) then ((impl_IsStart.f (bt t326 0)).bind fun t349 => (some t349)) else (none)) else (some false)) else (some false)) else (some true)) else (some false)))) else (some false)))) else (some false)) else (some false)) else (some false)) else (some false)) else (some false)) else (some false)) else (some false))) = some r := H
                                have A72 := Aside0.mk A720
                                clear A720
                                replace H := Option.bind_eq_some_iff.mp H
                                obtain ⟨t344, A730, H⟩ := H
                                replace H : (if (t327 == t329) = true then (if t326.toList = t328.toList then (if (t334 == t337) = true then (if t332 = t335 then (if t333 = t336 then (if (t341 == t343) = true then (if t340 = t342 then ((impl_IsStart.f t344).bind fun t345 => ((spec_IsStart.f t344).bind fun t346 => (if (t345 == t346) = true then ((impl_GoodRune.f t325).bind fun t347 => ((spec_GoodRune.f t325).bind fun t348 => (if (t347 == t348) = true then (if t327 = true then (if (t326.size : Int) ≥ 1 then (if (t326.size : Int) ≤ 4 then (if 0 < (t326.size : Int) then ((impl_IsStart.f (bt t326 0)).bind fun t349 => (some t349)) else (none)) else (some false)) else (some false)) else (some true)) else (some false)))) else (some false)))) else (some false)) else (some false)) else (some false)) else (some false)) else (some false)) else (some false)) else (some false)) = some r := H
                                have A73 := Aside0.mk A730
                                clear A730
                                by_cases c74 : (t327 == t329) = true
                                · rw [if_pos c74] at H
                                  have c74b0 : (t327 == t329) = true := c74
                                  (try (have c74b1 : decide (t327 = t329) = true := by simpa using c74))
                                  (try (have c74b2 : (t327 == t329) = true := by simpa using c74))
                                  clear c74
                                  by_cases c75 : t326.toList = t328.toList
                                  · rw [if_pos c75] at H
                                    have c75b0 : (t326.toList == t328.toList) = true := beq_iff_eq.mpr c75
                                    have c75b1 : (t326.toList != t328.toList) = false := bne_eq_false_iff_eq.mpr c75
                                    clear c75
                                    by_cases c76 : (t334 == t337) = true
                                    · rw [if_pos c76] at H
                                      have c76b0 : (t334 == t337) = true := c76
                                      (try (have c76b1 : decide (t334 = t337) = true := by simpa using c76))
                                      (try (have c76b2 : (t334 == t337) = true := by simpa using c76))
                                      clear c76
                                      by_cases c77 : t332 = t335
                                      · rw [if_pos c77] at H
                                        have c77b0 : (t332 == t335) = true := beq_iff_eq.mpr c77
                                        have c77b1 : (t332 != t335) = false := bne_eq_false_iff_eq.mpr c77
                                        clear c77
                                        by_cases c78 : t333 = t336
                                        · rw [if_pos c78] at H
                                          have c78b0 : (t333 == t336) = true := beq_iff_eq.mpr c78
                                          have c78b1 : (t333 != t336) = false := bne_eq_false_iff_eq.mpr c78
                                          clear c78
                                          by_cases c79 : (t341 == t343) = true
                                          · rw [if_pos c79] at H
                                            have c79b0 : (t341 == t343) = true := c79
                                            (try (have c79b1 : decide (t341 = t343) = true := by simpa using c79))
                                            (try (have c79b2 : (t341 == t343) = true := by simpa using c79))
                                            clear c79
                                            by_cases c80 : t340 = t342
                                            · rw [if_pos c80] at H
                                              have c80b0 : (t340 == t342) = true := beq_iff_eq.mpr c80
                                              have c80b1 : (t340 != t342) = false := bne_eq_false_iff_eq.mpr c80
                                              clear c80
                                              replace H := Option.bind_eq_some_iff.mp H
                                              obtain ⟨t345, A810, H⟩ := H
                                              replace H : ((spec_IsStart.f t344).bind fun t346 => (if (t345 == t346) = true then ((impl_GoodRune.f t325).bind fun t347 => ((spec_GoodRune.f t325).bind fun t348 => (if (t347 == t348) = true then (if t327 = true then (if (t326.size : Int) ≥ 1 then (if (t326.size : Int) ≤ 4 then (if 0 < (t326.size : Int) then ((impl_IsStart.f (bt t326 0)).bind fun t349 => (some t349)) else (none)) else (some false)) else (some false)) else (some true)) else (some false)))) else (some false))) = some r := H
                                              have A81 := Aside0.mk A810
                                              clear A810
                                              replace H := Option.bind_eq_some_iff.mp H
                                              obtain ⟨t346, A820, H⟩ := H
                                              replace H : (if (t345 == t346) = true then ((impl_GoodRune.f t325).bind fun t347 => ((spec_GoodRune.f t325).bind fun t348 => (if (t347 == t348) = true then (if t327 = true then (if (t326.size : Int) ≥ 1 then (if (t326.size : Int) ≤ 4 then (if 0 < (t326.size : Int) then ((impl_IsStart.f (bt t326 0)).bind fun t349 => (some t349)) else (none)) else (some false)) else (some false)) else (some true)) else (some false)))) else (some false)) = some r := H
                                              have A82 := Aside0.mk A820
                                              clear A820
                                              by_cases c83 : (t345 == t346) = true
                                              · rw [if_pos c83] at H
                                                have c83b0 : (t345 == t346) = true := c83
                                                (try (have c83b1 : decide (t345 = t346) = true := by simpa using c83))
                                                (try (have c83b2 : (t345 == t346) = true := by simpa using c83))
                                                clear c83
                                                replace H := Option.bind_eq_some_iff.mp H
                                                obtain ⟨t347, A840, H⟩ := H
                                                replace H : ((spec_GoodRune.f t325).bind fun t348 => (if (t347 == t348) = true then (if t327 = true then (if (t326.size : Int) ≥ 1 then (if (t326.size : Int) ≤ 4 then (if 0 < (t326.size : Int) then ((impl_IsStart.f (bt t326 0)).bind fun t349 => (some t349)) else (none)) else (some false)) else (some false)) else (some true)) else (some false))) = some r := H
                                                have A84 := Aside0.mk A840
                                                clear A840
                                                replace H := Option.bind_eq_some_iff.mp H
                                                obtain ⟨t348, A850, H⟩ := H
                                                replace H : (if (t347 == t348) = true then (if t327 = true then (if (t326.size : Int) ≥ 1 then (if (t326.size : Int) ≤ 4 then (if 0 < (t326.size : Int) then ((impl_IsStart.f (bt t326 0)).bind fun t349 => (some t349)) else (none)) else (some false)) else (some false)) else (some true)) else (some false)) = some r := H
                                                have A85 := Aside0.mk A850
                                                clear A850
                                                by_cases c86 : (t347 == t348) = true
                                                · rw [if_pos c86] at H
                                                  have c86b0 : (t347 == t348) = true := c86
                                                  (try (have c86b1 : decide (t347 = t348) = true := by simpa using c86))
                                                  (try (have c86b2 : (t347 == t348) = true := by simpa using c86))
                                                  clear c86
                                                  by_cases c87 : t327 = true
                                                  · subst c87
                                                    have H1 : (if (t326.size : Int) ≥ 1 then (if (t326.size : Int) ≤ 4 then (if 0 < (t326.size : Int) then ((impl_IsStart.f (bt t326 0)).bind fun t349 => (some t349)) else (none)) else (some false)) else (some false)) = some r := by rw [if_pos rfl] at H; exact H
                                                    clear H
                                                    have H := H1
                                                    clear H1
                                                    by_cases c88 : (t326.size : Int) ≥ 1
                                                    · rw [if_pos c88] at H
                                                      have c88b0 : decide (1 ≤ (t326.size : Int)) = true := decide_eq_true c88
                                                      have c88b1 : decide (1 ≤ t326.size) = true := decide_eq_true (by omega)
                                                      clear c88
                                                      by_cases c89 : (t326.size : Int) ≤ 4
                                                      · rw [if_pos c89] at H
                                                        have c89b0 : decide ((t326.size : Int) ≤ 4) = true := decide_eq_true c89
                                                        have c89b1 : decide (t326.size ≤ 4) = true := decide_eq_true (by omega)
                                                        clear c89
                                                        by_cases c90 : 0 < (t326.size : Int)
                                                        · rw [if_pos c90] at H
                                                          have c90b0 : decide (0 < (t326.size : Int)) = true := decide_eq_true c90
                                                          have c90b1 : decide (0 < t326.size) = true := decide_eq_true (by omega)
                                                          clear c90
                                                          replace H := Option.bind_eq_some_iff.mp H
                                                          obtain ⟨t349, A920, H⟩ := H
                                                          replace H : (some t349) = some r := H
                                                          have A92 := Aside0.mk A920
                                                          clear A920
                                                          as_aux_lemma =>
                                                            obtain rfl := Option.some.inj H
                                                            go_wp2_with (first | (go_at_call 31; (with_reducible refine (spec_DrawRuneBytes.calls _ _ l1 t325 _ ?side1 ?side2 A64.out).mono ?_); (case side1 => repeat (first | exact (Kd.C_below HR1.out HB.out) | (with_reducible refine Kd.C_alloc ?_ _) | (with_reducible refine Kd.C_drewN ?_ _) | (with_reducible refine Kd.C_drew ?_))); (case side2 => exact HC1.out); rintro e w93 ⟨rfl, hb⟩; replace HB := bS_ HB hb; (try clear hb)) | (go_at_call 32; (with_reducible refine (impl_RuneBytes.calls t325 t326 true _ A65.out).mono ?_); rintro e w' ⟨rfl, ⟨nd, rfl⟩⟩; (try first | exact ⟨rfl, _, World.drewN_drewN _ _ _⟩ | exact ⟨rfl, _, Eq.trans (World.drewN_drewN _ _ _) (congrArg (World.drewN _) (Nat.add_assoc _ _ _))⟩)) | (go_at_call 33; (with_reducible refine (spec_RuneBytes.calls t325 t328 t329 _ A66.out).mono ?_); rintro e w94 ⟨rfl, hb⟩; replace HB := bS_ HB hb; (try clear hb)) | (go_at_call 34; (with_reducible refine (spec_DrawRuneAt.calls kj39 _ _ l1 t330 t331 _ ?side1 ?side2 A67.out).mono ?_); (case side1 => repeat (first | exact (Kd.C_below HR1.out HB.out) | (with_reducible refine Kd.C_alloc ?_ _) | (with_reducible refine Kd.C_drewN ?_ _) | (with_reducible refine Kd.C_drew ?_))); (case side2 => exact HC1.out); rintro e w95 ⟨rfl, hb⟩; replace HB := bS_ HB hb; (try clear hb)) | (go_at_call 28; (with_reducible refine (impl_RuneAt.calls t330 t331 t332 t333 t334 _ ?side1 A68.out).mono ?_); (case side1 => exact Go.Proofs.YtgoedenbekedbaaDoor.TabsU.Tabs0.of_below TB.out (bU_ HB)); rintro e w96 ⟨rfl, hb⟩; replace HB := bS_ HB hb; (try clear hb)) | (go_at_call 35; (with_reducible refine (spec_RuneAt.calls kj39 t330 t331 t335 t336 t337 _ A69.out).mono ?_); rintro e w97 ⟨rfl, hb⟩; replace HB := bS_ HB hb; (try clear hb)) | (go_at_call 36; (with_reducible refine (spec_DrawNextStart.calls kj39 _ _ l1 t338 t339 _ ?side1 ?side2 A70.out).mono ?_); (case side1 => repeat (first | exact (Kd.C_below HR1.out HB.out) | (with_reducible refine Kd.C_alloc ?_ _) | (with_reducible refine Kd.C_drewN ?_ _) | (with_reducible refine Kd.C_drew ?_))); (case side2 => exact HC1.out); rintro e w98 ⟨rfl, hb⟩; replace HB := bS_ HB hb; (try clear hb)) | (go_at_call 26; (with_reducible refine (impl_NextStart.calls kj39 t338 t339 t340 t341 _ A71.out).mono ?_); rintro e w' ⟨rfl, ⟨nd, rfl⟩⟩; (try first | exact ⟨rfl, _, World.drewN_drewN _ _ _⟩ | exact ⟨rfl, _, Eq.trans (World.drewN_drewN _ _ _) (congrArg (World.drewN _) (Nat.add_assoc _ _ _))⟩)) | (go_at_call 37; (with_reducible refine (spec_NextStart.calls kj39 t338 t339 t342 t343 _ A72.out).mono ?_); rintro e w' ⟨rfl, ⟨nd, rfl⟩⟩; (try first | exact ⟨rfl, _, World.drewN_drewN _ _ _⟩ | exact ⟨rfl, _, Eq.trans (World.drewN_drewN _ _ _) (congrArg (World.drewN _) (Nat.add_assoc _ _ _))⟩)) | (go_at_call 38; (with_reducible refine (spec_DrawIsStart.calls _ _ l1 t344 _ ?side1 ?side2 A73.out).mono ?_); (case side1 => repeat (first | exact (Kd.C_below HR1.out (bU_ HB)) | (with_reducible refine Kd.C_alloc ?_ _) | (with_reducible refine Kd.C_drewN ?_ _) | (with_reducible refine Kd.C_drew ?_))); (case side2 => exact HC1.out); rintro e w99 ⟨rfl, hb⟩; replace HB := bS_ HB hb; (try clear hb)) | (go_at_call 39; (with_reducible refine (impl_IsStart.calls t344 t345 _ A81.out).mono ?_); rintro e w' ⟨rfl, ⟨nd, rfl⟩⟩; (try first | exact ⟨rfl, _, World.drewN_drewN _ _ _⟩ | exact ⟨rfl, _, Eq.trans (World.drewN_drewN _ _ _) (congrArg (World.drewN _) (Nat.add_assoc _ _ _))⟩)) | (go_at_call 40; (with_reducible refine (spec_IsStart.calls t344 t346 _ A82.out).mono ?_); rintro e w' ⟨rfl, ⟨nd, rfl⟩⟩; (try first | exact ⟨rfl, _, World.drewN_drewN _ _ _⟩ | exact ⟨rfl, _, Eq.trans (World.drewN_drewN _ _ _) (congrArg (World.drewN _) (Nat.add_assoc _ _ _))⟩)) | (go_at_call 41; (with_reducible refine (impl_GoodRune.calls t325 t347 _ A84.out).mono ?_); rintro e w' ⟨rfl, ⟨nd, rfl⟩⟩; (try first | exact ⟨rfl, _, World.drewN_drewN _ _ _⟩ | exact ⟨rfl, _, Eq.trans (World.drewN_drewN _ _ _) (congrArg (World.drewN _) (Nat.add_assoc _ _ _))⟩)) | (go_at_call 42; (with_reducible refine (spec_GoodRune.calls t325 t348 _ A85.out).mono ?_); rintro e w' ⟨rfl, ⟨nd, rfl⟩⟩; (try first | exact ⟨rfl, _, World.drewN_drewN _ _ _⟩ | exact ⟨rfl, _, Eq.trans (World.drewN_drewN _ _ _) (congrArg (World.drewN _) (Nat.add_assoc _ _ _))⟩); have p91 : 0 ≤ (0 : Int) := (by omega); have q91 : 0 < t326.size := (by have : (0 : Int) < (t326.size : Int) := of_decide_eq_true (by first | (with_reducible assumption) | assumption); omega); have hx91 : ∀ h : 0 < t326.size, ((t326[0]'h).toNat : Int) = bt t326 0 := bt_at t326 0; clear p91; have qi91 : (0 < (t326.size : Int)) = True := eq_true (of_decide_eq_true (by first | (with_reducible assumption) | assumption)); replace q91 := eq_true q91) | (go_at_call 39; (with_reducible refine (impl_IsStart.calls (bt t326 0) t349 _ A92.out).mono ?_); rintro e w' ⟨rfl, ⟨nd, rfl⟩⟩; (try first | exact ⟨rfl, _, World.drewN_drewN _ _ _⟩ | exact ⟨rfl, _, Eq.trans (World.drewN_drewN _ _ _) (congrArg (World.drewN _) (Nat.add_assoc _ _ _))⟩)))
                                                            all_goals (try exact absurd ‹some undef = some (Value.bool _)› (by simp [undef]))
                                                            go_ret
                                                            exact ⟨by first | rfl | (simp [errW_none, errW_some] <;> rfl) | (simp [*, errW_none, errW_some] <;> rfl), by repeat (first | (with_reducible first | exact HB.out | apply below_alloc | apply pw_below_drewN | apply below_drew1) | exact HB.out)⟩
                                                        · rw [if_neg c90] at H
                                                          exact absurd H (by simp)
                                                      · rw [if_neg c89] at H
                                                        have c89b0 : decide ((t326.size : Int) ≤ 4) = false := decide_eq_false c89
                                                        have c89b1 : decide (t326.size ≤ 4) = false := decide_eq_false (by omega)
                                                        clear c89
                                                        exact absurd ((Option.some.inj H).trans HR_.out) (by decide)
                                                    · rw [if_neg c88] at H
                                                      have c88b0 : decide (1 ≤ (t326.size : Int)) = false := decide_eq_false c88
                                                      have c88b1 : decide (1 ≤ t326.size) = false := decide_eq_false (by omega)
                                                      clear c88
                                                      exact absurd ((Option.some.inj H).trans HR_.out) (by decide)
                                                  · replace c87 := Bool.eq_false_iff.mpr c87
                                                    subst c87
                                                    have H1 : (some true) = some r := by rw [if_neg (show ¬ (false = true) by decide)] at H; exact H
                                                    clear H
                                                    have H := H1
                                                    clear H1
                                                    as_aux_lemma =>
                                                      obtain rfl := Option.some.inj H
                                                      go_wp2_with (first | (go_at_call 31; (with_reducible refine (spec_DrawRuneBytes.calls _ _ l1 t325 _ ?side1 ?side2 A64.out).mono ?_); (case side1 => repeat (first | exact (Kd.C_below HR1.out HB.out) | (with_reducible refine Kd.C_alloc ?_ _) | (with_reducible refine Kd.C_drewN ?_ _) | (with_reducible refine Kd.C_drew ?_))); (case side2 => exact HC1.out); rintro e w100 ⟨rfl, hb⟩; replace HB := bS_ HB hb; (try clear hb)) | (go_at_call 32; (with_reducible refine (impl_RuneBytes.calls t325 t326 false _ A65.out).mono ?_); rintro e w' ⟨rfl, ⟨nd, rfl⟩⟩; (try first | exact ⟨rfl, _, World.drewN_drewN _ _ _⟩ | exact ⟨rfl, _, Eq.trans (World.drewN_drewN _ _ _) (congrArg (World.drewN _) (Nat.add_assoc _ _ _))⟩)) | (go_at_call 33; (with_reducible refine (spec_RuneBytes.calls t325 t328 t329 _ A66.out).mono ?_); rintro e w101 ⟨rfl, hb⟩; replace HB := bS_ HB hb; (try clear hb)) | (go_at_call 34; (with_reducible refine (spec_DrawRuneAt.calls kj39 _ _ l1 t330 t331 _ ?side1 ?side2 A67.out).mono ?_); (case side1 => repeat (first | exact (Kd.C_below HR1.out HB.out) | (with_reducible refine Kd.C_alloc ?_ _) | (with_reducible refine Kd.C_drewN ?_ _) | (with_reducible refine Kd.C_drew ?_))); (case side2 => exact HC1.out); rintro e w102 ⟨rfl, hb⟩; replace HB := bS_ HB hb; (try clear hb)) | (go_at_call 28; (with_reducible refine (impl_RuneAt.calls t330 t331 t332 t333 t334 _ ?side1 A68.out).mono ?_); (case side1 => exact Go.Proofs.YtgoedenbekedbaaDoor.TabsU.Tabs0.of_below TB.out (bU_ HB)); rintro e w103 ⟨rfl, hb⟩; replace HB := bS_ HB hb; (try clear hb)) | (go_at_call 35; (with_reducible refine (spec_RuneAt.calls kj39 t330 t331 t335 t336 t337 _ A69.out).mono ?_); rintro e w104 ⟨rfl, hb⟩; replace HB := bS_ HB hb; (try clear hb)) | (go_at_call 36; (with_reducible refine (spec_DrawNextStart.calls kj39 _ _ l1 t338 t339 _ ?side1 ?side2 A70.out).mono ?_); (case side1 => repeat (first | exact (Kd.C_below HR1.out HB.out) | (with_reducible refine Kd.C_alloc ?_ _) | (with_reducible refine Kd.C_drewN ?_ _) | (with_reducible refine Kd.C_drew ?_))); (case side2 => exact HC1.out); rintro e w105 ⟨rfl, hb⟩; replace HB := bS_ HB hb; (try clear hb)) | (go_at_call 26; (with_reducible refine (impl_NextStart.calls kj39 t338 t339 t340 t341 _ A71.out).mono ?_); rintro e w' ⟨rfl, ⟨nd, rfl⟩⟩; (try first | exact ⟨rfl, _, World.drewN_drewN _ _ _⟩ | exact ⟨rfl, _, Eq.trans (World.drewN_drewN _ _ _) (congrArg (World.drewN _) (Nat.add_assoc _ _ _))⟩)) | (go_at_call 37; (with_reducible refine (spec_NextStart.calls kj39 t338 t339 t342 t343 _ A72.out).mono ?_); rintro e w' ⟨rfl, ⟨nd, rfl⟩⟩; (try first | exact ⟨rfl, _, World.drewN_drewN _ _ _⟩ | exact ⟨rfl, _, Eq.trans (World.drewN_drewN _ _ _) (congrArg (World.drewN _) (Nat.add_assoc _ _ _))⟩)) | (go_at_call 38; (with_reducible refine (spec_DrawIsStart.calls _ _ l1 t344 _ ?side1 ?side2 A73.out).mono ?_); (case side1 => repeat (first | exact (Kd.C_below HR1.out (bU_ HB)) | (with_reducible refine Kd.C_alloc ?_ _) | (with_reducible refine Kd.C_drewN ?_ _) | (with_reducible refine Kd.C_drew ?_))); (case side2 => exact HC1.out); rintro e w106 ⟨rfl, hb⟩; replace HB := bS_ HB hb; (try clear hb)) | (go_at_call 39; (with_reducible refine (impl_IsStart.calls t344 t345 _ A81.out).mono ?_); rintro e w' ⟨rfl, ⟨nd, rfl⟩⟩; (try first | exact ⟨rfl, _, World.drewN_drewN _ _ _⟩ | exact ⟨rfl, _, Eq.trans (World.drewN_drewN _ _ _) (congrArg (World.drewN _) (Nat.add_assoc _ _ _))⟩)) | (go_at_call 40; (with_reducible refine (spec_IsStart.calls t344 t346 _ A82.out).mono ?_); rintro e w' ⟨rfl, ⟨nd, rfl⟩⟩; (try first | exact ⟨rfl, _, World.drewN_drewN _ _ _⟩ | exact ⟨rfl, _, Eq.trans (World.drewN_drewN _ _ _) (congrArg (World.drewN _) (Nat.add_assoc _ _ _))⟩)) | (go_at_call 41; (with_reducible refine (impl_GoodRune.calls t325 t347 _ A84.out).mono ?_); rintro e w' ⟨rfl, ⟨nd, rfl⟩⟩; (try first | exact ⟨rfl, _, World.drewN_drewN _ _ _⟩ | exact ⟨rfl, _, Eq.trans (World.drewN_drewN _ _ _) (congrArg (World.drewN _) (Nat.add_assoc _ _ _))⟩)) | (go_at_call 42; (with_reducible refine (spec_GoodRune.calls t325 t348 _ A85.out).mono ?_); rintro e w' ⟨rfl, ⟨nd, rfl⟩⟩; (try first | exact ⟨rfl, _, World.drewN_drewN _ _ _⟩ | exact ⟨rfl, _, Eq.trans (World.drewN_drewN _ _ _) (congrArg (World.drewN _) (Nat.add_assoc _ _ _))⟩)))
                                                      all_goals (try exact absurd ‹some undef = some (Value.bool _)› (by simp [undef]))
                                                      go_ret
                                                      exact ⟨by first | rfl | (simp [errW_none, errW_some] <;> rfl) | (simp [*, errW_none, errW_some] <;> rfl), by repeat (first | (with_reducible first | exact HB.out | apply below_alloc | apply pw_below_drewN | apply below_drew1) | exact HB.out)⟩
                                                · rw [if_neg c86] at H
                                                  have c86b0 : (t347 == t348) = false := by simpa using c86
                                                  (try (have c86b1 : decide (t347 = t348) = false := by simpa using c86))
                                                  (try (have c86b2 : (t347 == t348) = false := by simpa using c86))
                                                  (try (have c86b3 : ¬ (t347 = t348) := by simpa using c86))
                                                  clear c86
                                                  exact absurd ((Option.some.inj H).trans HR_.out) (by decide)
                                              · rw [if_neg c83] at H
                                                have c83b0 : (t345 == t346) = false := by simpa using c83
                                                (try (have c83b1 : decide (t345 = t346) = false := by simpa using c83))
                                                (try (have c83b2 : (t345 == t346) = false := by simpa using c83))
                                                (try (have c83b3 : ¬ (t345 = t346) := by simpa using c83))
                                                clear c83
                                                exact absurd ((Option.some.inj H).trans HR_.out) (by decide)
                                            · rw [if_neg c80] at H
                                              have c80b0 : (t340 == t342) = false := beq_eq_false_iff_ne.mpr c80
                                              have c80b1 : (t340 != t342) = true := bne_iff_ne.mpr c80
                                              exact absurd ((Option.some.inj H).trans HR_.out) (by decide)
                                          · rw [if_neg c79] at H
                                            have c79b0 : (t341 == t343) = false := by simpa using c79
                                            (try (have c79b1 : decide (t341 = t343) = false := by simpa using c79))
                                            (try (have c79b2 : (t341 == t343) = false := by simpa using c79))
                                            (try (have c79b3 : ¬ (t341 = t343) := by simpa using c79))
                                            clear c79
                                            exact absurd ((Option.some.inj H).trans HR_.out) (by decide)
                                        · rw [if_neg c78] at H
                                          have c78b0 : (t333 == t336) = false := beq_eq_false_iff_ne.mpr c78
                                          have c78b1 : (t333 != t336) = true := bne_iff_ne.mpr c78
                                          exact absurd ((Option.some.inj H).trans HR_.out) (by decide)
                                      · rw [if_neg c77] at H
                                        have c77b0 : (t332 == t335) = false := beq_eq_false_iff_ne.mpr c77
                                        have c77b1 : (t332 != t335) = true := bne_iff_ne.mpr c77
                                        exact absurd ((Option.some.inj H).trans HR_.out) (by decide)
                                    · rw [if_neg c76] at H
                                      have c76b0 : (t334 == t337) = false := by simpa using c76
                                      (try (have c76b1 : decide (t334 = t337) = false := by simpa using c76))
                                      (try (have c76b2 : (t334 == t337) = false := by simpa using c76))
                                      (try (have c76b3 : ¬ (t334 = t337) := by simpa using c76))
                                      clear c76
                                      exact absurd ((Option.some.inj H).trans HR_.out) (by decide)
                                  · rw [if_neg c75] at H
                                    have c75b0 : (t326.toList == t328.toList) = false := beq_eq_false_iff_ne.mpr c75
                                    have c75b1 : (t326.toList != t328.toList) = true := bne_iff_ne.mpr c75
                                    exact absurd ((Option.some.inj H).trans HR_.out) (by decide)
                                · rw [if_neg c74] at H
                                  have c74b0 : (t327 == t329) = false := by simpa using c74
                                  (try (have c74b1 : decide (t327 = t329) = false := by simpa using c74))
                                  (try (have c74b2 : (t327 == t329) = false := by simpa using c74))
                                  (try (have c74b3 : ¬ (t327 = t329) := by simpa using c74))
                                  clear c74
                                  exact absurd ((Option.some.inj H).trans HR_.out) (by decide)

/-- THE ONE PURE STATEMENT of laws_FnRunes: yours. -/
def laws_FnRunes.Pure : Prop := ∀ (l0 : List Int) (l1 : List Int), l0.length ≤ maxLen → l0.length * 1 ≤ 140737488351232 → (∀ x ∈ l0, (Lit.int .u8 x).wf = true) → l1.length ≤ maxLen → l1.length * 1 ≤ 140737488351232 → (∀ x ∈ l1, (Lit.int .u8 x).wf = true) → ∃ k, laws_FnRunes.f k l0 l1 = some true
theorem laws_FnRunes.walk (P : laws_FnRunes.Pure) (a0 : Option Addr) (len0 cap0 : Nat) (z0 : List Int) (a1 : Option Addr) (len1 cap1 : Nat) (z1 : List Int) (w : World) (tb : Go.Proofs.YtgoedenbekedbaaDoor.TabsU.Tabs0 w) (w0 : (a0 = none ∧ len0 = 0 ∧ cap0 = 0 ∧ z0 = []) ∨ ∃ x, a0 = some x ∧ len0 ≤ cap0 ∧ cap0 ≤ maxLen ∧ z0.length = cap0 ∧ (∀ i, i < z0.length → w.cell? (x.add i) = some (.int .u8 (z0.getD i 0))) ∧ ∀ n ∈ z0, (Lit.int .u8 n).wf = true) (y0 : len0 * 1 ≤ 140737488351232) (w1 : (a1 = none ∧ len1 = 0 ∧ cap1 = 0 ∧ z1 = []) ∨ ∃ x, a1 = some x ∧ len1 ≤ cap1 ∧ cap1 ≤ maxLen ∧ z1.length = cap1 ∧ (∀ i, i < z1.length → w.cell? (x.add i) = some (.int .u8 (z1.getD i 0))) ∧ ∀ n ∈ z1, (Lit.int .u8 n).wf = true) (y1 : len1 * 1 ≤ 140737488351232) :
    Calls Tryd.prog 6 #[.slice a0 len0 cap0, .slice a1 len1 cap1] w fun e w' => e = .returned (.bool true) ∧ Below w.heap.size w w' := by
  obtain ⟨l0, rfl, hr0, hm0, hw0, hc0⟩ := ReadsInt.ofRowC w0
  obtain ⟨l1, rfl, hr1, hm1, hw1, hc1⟩ := ReadsInt.ofRowC w1
  obtain ⟨k, h⟩ := P l0 l1 hm0 y0 hw0 hm1 y1 hw1
  refine (laws_FnRunes.calls k _ _ l0 _ _ l1 true w tb rfl (Kd.C_of_reads (d := (0 : Int)) (h1 := fun _ => rfl) hr0) hc0 (Kd.C_of_reads (d := (0 : Int)) (h1 := fun _ => rfl) hr1) hc1 h).mono ?_
  rintro e w' ⟨rfl, hd⟩
  exact ⟨rfl, hd⟩

end
end Go.Proofs.YtgoedenbekedbaaDoor.PFnRunes
