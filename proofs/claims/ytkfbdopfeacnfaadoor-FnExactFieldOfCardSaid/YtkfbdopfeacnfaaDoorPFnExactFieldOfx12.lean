-- Printed for this claim by a changed copy of the kit's printing program (wip/tools/patch_print.py); Lean checks it.
import Derived.Test.YtkfbdopfeacnfaaDoorPFnExactFieldOfx0
import Derived.Test.YtkfbdopfeacnfaaDoorPFnExactFieldOfx2
import Derived.Test.YtkfbdopfeacnfaaDoorPFnExactFieldOfx3
import Derived.Test.YtkfbdopfeacnfaaDoorPFnExactFieldOfx4
import Derived.Test.YtkfbdopfeacnfaaDoorPFnExactFieldOfx8
import Derived.Test.YtkfbdopfeacnfaaDoorPFnExactFieldOfx11
namespace Go.Proofs.YtkfbdopfeacnfaaDoor.PFnExactFieldOf
open Go.RowKit Go.Proofs.YtkfbdopfeacnfaaDoorW.PrintWords Go.Proofs.YtkfbdopfeacnfaaDoorW.PrintLast Go.Proofs.YtkfbdopfeacnfaaDoorW.PrintMore
attribute [local go_sem] max2_int min2_int max_two min_two max_three min_three max_four min_four   -- for this text's walks alone
set_option linter.unusedVariables false
set_option linter.unusedSimpArgs false

noncomputable section
/-! ### laws_FnExactFieldOf: function 6 -/
mutual
def laws_FnExactFieldOf.j0 : Nat → List (S64) → ByteArray → List (S61) → Bool → List (S61) → List (S61) → Bool → Bool → Option (Bool)
  | 0, _, _, _, _, _, _, _, _ => none
  | k + 1, x0, x1, x6, x7, x8, x9, x10, x47 => if x47 = true then (some false) else ((laws_toNodeS.f k x0).bind fun t315 => ((laws_eqNodeS.f k x8 t315).bind fun t318 => (if t318 = true then ((laws_markNodeS.f k x8 1).bind fun bt319 => (if bt319.1 < 0 then (laws_FnExactFieldOf.j1 k x0 x1 x6 x7 x9 true) else ((laws_eqNodeS.f k x9 x6).bind fun t321 => (if t321 = true then (laws_FnExactFieldOf.j1 k x0 x1 x6 x7 x9 (x10 != x7)) else (laws_FnExactFieldOf.j1 k x0 x1 x6 x7 x9 true))))) else (some false))))
def laws_FnExactFieldOf.j1 : Nat → List (S64) → ByteArray → List (S61) → Bool → List (S61) → Bool → Option (Bool)
  | 0, _, _, _, _, _, _ => none
  | k + 1, x0, x1, x6, x7, x9, x68 => if x68 = true then (some false) else ((laws_markNodeS.f k x9 1).bind fun bt322 => ((laws_heldNodeS.f k bt322.2 1).bind fun t324 => (if t324 < 0 then (some false) else (if t324 = bt322.1 then ((laws_toNodeS.f k x0).bind fun t325 => ((impl_FieldOf.f k t325 x1).bind fun bt328 => ((laws_eqNodeS.f k bt328.1 x6).bind fun t332 => (if t332 = true then (laws_FnExactFieldOf.j2 k bt322.2 bt322.1 (bt328.2 != x7)) else (laws_FnExactFieldOf.j2 k bt322.2 bt322.1 true))))) else (some false)))))
def laws_FnExactFieldOf.j2 : Nat → List (S61) → Int → Bool → Option (Bool)
  | 0, _, _, _ => none
  | k + 1, x9, x12, x95 => if x95 = true then (some false) else ((laws_heldNodeS.f k x9 1).bind fun t333 => (if t333 < 0 then (some false) else (if t333 = x12 then (some true) else (some false))))
end
def laws_FnExactFieldOf.f (k : Nat) (l0 : List (S64)) (a1 : ByteArray) : Option (Bool) := if (a1.size : Int) > 1048576 then (some true) else ((laws_szNodeS.f k l0 1048576).bind fun t299 => (if t299 < 0 then (some true) else ((laws_toNodeS.f k l0).bind fun t300 => ((spec_FieldOf.f k t300 a1).bind fun bt303 => ((laws_toNodeS.f k l0).bind fun t307 => ((impl_FieldOf.f k t307 a1).bind fun bt310 => ((laws_eqNodeS.f k bt310.1 bt303.1).bind fun t314 => (if t314 = true then (laws_FnExactFieldOf.j0 k l0 a1 bt303.1 bt303.2 t307 bt310.1 bt310.2 (bt310.2 != bt303.2)) else (laws_FnExactFieldOf.j0 k l0 a1 bt303.1 bt303.2 t307 bt310.1 bt310.2 true)))))))))
theorem laws_FnExactFieldOf.mono_l : ∀ k, (∀ y0 y1 y2 y3 y4 y5 y6 y7, LeO (laws_FnExactFieldOf.j0 k y0 y1 y2 y3 y4 y5 y6 y7) (laws_FnExactFieldOf.j0 (k + 1) y0 y1 y2 y3 y4 y5 y6 y7)) ∧ (∀ y0 y1 y2 y3 y4 y5, LeO (laws_FnExactFieldOf.j1 k y0 y1 y2 y3 y4 y5) (laws_FnExactFieldOf.j1 (k + 1) y0 y1 y2 y3 y4 y5)) ∧ (∀ y0 y1 y2, LeO (laws_FnExactFieldOf.j2 k y0 y1 y2) (laws_FnExactFieldOf.j2 (k + 1) y0 y1 y2))
  | 0 => ⟨fun _ _ _ _ _ _ _ _ r h => by simp [laws_FnExactFieldOf.j0] at h, fun _ _ _ _ _ _ r h => by simp [laws_FnExactFieldOf.j1] at h, fun _ _ _ r h => by simp [laws_FnExactFieldOf.j2] at h⟩
  | k + 1 => by
    obtain ⟨ih0, ih1, ih2⟩ := laws_FnExactFieldOf.mono_l k
    refine ⟨?_, ?_, ?_⟩
    · intro y0 y1 y2 y3 y4 y5 y6 y7
      unfold laws_FnExactFieldOf.j0
      repeat' first
      | (with_reducible exact ih0 _ _ _ _ _ _ _ _)
      | (with_reducible exact ih1 _ _ _ _ _ _)
      | (with_reducible exact ih2 _ _ _)
      | (with_reducible exact impl_FieldOf.mono _ _ _)
      | (with_reducible exact laws_eqNodeS.mono _ _ _)
      | (with_reducible exact laws_heldNodeS.mono _ _ _)
      | (with_reducible exact laws_markNodeS.mono _ _ _)
      | (with_reducible exact laws_szNodeS.mono _ _ _)
      | (with_reducible exact laws_toNodeS.mono _ _)
      | (with_reducible exact spec_FieldOf.mono _ _ _)
      | (with_reducible exact LeO.refl _)
      | (with_reducible exact LeO.none _)
      | (with_reducible refine LeO.ite ?_ ?_)
      | (with_reducible refine LeO.bind ?_ (fun _ => ?_))
      | exact ih0 _ _ _ _ _ _ _ _
      | exact ih1 _ _ _ _ _ _
      | exact ih2 _ _ _
      | exact impl_FieldOf.mono _ _ _
      | exact laws_eqNodeS.mono _ _ _
      | exact laws_heldNodeS.mono _ _ _
      | exact laws_markNodeS.mono _ _ _
      | exact laws_szNodeS.mono _ _ _
      | exact laws_toNodeS.mono _ _
      | exact spec_FieldOf.mono _ _ _
      | exact LeO.none _
      | refine LeO.ite ?_ ?_
      | refine LeO.bind ?_ (fun _ => ?_)
    · intro y0 y1 y2 y3 y4 y5
      unfold laws_FnExactFieldOf.j1
      repeat' first
      | (with_reducible exact ih0 _ _ _ _ _ _ _ _)
      | (with_reducible exact ih1 _ _ _ _ _ _)
      | (with_reducible exact ih2 _ _ _)
      | (with_reducible exact impl_FieldOf.mono _ _ _)
      | (with_reducible exact laws_eqNodeS.mono _ _ _)
      | (with_reducible exact laws_heldNodeS.mono _ _ _)
      | (with_reducible exact laws_markNodeS.mono _ _ _)
      | (with_reducible exact laws_szNodeS.mono _ _ _)
      | (with_reducible exact laws_toNodeS.mono _ _)
      | (with_reducible exact spec_FieldOf.mono _ _ _)
      | (with_reducible exact LeO.refl _)
      | (with_reducible exact LeO.none _)
      | (with_reducible refine LeO.ite ?_ ?_)
      | (with_reducible refine LeO.bind ?_ (fun _ => ?_))
      | exact ih0 _ _ _ _ _ _ _ _
      | exact ih1 _ _ _ _ _ _
      | exact ih2 _ _ _
      | exact impl_FieldOf.mono _ _ _
      | exact laws_eqNodeS.mono _ _ _
      | exact laws_heldNodeS.mono _ _ _
      | exact laws_markNodeS.mono _ _ _
      | exact laws_szNodeS.mono _ _ _
      | exact laws_toNodeS.mono _ _
      | exact spec_FieldOf.mono _ _ _
      | exact LeO.none _
      | refine LeO.ite ?_ ?_
      | refine LeO.bind ?_ (fun _ => ?_)
    · intro y0 y1 y2
      unfold laws_FnExactFieldOf.j2
      repeat' first
      | (with_reducible exact ih0 _ _ _ _ _ _ _ _)
      | (with_reducible exact ih1 _ _ _ _ _ _)
      | (with_reducible exact ih2 _ _ _)
      | (with_reducible exact impl_FieldOf.mono _ _ _)
      | (with_reducible exact laws_eqNodeS.mono _ _ _)
      | (with_reducible exact laws_heldNodeS.mono _ _ _)
      | (with_reducible exact laws_markNodeS.mono _ _ _)
      | (with_reducible exact laws_szNodeS.mono _ _ _)
      | (with_reducible exact laws_toNodeS.mono _ _)
      | (with_reducible exact spec_FieldOf.mono _ _ _)
      | (with_reducible exact LeO.refl _)
      | (with_reducible exact LeO.none _)
      | (with_reducible refine LeO.ite ?_ ?_)
      | (with_reducible refine LeO.bind ?_ (fun _ => ?_))
      | exact ih0 _ _ _ _ _ _ _ _
      | exact ih1 _ _ _ _ _ _
      | exact ih2 _ _ _
      | exact impl_FieldOf.mono _ _ _
      | exact laws_eqNodeS.mono _ _ _
      | exact laws_heldNodeS.mono _ _ _
      | exact laws_markNodeS.mono _ _ _
      | exact laws_szNodeS.mono _ _ _
      | exact laws_toNodeS.mono _ _
      | exact spec_FieldOf.mono _ _ _
      | exact LeO.none _
      | refine LeO.ite ?_ ?_
      | refine LeO.bind ?_ (fun _ => ?_)
theorem laws_FnExactFieldOf.mono : ∀ a0 a1 k, LeO (laws_FnExactFieldOf.f k a0 a1) (laws_FnExactFieldOf.f (k + 1) a0 a1) := by
  intro a0 a1 k
  obtain ⟨ih0, ih1, ih2⟩ := laws_FnExactFieldOf.mono_l k
  unfold laws_FnExactFieldOf.f
  repeat' first
      | (with_reducible exact ih0 _ _ _ _ _ _ _ _)
      | (with_reducible exact ih1 _ _ _ _ _ _)
      | (with_reducible exact ih2 _ _ _)
      | (with_reducible exact impl_FieldOf.mono _ _ _)
      | (with_reducible exact laws_eqNodeS.mono _ _ _)
      | (with_reducible exact laws_heldNodeS.mono _ _ _)
      | (with_reducible exact laws_markNodeS.mono _ _ _)
      | (with_reducible exact laws_szNodeS.mono _ _ _)
      | (with_reducible exact laws_toNodeS.mono _ _)
      | (with_reducible exact spec_FieldOf.mono _ _ _)
      | (with_reducible exact LeO.refl _)
      | (with_reducible exact LeO.none _)
      | (with_reducible refine LeO.ite ?_ ?_)
      | (with_reducible refine LeO.bind ?_ (fun _ => ?_))
      | exact ih0 _ _ _ _ _ _ _ _
      | exact ih1 _ _ _ _ _ _
      | exact ih2 _ _ _
      | exact impl_FieldOf.mono _ _ _
      | exact laws_eqNodeS.mono _ _ _
      | exact laws_heldNodeS.mono _ _ _
      | exact laws_markNodeS.mono _ _ _
      | exact laws_szNodeS.mono _ _ _
      | exact laws_toNodeS.mono _ _
      | exact spec_FieldOf.mono _ _ _
      | exact LeO.none _
      | refine LeO.ite ?_ ?_
      | refine LeO.bind ?_ (fun _ => ?_)
set_option maxHeartbeats 8000000 in
set_option maxRecDepth 100000 in
theorem laws_FnExactFieldOf.calls (k : Nat) (A0 : Option Addr) (c0 : Nat) (l0 : List (S64)) (a1 : ByteArray) (r : Bool) (w : World) (tb : Go.Proofs.YtkfbdopfeacnfaaDoor.TabsU.Tabs0 w) (hr_ : r = true) (hr0 : Kd.C k64 w A0 l0.length l0) (hc0 : l0.length ≤ c0) (h : laws_FnExactFieldOf.f k l0 a1 = some r) :
    Calls Tryd.prog 6 #[.slice A0 l0.length c0, .string a1] w fun e w' => e = .returned (.bool r) ∧ Below w.heap.size w w' := by
  have HR_ := Aside0.mk hr_
  clear hr_
  have TB := Aside0.mk tb
  clear tb
  have HR0 := Aside0.mk hr0
  have HC0 := Aside0.mk hc0
  clear hr0 hc0
  have HB := Aside0.mk (Below.refl w.heap.size w)
  have H : (if (a1.size : Int) > 1048576 then (some true) else ((laws_szNodeS.f k l0 1048576).bind fun t299 => (if t299 < 0 then (some true) else ((laws_toNodeS.f k l0).bind fun t300 => ((spec_FieldOf.f k t300 a1).bind fun bt303 => ((laws_toNodeS.f k l0).bind fun t307 => ((impl_FieldOf.f k t307 a1).bind fun bt310 => ((laws_eqNodeS.f k bt310.1 bt303.1).bind fun t314 => (if t314 = true then (laws_FnExactFieldOf.j0 k l0 a1 bt303.1 bt303.2 t307 bt310.1 bt310.2 (bt310.2 != bt303.2)) else (laws_FnExactFieldOf.j0 k l0 a1 bt303.1 bt303.2 t307 bt310.1 bt310.2 true)))))))))) = some r := h
  clear h
  by_cases c3 : (a1.size : Int) > 1048576
  · rw [if_pos c3] at H
    have c3b0 : decide (1048576 < (a1.size : Int)) = true := decide_eq_true c3
    have c3b1 : decide (1048576 < a1.size) = true := decide_eq_true (by omega)
    clear c3
    as_aux_lemma =>
      obtain rfl := Option.some.inj H
      go_enter Tryd.func6, Tryd.ntmps6
      go_wp2
      go_ret
      exact ⟨by first | rfl | (simp [errW_none, errW_some] <;> rfl) | (simp [*, errW_none, errW_some] <;> rfl), by repeat (first | (with_reducible first | exact HB.out | apply below_alloc | apply pw_below_drewN | apply below_drew1) | exact HB.out)⟩
  · rw [if_neg c3] at H
    have c3b0 : decide (1048576 < (a1.size : Int)) = false := decide_eq_false c3
    have c3b1 : decide (1048576 < a1.size) = false := decide_eq_false (by omega)
    clear c3
    replace H := Option.bind_eq_some_iff.mp H
    obtain ⟨t299, A40, H⟩ := H
    replace H : (if t299 < 0 then (some true) else ((laws_toNodeS.f k l0).bind fun t300 => ((spec_FieldOf.f k t300 a1).bind fun bt303 => ((laws_toNodeS.f k l0).bind fun t307 => ((impl_FieldOf.f k t307 a1).bind fun bt310 => ((laws_eqNodeS.f k bt310.1 bt303.1).bind fun t314 => (if t314 = true then (laws_FnExactFieldOf.j0 k l0 a1 bt303.1 bt303.2 t307 bt310.1 bt310.2 (bt310.2 != bt303.2)) else (laws_FnExactFieldOf.j0 k l0 a1 bt303.1 bt303.2 t307 bt310.1 bt310.2 true)))))))) = some r := H
    have A4 := Aside0.mk A40
    clear A40
    by_cases c5 : t299 < 0
    · rw [if_pos c5] at H
      have c5b0 : decide (t299 < 0) = true := decide_eq_true c5
      clear c5
      as_aux_lemma =>
        obtain rfl := Option.some.inj H
        go_enter Tryd.func6, Tryd.ntmps6
        go_wp2_with (first | ((with_reducible refine gate_callee (f := 15) rfl ?_); refine goesL_ (some 21) rfl rfl Tryd.func15 (by kernel_rfl) rfl #[.slice A0 l0.length c0, .int .i64 1048576] rfl (by (try simp only [List.map_toArray, List.map_cons, List.map_nil]); first | done | rfl | (simp only [List.length_drop, List.length_take]; rfl)) ?_; (with_reducible refine (laws_szNodeS.calls k _ _ l0 1048576 t299 _ ?side1 ?side2 A4.out).mono ?_); (case side1 => repeat (first | exact HR0.out | (with_reducible refine Kd.C_alloc ?_ _) | (with_reducible refine Kd.C_drewN ?_ _) | (with_reducible refine Kd.C_drew ?_))); (case side2 => exact HC0.out); rintro e w6 ⟨rfl, hb⟩; refine ⟨_, rfl, ?_⟩; have n0_ := Aside0.mk (below_step (by repeat (first | (with_reducible first | exact HB.out | apply below_alloc | apply pw_below_drewN | apply below_drew1) | exact HB.out)) hb); clear HB; have HB := n0_; clear n0_; (try clear hb); (try clear hb2); (try clear hk); (try clear hi)))
        go_ret
        exact ⟨by first | rfl | (simp [errW_none, errW_some] <;> rfl) | (simp [*, errW_none, errW_some] <;> rfl), by repeat (first | (with_reducible first | exact HB.out | apply below_alloc | apply pw_below_drewN | apply below_drew1) | exact HB.out)⟩
    · rw [if_neg c5] at H
      have c5b0 : decide (t299 < 0) = false := decide_eq_false c5
      clear c5
      replace H := Option.bind_eq_some_iff.mp H
      obtain ⟨t300, A70, H⟩ := H
      replace H : ((spec_FieldOf.f k t300 a1).bind fun bt303 => ((laws_toNodeS.f k l0).bind fun t307 => ((impl_FieldOf.f k t307 a1).bind fun bt310 => ((laws_eqNodeS.f k bt310.1 bt303.1).bind fun t314 => (if t314 = true then (laws_FnExactFieldOf.j0 k l0 a1 bt303.1 bt303.2 t307 bt310.1 bt310.2 (bt310.2 != bt303.2)) else (laws_FnExactFieldOf.j0 k l0 a1 bt303.1 bt303.2 t307 bt310.1 bt310.2 true)))))) = some r := H
      have A7 := Aside0.mk A70
      clear A70
      replace H := Option.bind_eq_some_iff.mp H
      obtain ⟨⟨t303, t304⟩, A80, H⟩ := H
      replace H : ((laws_toNodeS.f k l0).bind fun t307 => ((impl_FieldOf.f k t307 a1).bind fun bt310 => ((laws_eqNodeS.f k bt310.1 t303).bind fun t314 => (if t314 = true then (laws_FnExactFieldOf.j0 k l0 a1 t303 t304 t307 bt310.1 bt310.2 (bt310.2 != t304)) else (laws_FnExactFieldOf.j0 k l0 a1 t303 t304 t307 bt310.1 bt310.2 true))))) = some r := H
      have A8 := Aside0.mk A80
      clear A80
      replace H := Option.bind_eq_some_iff.mp H
      obtain ⟨t307, A90, H⟩ := H
      replace H : ((impl_FieldOf.f k t307 a1).bind fun bt310 => ((laws_eqNodeS.f k bt310.1 t303).bind fun t314 => (if t314 = true then (laws_FnExactFieldOf.j0 k l0 a1 t303 t304 t307 bt310.1 bt310.2 (bt310.2 != t304)) else (laws_FnExactFieldOf.j0 k l0 a1 t303 t304 t307 bt310.1 bt310.2 true)))) = some r := H
      have A9 := Aside0.mk A90
      clear A90
      replace H := Option.bind_eq_some_iff.mp H
      obtain ⟨⟨t310, t311⟩, A100, H⟩ := H
      replace H : ((laws_eqNodeS.f k t310 t303).bind fun t314 => (if t314 = true then (laws_FnExactFieldOf.j0 k l0 a1 t303 t304 t307 t310 t311 (t311 != t304)) else (laws_FnExactFieldOf.j0 k l0 a1 t303 t304 t307 t310 t311 true))) = some r := H
      have A10 := Aside0.mk A100
      clear A100
      have HC11 := Aside0.mk H
      clear H
      go_enter Tryd.func6, Tryd.ntmps6
      go_upto_region 10 with (first | ((with_reducible refine gate_callee (f := 15) rfl ?_); refine goesL_ (some 21) rfl rfl Tryd.func15 (by kernel_rfl) rfl #[.slice A0 l0.length c0, .int .i64 1048576] rfl (by (try simp only [List.map_toArray, List.map_cons, List.map_nil]); first | done | rfl | (simp only [List.length_drop, List.length_take]; rfl)) ?_; (with_reducible refine (laws_szNodeS.calls k _ _ l0 1048576 t299 _ ?side1 ?side2 A4.out).mono ?_); (case side1 => repeat (first | exact HR0.out | (with_reducible refine Kd.C_alloc ?_ _) | (with_reducible refine Kd.C_drewN ?_ _) | (with_reducible refine Kd.C_drew ?_))); (case side2 => exact HC0.out); rintro e w12 ⟨rfl, hb⟩; refine ⟨_, rfl, ?_⟩; have n0_ := Aside0.mk (below_step (by repeat (first | (with_reducible first | exact HB.out | apply below_alloc | apply pw_below_drewN | apply below_drew1) | exact HB.out)) hb); clear HB; have HB := n0_; clear n0_; (try clear hb); (try clear hb2); (try clear hk); (try clear hi)) | ((with_reducible refine gate_callee (f := 17) rfl ?_); refine goesL_ (some 26) rfl rfl Tryd.func17 (by kernel_rfl) rfl #[.slice A0 l0.length c0] rfl (by (try simp only [List.map_toArray, List.map_cons, List.map_nil]); first | done | rfl | (simp only [List.length_drop, List.length_take]; rfl)) ?_; (with_reducible refine (laws_toNodeS.calls k _ _ l0 t300 _ ?side1 ?side2 A7.out).mono ?_); (case side1 => repeat (first | exact (Kd.C_below HR0.out HB.out) | (with_reducible refine Kd.C_alloc ?_ _) | (with_reducible refine Kd.C_drewN ?_ _) | (with_reducible refine Kd.C_drew ?_))); (case side2 => exact HC0.out); rintro e w13 ⟨v301, rfl, ho0, hb⟩; refine ⟨_, rfl, ?_⟩; have n0_ := Aside0.mk (Kd.R_lower ho0 (below_size (by repeat (first | (with_reducible first | exact HB.out | apply below_alloc | apply pw_below_drewN | apply below_drew1) | exact HB.out)))); have n1_ := Aside0.mk (below_step (by repeat (first | (with_reducible first | exact HB.out | apply below_alloc | apply pw_below_drewN | apply below_drew1) | exact HB.out)) hb); clear HB; have HO302 := n0_; have HB := n1_; clear n0_ n1_; (try clear hb); (try clear hb2); (try clear hk); (try clear hi); (try clear ho0); obtain ⟨Ao14, co14, eo14⟩ := Kd.R_slice HO302.out; subst eo14) | ((with_reducible refine gate_callee (f := 21) rfl ?_); refine goesL_ (some 28) rfl rfl Tryd.func21 (by kernel_rfl) rfl #[.slice Ao14 t300.length co14, .string a1] rfl (by (try simp only [List.map_toArray, List.map_cons, List.map_nil]); first | done | rfl | (simp only [List.length_drop, List.length_take]; rfl)) ?_; (with_reducible refine (spec_FieldOf.calls k _ _ t300 a1 t303 t304 _ ?side1 ?side2 A8.out).mono ?_); (case side1 => repeat (first | exact (Kd.R_reads' HO302.out).2.2 | (with_reducible refine Kd.C_alloc ?_ _) | (with_reducible refine Kd.C_drewN ?_ _) | (with_reducible refine Kd.C_drew ?_))); (case side2 => exact (Kd.R_reads' HO302.out).2.1); rintro e w15 ⟨v305, rfl, ho0, hb⟩; refine ⟨_, rfl, ?_⟩; have n0_ := Aside0.mk (Kd.R_elder' (by (with_reducible repeat (first | apply Kd.R_alloc | apply Kd.R_drewN | apply Kd.R_drew)); exact HO302.out) (Kd.R_base ho0) hb); have n1_ := Aside0.mk (Kd.R_lower (Kd.R_new' ho0 (Kd.R_lt (by (with_reducible repeat (first | apply Kd.R_alloc | apply Kd.R_drewN | apply Kd.R_drew)); exact HO302.out))) (below_size (by repeat (first | (with_reducible first | exact HB.out | apply below_alloc | apply pw_below_drewN | apply below_drew1) | exact HB.out)))); have n2_ := Aside0.mk (below_step (by repeat (first | (with_reducible first | exact HB.out | apply below_alloc | apply pw_below_drewN | apply below_drew1) | exact HB.out)) hb); clear HO302; clear HB; have HO302 := n0_; have HO306 := n1_; have HB := n2_; clear n0_ n1_ n2_; (try clear hb); (try clear hb2); (try clear hk); (try clear hi); (try clear ho0)) | ((with_reducible refine gate_callee (f := 17) rfl ?_); refine goesL_ (some 32) rfl rfl Tryd.func17 (by kernel_rfl) rfl #[.slice A0 l0.length c0] rfl (by (try simp only [List.map_toArray, List.map_cons, List.map_nil]); first | done | rfl | (simp only [List.length_drop, List.length_take]; rfl)) ?_; (with_reducible refine (laws_toNodeS.calls k _ _ l0 t307 _ ?side1 ?side2 A9.out).mono ?_); (case side1 => repeat (first | exact (Kd.C_below HR0.out HB.out) | (with_reducible refine Kd.C_alloc ?_ _) | (with_reducible refine Kd.C_drewN ?_ _) | (with_reducible refine Kd.C_drew ?_))); (case side2 => exact HC0.out); rintro e w16 ⟨v308, rfl, ho0, hb⟩; refine ⟨_, rfl, ?_⟩; have n0_ := Aside0.mk (Kd.R_elder' (by (with_reducible repeat (first | apply Kd.R_alloc | apply Kd.R_drewN | apply Kd.R_drew)); exact HO302.out) (Kd.R_base ho0) hb); have n1_ := Aside0.mk (Kd.R_elder' (by (with_reducible repeat (first | apply Kd.R_alloc | apply Kd.R_drewN | apply Kd.R_drew)); exact HO306.out) (Kd.R_base ho0) hb); have n2_ := Aside0.mk (Kd.R_lower (Kd.R_new' (Kd.R_new' ho0 (Kd.R_lt (by (with_reducible repeat (first | apply Kd.R_alloc | apply Kd.R_drewN | apply Kd.R_drew)); exact HO302.out))) (Kd.R_lt (by (with_reducible repeat (first | apply Kd.R_alloc | apply Kd.R_drewN | apply Kd.R_drew)); exact HO306.out))) (below_size (by repeat (first | (with_reducible first | exact HB.out | apply below_alloc | apply pw_below_drewN | apply below_drew1) | exact HB.out)))); have n3_ := Aside0.mk (below_step (by repeat (first | (with_reducible first | exact HB.out | apply below_alloc | apply pw_below_drewN | apply below_drew1) | exact HB.out)) hb); clear HO302; clear HO306; clear HB; have HO302 := n0_; have HO306 := n1_; have HO309 := n2_; have HB := n3_; clear n0_ n1_ n2_ n3_; (try clear hb); (try clear hb2); (try clear hk); (try clear hi); (try clear ho0); obtain ⟨Ao17, co17, eo17⟩ := Kd.R_slice HO309.out; subst eo17) | ((with_reducible refine gate_callee (f := 22) rfl ?_); refine goesL_ (some 36) rfl rfl Tryd.func22 (by kernel_rfl) rfl #[.slice Ao17 t307.length co17, .string a1] rfl (by (try simp only [List.map_toArray, List.map_cons, List.map_nil]); first | done | rfl | (simp only [List.length_drop, List.length_take]; rfl)) ?_; (with_reducible refine (impl_FieldOf.calls k _ _ t307 a1 t310 t311 _ ?side1 ?side2 ?side3 A10.out).mono ?_); (case side1 => exact Go.Proofs.YtkfbdopfeacnfaaDoor.TabsU.Tabs0.of_below TB.out (by repeat (first | (with_reducible first | exact HB.out | apply below_alloc | apply pw_below_drewN | apply below_drew1) | exact HB.out))); (case side2 => repeat (first | exact (Kd.R_reads' HO309.out).2.2 | (with_reducible refine Kd.C_alloc ?_ _) | (with_reducible refine Kd.C_drewN ?_ _) | (with_reducible refine Kd.C_drew ?_))); (case side3 => exact (Kd.R_reads' HO309.out).2.1); rintro e w18 ⟨v312, rfl, ho0, hb⟩; refine ⟨_, rfl, ?_⟩; have n0_ := Aside0.mk (Kd.R_elder' (by (with_reducible repeat (first | apply Kd.R_alloc | apply Kd.R_drewN | apply Kd.R_drew)); exact HO302.out) (Kd.R_base ho0) hb); have n1_ := Aside0.mk (Kd.R_elder' (by (with_reducible repeat (first | apply Kd.R_alloc | apply Kd.R_drewN | apply Kd.R_drew)); exact HO306.out) (Kd.R_base ho0) hb); have n2_ := Aside0.mk (Kd.R_elder' (by (with_reducible repeat (first | apply Kd.R_alloc | apply Kd.R_drewN | apply Kd.R_drew)); exact HO309.out) (Kd.R_base ho0) hb); have n3_ := Aside0.mk (Kd.R_lower (Kd.R_new' (Kd.R_new' (Kd.R_new' ho0 (Kd.R_lt (by (with_reducible repeat (first | apply Kd.R_alloc | apply Kd.R_drewN | apply Kd.R_drew)); exact HO302.out))) (Kd.R_lt (by (with_reducible repeat (first | apply Kd.R_alloc | apply Kd.R_drewN | apply Kd.R_drew)); exact HO306.out))) (Kd.R_lt (by (with_reducible repeat (first | apply Kd.R_alloc | apply Kd.R_drewN | apply Kd.R_drew)); exact HO309.out))) (below_size (by repeat (first | (with_reducible first | exact HB.out | apply below_alloc | apply pw_below_drewN | apply below_drew1) | exact HB.out)))); have n4_ := Aside0.mk (below_step (by repeat (first | (with_reducible first | exact HB.out | apply below_alloc | apply pw_below_drewN | apply below_drew1) | exact HB.out)) hb); clear HO302; clear HO306; clear HO309; clear HB; have HO302 := n0_; have HO306 := n1_; have HO309 := n2_; have HO313 := n3_; have HB := n4_; clear n0_ n1_ n2_ n3_ n4_; (try clear hb); (try clear hb2); (try clear hk); (try clear hi); (try clear ho0)))
      (try simp only [Act.put, List.setIfInBounds_toArray, List.set_cons_zero, List.set_cons_succ])
      go_cut [47] (fun v47 wc => ∃ (kq : Nat) (x47_10 : Bool), v47 = .bool x47_10 ∧ Aside0 (laws_FnExactFieldOf.j0 kq l0 a1 t303 t304 t307 t310 t311 x47_10 = some r) ∧ Aside0 (kq ≤ k) ∧ Aside0 (Kd.R k61 61 wc w.heap.size (fun k_ => some k_ ≠ ((.slice Ao17 t307.length co17) : Value).ownBlock ∧ some k_ ≠ (v312 : Value).ownBlock) v305 t303) ∧ Aside0 (Kd.R k61 61 wc w.heap.size (fun k_ => some k_ ≠ (v305 : Value).ownBlock ∧ some k_ ≠ (v312 : Value).ownBlock) (.slice Ao17 t307.length co17) t307) ∧ Aside0 (Kd.R k61 61 wc w.heap.size (fun k_ => some k_ ≠ (v305 : Value).ownBlock ∧ some k_ ≠ ((.slice Ao17 t307.length co17) : Value).ownBlock) v312 t310) ∧ Aside0 (Below w.heap.size w wc))
      case first =>
        have H := HC11.out
        clear HC11
        replace H := Option.bind_eq_some_iff.mp H
        obtain ⟨t314, A190, H⟩ := H
        replace H : (if t314 = true then (laws_FnExactFieldOf.j0 k l0 a1 t303 t304 t307 t310 t311 (t311 != t304)) else (laws_FnExactFieldOf.j0 k l0 a1 t303 t304 t307 t310 t311 true)) = some r := H
        have A19 := Aside0.mk A190
        clear A190
        by_cases c20 : t314 = true
        · subst c20
          have H1 : (laws_FnExactFieldOf.j0 k l0 a1 t303 t304 t307 t310 t311 (t311 != t304)) = some r := by rw [if_pos rfl] at H; exact H
          clear H
          have H := H1
          clear H1
          as_aux_lemma =>
            have H' := Aside0.mk H
            clear H
            obtain ⟨Ao21, co21, eo21⟩ := Kd.R_slice HO313.out
            subst eo21
            obtain ⟨Ao22, co22, eo22⟩ := Kd.R_slice HO306.out
            subst eo22
            go_wp2_with (first | ((with_reducible refine gate_callee (f := 12) rfl ?_); refine goesL_ (some 41) rfl rfl Tryd.func12 (by kernel_rfl) rfl #[.slice Ao21 t310.length co21, .slice Ao22 t303.length co22] rfl (by (try simp only [List.map_toArray, List.map_cons, List.map_nil]); first | done | rfl | (simp only [List.length_drop, List.length_take]; rfl)) ?_; (with_reducible refine (laws_eqNodeS.calls k _ _ t310 _ _ t303 true _ ?side1 ?side2 ?side3 ?side4 A19.out).mono ?_); (case side1 => repeat (first | exact (Kd.R_reads' HO313.out).2.2 | (with_reducible refine Kd.C_alloc ?_ _) | (with_reducible refine Kd.C_drewN ?_ _) | (with_reducible refine Kd.C_drew ?_))); (case side2 => exact (Kd.R_reads' HO313.out).2.1); (case side3 => repeat (first | exact (Kd.R_reads' HO306.out).2.2 | (with_reducible refine Kd.C_alloc ?_ _) | (with_reducible refine Kd.C_drewN ?_ _) | (with_reducible refine Kd.C_drew ?_))); (case side4 => exact (Kd.R_reads' HO306.out).2.1); rintro e w23 ⟨rfl, hb⟩; refine ⟨_, rfl, ?_⟩; have n0_ := Aside0.mk (Kd.R_below (by (with_reducible repeat (first | apply Kd.R_alloc | apply Kd.R_drewN | apply Kd.R_drew)); exact HO302.out) hb); have n1_ := Aside0.mk (Kd.R_below (by (with_reducible repeat (first | apply Kd.R_alloc | apply Kd.R_drewN | apply Kd.R_drew)); exact HO306.out) hb); have n2_ := Aside0.mk (Kd.R_below (by (with_reducible repeat (first | apply Kd.R_alloc | apply Kd.R_drewN | apply Kd.R_drew)); exact HO309.out) hb); have n3_ := Aside0.mk (Kd.R_below (by (with_reducible repeat (first | apply Kd.R_alloc | apply Kd.R_drewN | apply Kd.R_drew)); exact HO313.out) hb); have n4_ := Aside0.mk (below_step (by repeat (first | (with_reducible first | exact HB.out | apply below_alloc | apply pw_below_drewN | apply below_drew1) | exact HB.out)) hb); clear HO302; clear HO306; clear HO309; clear HO313; clear HB; have HO302 := n0_; have HO306 := n1_; have HO309 := n2_; have HO313 := n3_; have HB := n4_; clear n0_ n1_ n2_ n3_ n4_; (try clear hb); (try clear hb2); (try clear hk); (try clear hi)))
            go_meet
            case rel => exact ⟨_, ((t311 != t304)), (by first | rfl | (simp; done) | (simp [*]; done) | (simp; apply Bool.eq_iff_iff.mpr; simp only [bne_iff_ne, ne_eq, beq_iff_eq]; omega)), H', ⟨by first | omega | exact Nat.le_refl _⟩, ⟨by (with_reducible repeat (first | apply Kd.R_alloc | apply Kd.R_drewN | apply Kd.R_drew)); exact Kd.R_mono HO306.out (fun _ hk => ⟨hk.1.2, hk.2⟩)⟩, ⟨by (with_reducible repeat (first | apply Kd.R_alloc | apply Kd.R_drewN | apply Kd.R_drew)); exact Kd.R_mono HO309.out (fun _ hk => ⟨hk.1.2, hk.2⟩)⟩, ⟨by (with_reducible repeat (first | apply Kd.R_alloc | apply Kd.R_drewN | apply Kd.R_drew)); exact Kd.R_mono HO313.out (fun _ hk => ⟨hk.1.2, hk.2⟩)⟩, ⟨by repeat (first | (with_reducible first | exact HB.out | apply below_alloc | apply pw_below_drewN | apply below_drew1) | exact HB.out)⟩⟩
        · replace c20 := Bool.eq_false_iff.mpr c20
          subst c20
          have H1 : (laws_FnExactFieldOf.j0 k l0 a1 t303 t304 t307 t310 t311 true) = some r := by rw [if_neg (show ¬ (false = true) by decide)] at H; exact H
          clear H
          have H := H1
          clear H1
          exfalso
          cases k with
          | zero => exact absurd H (by simp [laws_FnExactFieldOf.j0])
          | succ kz_ => rw [laws_FnExactFieldOf.j0, if_pos rfl] at H; exact absurd ((Option.some.inj H).trans HR_.out) (by decide)
      case rest =>
        clear HC11
        try clear c1
        try clear c2
        try clear p2
        try clear c3
        try clear c3b0
        try clear c3b1
        try clear c5
        try clear c5b0
        try clear c6
        try clear c12
        try clear c15
        try clear c17
        try clear c20
        try clear c21
        try clear c22
        obtain ⟨kq, x47_10, rfl, HA, HJ10, HO_6, HO_8, HO_9, HB⟩ := hcut
        cases kq with
        | zero => exact absurd HA.out (by simp [laws_FnExactFieldOf.j0])
        | succ kj10 =>
          have H := HA.out
          clear HA
          simp only [laws_FnExactFieldOf.j0] at H
          by_cases c24 : x47_10 = true
          · subst c24
            have H1 : (some false) = some r := by rw [if_pos rfl] at H; exact H
            clear H
            have H := H1
            clear H1
            exact absurd ((Option.some.inj H).trans HR_.out) (by decide)
          · replace c24 := Bool.eq_false_iff.mpr c24
            subst c24
            have H1 : ((laws_toNodeS.f kj10 l0).bind fun t315 => ((laws_eqNodeS.f kj10 t307 t315).bind fun t318 => (if t318 = true then ((laws_markNodeS.f kj10 t307 1).bind fun bt319 => (if bt319.1 < 0 then (laws_FnExactFieldOf.j1 kj10 l0 a1 t303 t304 t310 true) else ((laws_eqNodeS.f kj10 t310 t303).bind fun t321 => (if t321 = true then (laws_FnExactFieldOf.j1 kj10 l0 a1 t303 t304 t310 (t311 != t304)) else (laws_FnExactFieldOf.j1 kj10 l0 a1 t303 t304 t310 true))))) else (some false)))) = some r := by rw [if_neg (show ¬ (false = true) by decide)] at H; exact H
            clear H
            have H := H1
            clear H1
            replace H := Option.bind_eq_some_iff.mp H
            obtain ⟨t315, A250, H⟩ := H
            replace H : ((laws_eqNodeS.f kj10 t307 t315).bind fun t318 => (if t318 = true then ((laws_markNodeS.f kj10 t307 1).bind fun bt319 => (if bt319.1 < 0 then (laws_FnExactFieldOf.j1 kj10 l0 a1 t303 t304 t310 true) else ((laws_eqNodeS.f kj10 t310 t303).bind fun t321 => (if t321 = true then (laws_FnExactFieldOf.j1 kj10 l0 a1 t303 t304 t310 (t311 != t304)) else (laws_FnExactFieldOf.j1 kj10 l0 a1 t303 t304 t310 true))))) else (some false))) = some r := H
            have A25 := Aside0.mk A250
            clear A250
            replace H := Option.bind_eq_some_iff.mp H
            obtain ⟨t318, A260, H⟩ := H
            replace H : (if t318 = true then ((laws_markNodeS.f kj10 t307 1).bind fun bt319 => (if bt319.1 < 0 then (laws_FnExactFieldOf.j1 kj10 l0 a1 t303 t304 t310 true) else ((laws_eqNodeS.f kj10 t310 t303).bind fun t321 => (if t321 = true then (laws_FnExactFieldOf.j1 kj10 l0 a1 t303 t304 t310 (t311 != t304)) else (laws_FnExactFieldOf.j1 kj10 l0 a1 t303 t304 t310 true))))) else (some false)) = some r := H
            have A26 := Aside0.mk A260
            clear A260
            by_cases c27 : t318 = true
            · subst c27
              have H1 : ((laws_markNodeS.f kj10 t307 1).bind fun bt319 => (if bt319.1 < 0 then (laws_FnExactFieldOf.j1 kj10 l0 a1 t303 t304 t310 true) else ((laws_eqNodeS.f kj10 t310 t303).bind fun t321 => (if t321 = true then (laws_FnExactFieldOf.j1 kj10 l0 a1 t303 t304 t310 (t311 != t304)) else (laws_FnExactFieldOf.j1 kj10 l0 a1 t303 t304 t310 true))))) = some r := by rw [if_pos rfl] at H; exact H
              clear H
              have H := H1
              clear H1
              replace H := Option.bind_eq_some_iff.mp H
              obtain ⟨⟨t319, t320⟩, A280, H⟩ := H
              replace H : (if t319 < 0 then (laws_FnExactFieldOf.j1 kj10 l0 a1 t303 t304 t310 true) else ((laws_eqNodeS.f kj10 t310 t303).bind fun t321 => (if t321 = true then (laws_FnExactFieldOf.j1 kj10 l0 a1 t303 t304 t310 (t311 != t304)) else (laws_FnExactFieldOf.j1 kj10 l0 a1 t303 t304 t310 true)))) = some r := H
              have A28 := Aside0.mk A280
              clear A280
              have HC29 := Aside0.mk H
              clear H
              go_upto_region 16 with (first | ((with_reducible refine gate_callee (f := 17) rfl ?_); refine goesL_ (some 50) rfl rfl Tryd.func17 (by kernel_rfl) rfl #[.slice A0 l0.length c0] rfl (by (try simp only [List.map_toArray, List.map_cons, List.map_nil]); first | done | rfl | (simp only [List.length_drop, List.length_take]; rfl)) ?_; (with_reducible refine (laws_toNodeS.calls kj10 _ _ l0 t315 _ ?side1 ?side2 A25.out).mono ?_); (case side1 => repeat (first | exact (Kd.C_below HR0.out HB.out) | (with_reducible refine Kd.C_alloc ?_ _) | (with_reducible refine Kd.C_drewN ?_ _) | (with_reducible refine Kd.C_drew ?_))); (case side2 => exact HC0.out); rintro e w30 ⟨v316, rfl, ho0, hb⟩; refine ⟨_, rfl, ?_⟩; have n0_ := Aside0.mk (Kd.R_elder' (by (with_reducible repeat (first | apply Kd.R_alloc | apply Kd.R_drewN | apply Kd.R_drew)); exact HO_6.out) (Kd.R_base ho0) hb); have n1_ := Aside0.mk (Kd.R_elder' (by (with_reducible repeat (first | apply Kd.R_alloc | apply Kd.R_drewN | apply Kd.R_drew)); exact HO_8.out) (Kd.R_base ho0) hb); have n2_ := Aside0.mk (Kd.R_elder' (by (with_reducible repeat (first | apply Kd.R_alloc | apply Kd.R_drewN | apply Kd.R_drew)); exact HO_9.out) (Kd.R_base ho0) hb); have n3_ := Aside0.mk (Kd.R_lower (Kd.R_new' (Kd.R_new' (Kd.R_new' ho0 (Kd.R_lt (by (with_reducible repeat (first | apply Kd.R_alloc | apply Kd.R_drewN | apply Kd.R_drew)); exact HO_6.out))) (Kd.R_lt (by (with_reducible repeat (first | apply Kd.R_alloc | apply Kd.R_drewN | apply Kd.R_drew)); exact HO_8.out))) (Kd.R_lt (by (with_reducible repeat (first | apply Kd.R_alloc | apply Kd.R_drewN | apply Kd.R_drew)); exact HO_9.out))) (below_size (by repeat (first | (with_reducible first | exact HB.out | apply below_alloc | apply pw_below_drewN | apply below_drew1) | exact HB.out)))); have n4_ := Aside0.mk (below_step (by repeat (first | (with_reducible first | exact HB.out | apply below_alloc | apply pw_below_drewN | apply below_drew1) | exact HB.out)) hb); clear HO_6; clear HO_8; clear HO_9; clear HB; have HO_6 := n0_; have HO_8 := n1_; have HO_9 := n2_; have HO317 := n3_; have HB := n4_; clear n0_ n1_ n2_ n3_ n4_; (try clear hb); (try clear hb2); (try clear hk); (try clear hi); (try clear ho0); obtain ⟨Ao31, co31, eo31⟩ := Kd.R_slice HO317.out; subst eo31) | ((with_reducible refine gate_callee (f := 12) rfl ?_); refine goesL_ (some 51) rfl rfl Tryd.func12 (by kernel_rfl) rfl #[.slice Ao17 t307.length co17, .slice Ao31 t315.length co31] rfl (by (try simp only [List.map_toArray, List.map_cons, List.map_nil]); first | done | rfl | (simp only [List.length_drop, List.length_take]; rfl)) ?_; (with_reducible refine (laws_eqNodeS.calls kj10 _ _ t307 _ _ t315 true _ ?side1 ?side2 ?side3 ?side4 A26.out).mono ?_); (case side1 => repeat (first | exact (Kd.R_reads' HO_8.out).2.2 | (with_reducible refine Kd.C_alloc ?_ _) | (with_reducible refine Kd.C_drewN ?_ _) | (with_reducible refine Kd.C_drew ?_))); (case side2 => exact (Kd.R_reads' HO_8.out).2.1); (case side3 => repeat (first | exact (Kd.R_reads' HO317.out).2.2 | (with_reducible refine Kd.C_alloc ?_ _) | (with_reducible refine Kd.C_drewN ?_ _) | (with_reducible refine Kd.C_drew ?_))); (case side4 => exact (Kd.R_reads' HO317.out).2.1); rintro e w32 ⟨rfl, hb⟩; refine ⟨_, rfl, ?_⟩; have n0_ := Aside0.mk (Kd.R_below (by (with_reducible repeat (first | apply Kd.R_alloc | apply Kd.R_drewN | apply Kd.R_drew)); exact HO_6.out) hb); have n1_ := Aside0.mk (Kd.R_below (by (with_reducible repeat (first | apply Kd.R_alloc | apply Kd.R_drewN | apply Kd.R_drew)); exact HO_8.out) hb); have n2_ := Aside0.mk (Kd.R_below (by (with_reducible repeat (first | apply Kd.R_alloc | apply Kd.R_drewN | apply Kd.R_drew)); exact HO_9.out) hb); have n3_ := Aside0.mk (Kd.R_below (by (with_reducible repeat (first | apply Kd.R_alloc | apply Kd.R_drewN | apply Kd.R_drew)); exact HO317.out) hb); have n4_ := Aside0.mk (below_step (by repeat (first | (with_reducible first | exact HB.out | apply below_alloc | apply pw_below_drewN | apply below_drew1) | exact HB.out)) hb); clear HO_6; clear HO_8; clear HO_9; clear HO317; clear HB; have HO_6 := n0_; have HO_8 := n1_; have HO_9 := n2_; have HO317 := n3_; have HB := n4_; clear n0_ n1_ n2_ n3_ n4_; (try clear hb); (try clear hb2); (try clear hk); (try clear hi)) | ((with_reducible refine gate_callee (f := 13) rfl ?_); refine goesL_ (some 55) rfl rfl Tryd.func13 (by kernel_rfl) rfl #[.slice Ao17 t307.length co17, .int .i64 1] rfl (by (try simp only [List.map_toArray, List.map_cons, List.map_nil]); first | done | rfl | (simp only [List.length_drop, List.length_take]; rfl)) ?_; (with_reducible refine (laws_markNodeS.calls kj10 (fun k_ => some k_ = (.slice Ao17 t307.length co17 : Value).ownBlock) (.slice Ao17 t307.length co17) t307 1 t319 t320 w _ ?side1 ?side2 A28.out).mono ?_); (case side1 => repeat (first | (with_reducible first | exact HB.out | apply below_alloc | apply pw_below_drewN | apply below_drew1) | exact HB.out)); (case side2 => exact Kd.R_tight rfl HO_8.out); rintro e w33 ⟨rfl, hy0, hb, hkp⟩; refine ⟨_, rfl, ?_⟩; have n0_ := Aside0.mk (Kd.R_mono (ok' := fun k_ => some k_ ≠ (.slice Ao17 t307.length co17 : Value).ownBlock ∧ some k_ ≠ (v312 : Value).ownBlock ∧ some k_ ≠ (.slice Ao31 t315.length co31 : Value).ownBlock) (Kd.R_keptB (HO_6.out) hkp (fun k_ hk_ hs_ => (hk_.1.1) hs_)) (fun k_ hk_ => ⟨hk_.1.1.1, hk_.1.1.2, hk_.1.2⟩)); have n1_ := Aside0.mk (Kd.R_reok rfl hy0 (fun k_ e_ => HO_8.out.1 k_ e_)); have n2_ := Aside0.mk (Kd.R_mono (ok' := fun k_ => some k_ ≠ (v305 : Value).ownBlock ∧ some k_ ≠ (.slice Ao17 t307.length co17 : Value).ownBlock ∧ some k_ ≠ (.slice Ao31 t315.length co31 : Value).ownBlock) (Kd.R_keptB (HO_9.out) hkp (fun k_ hk_ hs_ => (hk_.1.2) hs_)) (fun k_ hk_ => ⟨hk_.1.1.1, hk_.1.1.2, hk_.1.2⟩)); have n3_ := Aside0.mk (Kd.R_mono (ok' := fun k_ => some k_ ≠ (v305 : Value).ownBlock ∧ some k_ ≠ (.slice Ao17 t307.length co17 : Value).ownBlock ∧ some k_ ≠ (v312 : Value).ownBlock) (Kd.R_keptB (HO317.out) hkp (fun k_ hk_ hs_ => (hk_.1.2) hs_)) (fun k_ hk_ => ⟨hk_.1.1.1.2, hk_.1.1.2, hk_.1.2⟩)); have n4_ := Aside0.mk (hb); clear HO_6; clear HO_8; clear HO_9; clear HO317; clear HB; have HO_6 := n0_; have HO_8 := n1_; have HO_9 := n2_; have HO317 := n3_; have HB := n4_; clear n0_ n1_ n2_ n3_ n4_; (try clear hb); (try clear hkp); (try clear hy0)))
              (try simp only [Act.put, List.setIfInBounds_toArray, List.set_cons_zero, List.set_cons_succ])
              go_cut [68] (fun v68 wc => ∃ (kq : Nat) (x68_28 : Bool), v68 = .bool x68_28 ∧ Aside0 (laws_FnExactFieldOf.j1 kq l0 a1 t303 t304 t310 x68_28 = some r) ∧ Aside0 (kq ≤ kj10) ∧ Aside0 (Kd.R k61 61 wc w.heap.size (fun k_ => some k_ ≠ (v312 : Value).ownBlock) v305 t303) ∧ Aside0 (Kd.R k61 61 wc w.heap.size (fun k_ => some k_ ≠ (v305 : Value).ownBlock) v312 t310) ∧ Aside0 (Below w.heap.size w wc))
              case first =>
                have H := HC29.out
                clear HC29
                by_cases c34 : t319 < 0
                · rw [if_pos c34] at H
                  have c34b0 : decide (t319 < 0) = true := decide_eq_true c34
                  clear c34
                  (first | rw [c34b0] | (simp only [i64_w, i32_w]; rw [c34b0]) | skip)
                  exfalso
                  cases kj10 with
                  | zero => exact absurd H (by simp [laws_FnExactFieldOf.j1])
                  | succ kz_ => rw [laws_FnExactFieldOf.j1, if_pos rfl] at H; exact absurd ((Option.some.inj H).trans HR_.out) (by decide)
                · rw [if_neg c34] at H
                  have c34b0 : decide (t319 < 0) = false := decide_eq_false c34
                  clear c34
                  (first | rw [c34b0] | (simp only [i64_w, i32_w]; rw [c34b0]) | skip)
                  replace H := Option.bind_eq_some_iff.mp H
                  obtain ⟨t321, A350, H⟩ := H
                  replace H : (if t321 = true then (laws_FnExactFieldOf.j1 kj10 l0 a1 t303 t304 t310 (t311 != t304)) else (laws_FnExactFieldOf.j1 kj10 l0 a1 t303 t304 t310 true)) = some r := H
                  have A35 := Aside0.mk A350
                  clear A350
                  by_cases c36 : t321 = true
                  · subst c36
                    have H1 : (laws_FnExactFieldOf.j1 kj10 l0 a1 t303 t304 t310 (t311 != t304)) = some r := by rw [if_pos rfl] at H; exact H
                    clear H
                    have H := H1
                    clear H1
                    as_aux_lemma =>
                      have H' := Aside0.mk H
                      clear H
                      obtain ⟨Ao37, co37, eo37⟩ := Kd.R_slice HO_9.out
                      subst eo37
                      obtain ⟨Ao38, co38, eo38⟩ := Kd.R_slice HO_6.out
                      subst eo38
                      go_wp2_with (first | (go_at_call 12; (with_reducible refine (laws_eqNodeS.calls kj10 _ _ t310 _ _ t303 true _ ?side1 ?side2 ?side3 ?side4 A35.out).mono ?_); (case side1 => repeat (first | exact (Kd.R_reads' HO_9.out).2.2 | (with_reducible refine Kd.C_alloc ?_ _) | (with_reducible refine Kd.C_drewN ?_ _) | (with_reducible refine Kd.C_drew ?_))); (case side2 => exact (Kd.R_reads' HO_9.out).2.1); (case side3 => repeat (first | exact (Kd.R_reads' HO_6.out).2.2 | (with_reducible refine Kd.C_alloc ?_ _) | (with_reducible refine Kd.C_drewN ?_ _) | (with_reducible refine Kd.C_drew ?_))); (case side4 => exact (Kd.R_reads' HO_6.out).2.1); rintro e w39 ⟨rfl, hb⟩; have n0_ := Aside0.mk (Kd.R_below (by (with_reducible repeat (first | apply Kd.R_alloc | apply Kd.R_drewN | apply Kd.R_drew)); exact HO_6.out) hb); have n1_ := Aside0.mk (Kd.R_below (by (with_reducible repeat (first | apply Kd.R_alloc | apply Kd.R_drewN | apply Kd.R_drew)); exact HO_8.out) hb); have n2_ := Aside0.mk (Kd.R_below (by (with_reducible repeat (first | apply Kd.R_alloc | apply Kd.R_drewN | apply Kd.R_drew)); exact HO_9.out) hb); have n3_ := Aside0.mk (Kd.R_below (by (with_reducible repeat (first | apply Kd.R_alloc | apply Kd.R_drewN | apply Kd.R_drew)); exact HO317.out) hb); have n4_ := Aside0.mk (below_step (by repeat (first | (with_reducible first | exact HB.out | apply below_alloc | apply pw_below_drewN | apply below_drew1) | exact HB.out)) hb); clear HO_6; clear HO_8; clear HO_9; clear HO317; clear HB; have HO_6 := n0_; have HO_8 := n1_; have HO_9 := n2_; have HO317 := n3_; have HB := n4_; clear n0_ n1_ n2_ n3_ n4_; (try clear hb); (try clear hb2); (try clear hk); (try clear hi)))
                      go_meet
                      case rel => exact ⟨_, ((t311 != t304)), (by first | rfl | (simp; done) | (simp [*]; done) | (simp; apply Bool.eq_iff_iff.mpr; simp only [bne_iff_ne, ne_eq, beq_iff_eq]; omega)), H', ⟨by have := HJ10.out; first | omega | exact Nat.le_refl _⟩, ⟨by (with_reducible repeat (first | apply Kd.R_alloc | apply Kd.R_drewN | apply Kd.R_drew)); exact Kd.R_mono HO_6.out (fun _ hk => hk.2.1)⟩, ⟨by (with_reducible repeat (first | apply Kd.R_alloc | apply Kd.R_drewN | apply Kd.R_drew)); exact Kd.R_mono HO_9.out (fun _ hk => hk.1)⟩, ⟨by repeat (first | (with_reducible first | exact HB.out | apply below_alloc | apply pw_below_drewN | apply below_drew1) | exact HB.out)⟩⟩
                  · replace c36 := Bool.eq_false_iff.mpr c36
                    subst c36
                    have H1 : (laws_FnExactFieldOf.j1 kj10 l0 a1 t303 t304 t310 true) = some r := by rw [if_neg (show ¬ (false = true) by decide)] at H; exact H
                    clear H
                    have H := H1
                    clear H1
                    exfalso
                    cases kj10 with
                    | zero => exact absurd H (by simp [laws_FnExactFieldOf.j1])
                    | succ kz_ => rw [laws_FnExactFieldOf.j1, if_pos rfl] at H; exact absurd ((Option.some.inj H).trans HR_.out) (by decide)
              case rest =>
                clear HC29
                try clear c1
                try clear c2
                try clear p2
                try clear c3
                try clear c3b0
                try clear c3b1
                try clear c5
                try clear c5b0
                try clear c6
                try clear c12
                try clear c13
                try clear c15
                try clear c17
                try clear c20
                try clear c21
                try clear c22
                try clear c24
                try clear c27
                try clear c34
                try clear c34b0
                try clear c36
                try clear p2
                obtain ⟨kq, x68_28, rfl, HA, HJ28, HO_6, HO_9, HB⟩ := hcut
                cases kq with
                | zero => exact absurd HA.out (by simp [laws_FnExactFieldOf.j1])
                | succ kj28 =>
                  have H := HA.out
                  clear HA
                  simp only [laws_FnExactFieldOf.j1] at H
                  by_cases c40 : x68_28 = true
                  · subst c40
                    have H1 : (some false) = some r := by rw [if_pos rfl] at H; exact H
                    clear H
                    have H := H1
                    clear H1
                    exact absurd ((Option.some.inj H).trans HR_.out) (by decide)
                  · replace c40 := Bool.eq_false_iff.mpr c40
                    subst c40
                    have H1 : ((laws_markNodeS.f kj28 t310 1).bind fun bt322 => ((laws_heldNodeS.f kj28 bt322.2 1).bind fun t324 => (if t324 < 0 then (some false) else (if t324 = bt322.1 then ((laws_toNodeS.f kj28 l0).bind fun t325 => ((impl_FieldOf.f kj28 t325 a1).bind fun bt328 => ((laws_eqNodeS.f kj28 bt328.1 t303).bind fun t332 => (if t332 = true then (laws_FnExactFieldOf.j2 kj28 bt322.2 bt322.1 (bt328.2 != t304)) else (laws_FnExactFieldOf.j2 kj28 bt322.2 bt322.1 true))))) else (some false))))) = some r := by rw [if_neg (show ¬ (false = true) by decide)] at H; exact H
                    clear H
                    have H := H1
                    clear H1
                    replace H := Option.bind_eq_some_iff.mp H
                    obtain ⟨⟨t322, t323⟩, A410, H⟩ := H
                    replace H : ((laws_heldNodeS.f kj28 t323 1).bind fun t324 => (if t324 < 0 then (some false) else (if t324 = t322 then ((laws_toNodeS.f kj28 l0).bind fun t325 => ((impl_FieldOf.f kj28 t325 a1).bind fun bt328 => ((laws_eqNodeS.f kj28 bt328.1 t303).bind fun t332 => (if t332 = true then (laws_FnExactFieldOf.j2 kj28 t323 t322 (bt328.2 != t304)) else (laws_FnExactFieldOf.j2 kj28 t323 t322 true))))) else (some false)))) = some r := H
                    have A41 := Aside0.mk A410
                    clear A410
                    replace H := Option.bind_eq_some_iff.mp H
                    obtain ⟨t324, A420, H⟩ := H
                    replace H : (if t324 < 0 then (some false) else (if t324 = t322 then ((laws_toNodeS.f kj28 l0).bind fun t325 => ((impl_FieldOf.f kj28 t325 a1).bind fun bt328 => ((laws_eqNodeS.f kj28 bt328.1 t303).bind fun t332 => (if t332 = true then (laws_FnExactFieldOf.j2 kj28 t323 t322 (bt328.2 != t304)) else (laws_FnExactFieldOf.j2 kj28 t323 t322 true))))) else (some false))) = some r := H
                    have A42 := Aside0.mk A420
                    clear A420
                    by_cases c43 : t324 < 0
                    · rw [if_pos c43] at H
                      have c43b0 : decide (t324 < 0) = true := decide_eq_true c43
                      clear c43
                      exact absurd ((Option.some.inj H).trans HR_.out) (by decide)
                    · rw [if_neg c43] at H
                      have c43b0 : decide (t324 < 0) = false := decide_eq_false c43
                      clear c43
                      by_cases c44 : t324 = t322
                      · rw [if_pos c44] at H
                        have c44b0 : (t324 == t322) = true := beq_iff_eq.mpr c44
                        have c44b1 : (t324 != t322) = false := bne_eq_false_iff_eq.mpr c44
                        clear c44
                        replace H := Option.bind_eq_some_iff.mp H
                        obtain ⟨t325, A450, H⟩ := H
                        replace H : ((impl_FieldOf.f kj28 t325 a1).bind fun bt328 => ((laws_eqNodeS.f kj28 bt328.1 t303).bind fun t332 => (if t332 = true then (laws_FnExactFieldOf.j2 kj28 t323 t322 (bt328.2 != t304)) else (laws_FnExactFieldOf.j2 kj28 t323 t322 true)))) = some r := H
                        have A45 := Aside0.mk A450
                        clear A450
                        replace H := Option.bind_eq_some_iff.mp H
                        obtain ⟨⟨t328, t329⟩, A460, H⟩ := H
                        replace H : ((laws_eqNodeS.f kj28 t328 t303).bind fun t332 => (if t332 = true then (laws_FnExactFieldOf.j2 kj28 t323 t322 (t329 != t304)) else (laws_FnExactFieldOf.j2 kj28 t323 t322 true))) = some r := H
                        have A46 := Aside0.mk A460
                        clear A460
                        have HC47 := Aside0.mk H
                        clear H
                        obtain ⟨Ao48, co48, eo48⟩ := Kd.R_slice HO_9.out
                        subst eo48
                        go_upto_region 27 with (first | ((with_reducible refine gate_callee (f := 13) rfl ?_); refine goesL_ (some 71) rfl rfl Tryd.func13 (by kernel_rfl) rfl #[.slice Ao48 t310.length co48, .int .i64 1] rfl (by (try simp only [List.map_toArray, List.map_cons, List.map_nil]); first | done | rfl | (simp only [List.length_drop, List.length_take]; rfl)) ?_; (with_reducible refine (laws_markNodeS.calls kj28 (fun k_ => some k_ = (.slice Ao48 t310.length co48 : Value).ownBlock) (.slice Ao48 t310.length co48) t310 1 t322 t323 w _ ?side1 ?side2 A41.out).mono ?_); (case side1 => repeat (first | (with_reducible first | exact HB.out | apply below_alloc | apply pw_below_drewN | apply below_drew1) | exact HB.out)); (case side2 => exact Kd.R_tight rfl HO_9.out); rintro e w49 ⟨rfl, hy0, hb, hkp⟩; refine ⟨_, rfl, ?_⟩; have n0_ := Aside0.mk (Kd.R_mono (ok' := fun k_ => some k_ ≠ (.slice Ao48 t310.length co48 : Value).ownBlock) (Kd.R_keptB (HO_6.out) hkp (fun k_ hk_ hs_ => (hk_) hs_)) (fun k_ hk_ => hk_.1)); have n1_ := Aside0.mk (Kd.R_reok rfl hy0 (fun k_ e_ => HO_9.out.1 k_ e_)); have n2_ := Aside0.mk (hb); clear HO_6; clear HO_9; clear HB; have HO_6 := n0_; have HO_9 := n1_; have HB := n2_; clear n0_ n1_ n2_; (try clear hb); (try clear hkp); (try clear hy0)) | ((with_reducible refine gate_callee (f := 14) rfl ?_); refine goesL_ (some 74) rfl rfl Tryd.func14 (by kernel_rfl) rfl #[.slice Ao48 t323.length co48, .int .i64 1] rfl (by (try simp only [List.map_toArray, List.map_cons, List.map_nil]); first | done | (rw [show t323.length = t310.length from (Kd.R_reads' HO_9.out).1.symm] <;> rfl) | rfl | (simp only [List.length_drop, List.length_take]; rfl)) ?_; (with_reducible refine (laws_heldNodeS.calls kj28 _ _ t323 1 t324 _ ?side1 ?side2 A42.out).mono ?_); (case side1 => repeat (first | exact (Kd.R_reads' HO_9.out).2.2 | (with_reducible refine Kd.C_alloc ?_ _) | (with_reducible refine Kd.C_drewN ?_ _) | (with_reducible refine Kd.C_drew ?_))); (case side2 => rw [show t323.length = t310.length from (Kd.R_reads' HO_9.out).1.symm]; exact (Kd.R_reads' HO_9.out).2.1); rintro e w50 ⟨rfl, hb⟩; refine ⟨_, rfl, ?_⟩; have n0_ := Aside0.mk (Kd.R_below (by (with_reducible repeat (first | apply Kd.R_alloc | apply Kd.R_drewN | apply Kd.R_drew)); exact HO_6.out) hb); have n1_ := Aside0.mk (Kd.R_below (by (with_reducible repeat (first | apply Kd.R_alloc | apply Kd.R_drewN | apply Kd.R_drew)); exact HO_9.out) hb); have n2_ := Aside0.mk (below_step (by repeat (first | (with_reducible first | exact HB.out | apply below_alloc | apply pw_below_drewN | apply below_drew1) | exact HB.out)) hb); clear HO_6; clear HO_9; clear HB; have HO_6 := n0_; have HO_9 := n1_; have HB := n2_; clear n0_ n1_ n2_; (try clear hb); (try clear hb2); (try clear hk); (try clear hi)) | ((with_reducible refine gate_callee (f := 17) rfl ?_); refine goesL_ (some 82) rfl rfl Tryd.func17 (by kernel_rfl) rfl #[.slice A0 l0.length c0] rfl (by (try simp only [List.map_toArray, List.map_cons, List.map_nil]); first | done | rfl | (simp only [List.length_drop, List.length_take]; rfl)) ?_; (with_reducible refine (laws_toNodeS.calls kj28 _ _ l0 t325 _ ?side1 ?side2 A45.out).mono ?_); (case side1 => repeat (first | exact (Kd.C_below HR0.out HB.out) | (with_reducible refine Kd.C_alloc ?_ _) | (with_reducible refine Kd.C_drewN ?_ _) | (with_reducible refine Kd.C_drew ?_))); (case side2 => exact HC0.out); rintro e w51 ⟨v326, rfl, ho0, hb⟩; refine ⟨_, rfl, ?_⟩; have n0_ := Aside0.mk (Kd.R_elder' (by (with_reducible repeat (first | apply Kd.R_alloc | apply Kd.R_drewN | apply Kd.R_drew)); exact HO_6.out) (Kd.R_base ho0) hb); have n1_ := Aside0.mk (Kd.R_elder' (by (with_reducible repeat (first | apply Kd.R_alloc | apply Kd.R_drewN | apply Kd.R_drew)); exact HO_9.out) (Kd.R_base ho0) hb); have n2_ := Aside0.mk (Kd.R_lower (Kd.R_new' (Kd.R_new' ho0 (Kd.R_lt (by (with_reducible repeat (first | apply Kd.R_alloc | apply Kd.R_drewN | apply Kd.R_drew)); exact HO_6.out))) (Kd.R_lt (by (with_reducible repeat (first | apply Kd.R_alloc | apply Kd.R_drewN | apply Kd.R_drew)); exact HO_9.out))) (below_size (by repeat (first | (with_reducible first | exact HB.out | apply below_alloc | apply pw_below_drewN | apply below_drew1) | exact HB.out)))); have n3_ := Aside0.mk (below_step (by repeat (first | (with_reducible first | exact HB.out | apply below_alloc | apply pw_below_drewN | apply below_drew1) | exact HB.out)) hb); clear HO_6; clear HO_9; clear HB; have HO_6 := n0_; have HO_9 := n1_; have HO327 := n2_; have HB := n3_; clear n0_ n1_ n2_ n3_; (try clear hb); (try clear hb2); (try clear hk); (try clear hi); (try clear ho0); obtain ⟨Ao52, co52, eo52⟩ := Kd.R_slice HO327.out; subst eo52) | ((with_reducible refine gate_callee (f := 22) rfl ?_); refine goesL_ (some 84) rfl rfl Tryd.func22 (by kernel_rfl) rfl #[.slice Ao52 t325.length co52, .string a1] rfl (by (try simp only [List.map_toArray, List.map_cons, List.map_nil]); first | done | rfl | (simp only [List.length_drop, List.length_take]; rfl)) ?_; (with_reducible refine (impl_FieldOf.calls kj28 _ _ t325 a1 t328 t329 _ ?side1 ?side2 ?side3 A46.out).mono ?_); (case side1 => exact Go.Proofs.YtkfbdopfeacnfaaDoor.TabsU.Tabs0.of_below TB.out (by repeat (first | (with_reducible first | exact HB.out | apply below_alloc | apply pw_below_drewN | apply below_drew1) | exact HB.out))); (case side2 => repeat (first | exact (Kd.R_reads' HO327.out).2.2 | (with_reducible refine Kd.C_alloc ?_ _) | (with_reducible refine Kd.C_drewN ?_ _) | (with_reducible refine Kd.C_drew ?_))); (case side3 => exact (Kd.R_reads' HO327.out).2.1); rintro e w53 ⟨v330, rfl, ho0, hb⟩; refine ⟨_, rfl, ?_⟩; have n0_ := Aside0.mk (Kd.R_elder' (by (with_reducible repeat (first | apply Kd.R_alloc | apply Kd.R_drewN | apply Kd.R_drew)); exact HO_6.out) (Kd.R_base ho0) hb); have n1_ := Aside0.mk (Kd.R_elder' (by (with_reducible repeat (first | apply Kd.R_alloc | apply Kd.R_drewN | apply Kd.R_drew)); exact HO_9.out) (Kd.R_base ho0) hb); have n2_ := Aside0.mk (Kd.R_elder' (by (with_reducible repeat (first | apply Kd.R_alloc | apply Kd.R_drewN | apply Kd.R_drew)); exact HO327.out) (Kd.R_base ho0) hb); have n3_ := Aside0.mk (Kd.R_lower (Kd.R_new' (Kd.R_new' (Kd.R_new' ho0 (Kd.R_lt (by (with_reducible repeat (first | apply Kd.R_alloc | apply Kd.R_drewN | apply Kd.R_drew)); exact HO_6.out))) (Kd.R_lt (by (with_reducible repeat (first | apply Kd.R_alloc | apply Kd.R_drewN | apply Kd.R_drew)); exact HO_9.out))) (Kd.R_lt (by (with_reducible repeat (first | apply Kd.R_alloc | apply Kd.R_drewN | apply Kd.R_drew)); exact HO327.out))) (below_size (by repeat (first | (with_reducible first | exact HB.out | apply below_alloc | apply pw_below_drewN | apply below_drew1) | exact HB.out)))); have n4_ := Aside0.mk (below_step (by repeat (first | (with_reducible first | exact HB.out | apply below_alloc | apply pw_below_drewN | apply below_drew1) | exact HB.out)) hb); clear HO_6; clear HO_9; clear HO327; clear HB; have HO_6 := n0_; have HO_9 := n1_; have HO327 := n2_; have HO331 := n3_; have HB := n4_; clear n0_ n1_ n2_ n3_ n4_; (try clear hb); (try clear hb2); (try clear hk); (try clear hi); (try clear ho0)))
                        (try simp only [Act.put, List.setIfInBounds_toArray, List.set_cons_zero, List.set_cons_succ])
                        go_cut [95] (fun v95 wc => ∃ (kq : Nat) (x95_46 : Bool), v95 = .bool x95_46 ∧ Aside0 (laws_FnExactFieldOf.j2 kq t323 t322 x95_46 = some r) ∧ Aside0 (kq ≤ kj28) ∧ Aside0 (Kd.R k61 61 wc w.heap.size (fun _ => True) (.slice Ao48 t310.length co48) t323) ∧ Aside0 (Below w.heap.size w wc))
                        case first =>
                          have H := HC47.out
                          clear HC47
                          replace H := Option.bind_eq_some_iff.mp H
                          obtain ⟨t332, A540, H⟩ := H
                          replace H : (if t332 = true then (laws_FnExactFieldOf.j2 kj28 t323 t322 (t329 != t304)) else (laws_FnExactFieldOf.j2 kj28 t323 t322 true)) = some r := H
                          have A54 := Aside0.mk A540
                          clear A540
                          by_cases c55 : t332 = true
                          · subst c55
                            have H1 : (laws_FnExactFieldOf.j2 kj28 t323 t322 (t329 != t304)) = some r := by rw [if_pos rfl] at H; exact H
                            clear H
                            have H := H1
                            clear H1
                            as_aux_lemma =>
                              have H' := Aside0.mk H
                              clear H
                              obtain ⟨Ao56, co56, eo56⟩ := Kd.R_slice HO331.out
                              subst eo56
                              obtain ⟨Ao57, co57, eo57⟩ := Kd.R_slice HO_6.out
                              subst eo57
                              go_wp2_with (first | ((with_reducible refine gate_callee (f := 12) rfl ?_); refine goesL_ (some 89) rfl rfl Tryd.func12 (by kernel_rfl) rfl #[.slice Ao56 t328.length co56, .slice Ao57 t303.length co57] rfl (by (try simp only [List.map_toArray, List.map_cons, List.map_nil]); first | done | rfl | (simp only [List.length_drop, List.length_take]; rfl)) ?_; (with_reducible refine (laws_eqNodeS.calls kj28 _ _ t328 _ _ t303 true _ ?side1 ?side2 ?side3 ?side4 A54.out).mono ?_); (case side1 => repeat (first | exact (Kd.R_reads' HO331.out).2.2 | (with_reducible refine Kd.C_alloc ?_ _) | (with_reducible refine Kd.C_drewN ?_ _) | (with_reducible refine Kd.C_drew ?_))); (case side2 => exact (Kd.R_reads' HO331.out).2.1); (case side3 => repeat (first | exact (Kd.R_reads' HO_6.out).2.2 | (with_reducible refine Kd.C_alloc ?_ _) | (with_reducible refine Kd.C_drewN ?_ _) | (with_reducible refine Kd.C_drew ?_))); (case side4 => exact (Kd.R_reads' HO_6.out).2.1); rintro e w58 ⟨rfl, hb⟩; refine ⟨_, rfl, ?_⟩; have n0_ := Aside0.mk (Kd.R_below (by (with_reducible repeat (first | apply Kd.R_alloc | apply Kd.R_drewN | apply Kd.R_drew)); exact HO_6.out) hb); have n1_ := Aside0.mk (Kd.R_below (by (with_reducible repeat (first | apply Kd.R_alloc | apply Kd.R_drewN | apply Kd.R_drew)); exact HO_9.out) hb); have n2_ := Aside0.mk (Kd.R_below (by (with_reducible repeat (first | apply Kd.R_alloc | apply Kd.R_drewN | apply Kd.R_drew)); exact HO327.out) hb); have n3_ := Aside0.mk (Kd.R_below (by (with_reducible repeat (first | apply Kd.R_alloc | apply Kd.R_drewN | apply Kd.R_drew)); exact HO331.out) hb); have n4_ := Aside0.mk (below_step (by repeat (first | (with_reducible first | exact HB.out | apply below_alloc | apply pw_below_drewN | apply below_drew1) | exact HB.out)) hb); clear HO_6; clear HO_9; clear HO327; clear HO331; clear HB; have HO_6 := n0_; have HO_9 := n1_; have HO327 := n2_; have HO331 := n3_; have HB := n4_; clear n0_ n1_ n2_ n3_ n4_; (try clear hb); (try clear hb2); (try clear hk); (try clear hi)))
                              go_meet
                              case rel => exact ⟨_, ((t329 != t304)), (by first | rfl | (simp; done) | (simp [*]; done) | (simp; apply Bool.eq_iff_iff.mpr; simp only [bne_iff_ne, ne_eq, beq_iff_eq]; omega)), H', ⟨by have := HJ10.out; have := HJ28.out; first | omega | exact Nat.le_refl _⟩, ⟨by (with_reducible repeat (first | apply Kd.R_alloc | apply Kd.R_drewN | apply Kd.R_drew)); exact Kd.R_mono HO_9.out (fun _ hk => trivial)⟩, ⟨by repeat (first | (with_reducible first | exact HB.out | apply below_alloc | apply pw_below_drewN | apply below_drew1) | exact HB.out)⟩⟩
                          · replace c55 := Bool.eq_false_iff.mpr c55
                            subst c55
                            have H1 : (laws_FnExactFieldOf.j2 kj28 t323 t322 true) = some r := by rw [if_neg (show ¬ (false = true) by decide)] at H; exact H
                            clear H
                            have H := H1
                            clear H1
                            exfalso
                            cases kj28 with
                            | zero => exact absurd H (by simp [laws_FnExactFieldOf.j2])
                            | succ kz_ => rw [laws_FnExactFieldOf.j2, if_pos rfl] at H; exact absurd ((Option.some.inj H).trans HR_.out) (by decide)
                        case rest =>
                          clear HC47
                          try clear c1
                          try clear c2
                          try clear p2
                          try clear c3
                          try clear c3b0
                          try clear c3b1
                          try clear c4
                          try clear c5
                          try clear c5b0
                          try clear c6
                          try clear c12
                          try clear c13
                          try clear c14
                          try clear c15
                          try clear c17
                          try clear c20
                          try clear c21
                          try clear c22
                          try clear c24
                          try clear c27
                          try clear c34
                          try clear c34b0
                          try clear c36
                          try clear c40
                          try clear c43
                          try clear c43b0
                          try clear c44
                          try clear c44b0
                          try clear c44b1
                          try clear c55
                          try clear p2
                          obtain ⟨kq, x95_46, rfl, HA, HJ46, HO_9, HB⟩ := hcut
                          have hl9_46 := (Kd.R_reads' HO_9.out).1
                          rw [hl9_46] at HO_9
                          (try simp only [hl9_46])
                          cases kq with
                          | zero => exact absurd HA.out (by simp [laws_FnExactFieldOf.j2])
                          | succ kj46 =>
                            have H := HA.out
                            clear HA
                            simp only [laws_FnExactFieldOf.j2] at H
                            by_cases c59 : x95_46 = true
                            · subst c59
                              have H1 : (some false) = some r := by rw [if_pos rfl] at H; exact H
                              clear H
                              have H := H1
                              clear H1
                              exact absurd ((Option.some.inj H).trans HR_.out) (by decide)
                            · replace c59 := Bool.eq_false_iff.mpr c59
                              subst c59
                              have H1 : ((laws_heldNodeS.f kj46 t323 1).bind fun t333 => (if t333 < 0 then (some false) else (if t333 = t322 then (some true) else (some false)))) = some r := by rw [if_neg (show ¬ (false = true) by decide)] at H; exact H
                              clear H
                              have H := H1
                              clear H1
                              replace H := Option.bind_eq_some_iff.mp H
                              obtain ⟨t333, A600, H⟩ := H
                              replace H : (if t333 < 0 then (some false) else (if t333 = t322 then (some true) else (some false))) = some r := H
                              have A60 := Aside0.mk A600
                              clear A600
                              by_cases c61 : t333 < 0
                              · rw [if_pos c61] at H
                                have c61b0 : decide (t333 < 0) = true := decide_eq_true c61
                                clear c61
                                exact absurd ((Option.some.inj H).trans HR_.out) (by decide)
                              · rw [if_neg c61] at H
                                have c61b0 : decide (t333 < 0) = false := decide_eq_false c61
                                clear c61
                                by_cases c62 : t333 = t322
                                · rw [if_pos c62] at H
                                  have c62b0 : (t333 == t322) = true := beq_iff_eq.mpr c62
                                  have c62b1 : (t333 != t322) = false := bne_eq_false_iff_eq.mpr c62
                                  clear c62
                                  as_aux_lemma =>
                                    obtain rfl := Option.some.inj H
                                    go_wp2_with (first | ((with_reducible refine gate_callee (f := 14) rfl ?_); refine goesL_ (some 98) rfl rfl Tryd.func14 (by kernel_rfl) rfl #[.slice Ao48 t323.length co48, .int .i64 1] rfl (by (try simp only [List.map_toArray, List.map_cons, List.map_nil]); first | done | rfl | (simp only [List.length_drop, List.length_take]; rfl)) ?_; (with_reducible refine (laws_heldNodeS.calls kj46 _ _ t323 1 t333 _ ?side1 ?side2 A60.out).mono ?_); (case side1 => repeat (first | exact (Kd.R_reads' HO_9.out).2.2 | (with_reducible refine Kd.C_alloc ?_ _) | (with_reducible refine Kd.C_drewN ?_ _) | (with_reducible refine Kd.C_drew ?_))); (case side2 => exact (Kd.R_reads' HO_9.out).2.1); rintro e w63 ⟨rfl, hb⟩; refine ⟨_, rfl, ?_⟩; have n0_ := Aside0.mk (Kd.R_below (by (with_reducible repeat (first | apply Kd.R_alloc | apply Kd.R_drewN | apply Kd.R_drew)); exact HO_9.out) hb); have n1_ := Aside0.mk (below_step (by repeat (first | (with_reducible first | exact HB.out | apply below_alloc | apply pw_below_drewN | apply below_drew1) | exact HB.out)) hb); clear HO_9; clear HB; have HO_9 := n0_; have HB := n1_; clear n0_ n1_; (try clear hb); (try clear hb2); (try clear hk); (try clear hi)))
                                    go_ret
                                    exact ⟨by first | rfl | (simp [errW_none, errW_some] <;> rfl) | (simp [*, errW_none, errW_some] <;> rfl), by repeat (first | (with_reducible first | exact HB.out | apply below_alloc | apply pw_below_drewN | apply below_drew1) | exact HB.out)⟩
                                · rw [if_neg c62] at H
                                  have c62b0 : (t333 == t322) = false := beq_eq_false_iff_ne.mpr c62
                                  have c62b1 : (t333 != t322) = true := bne_iff_ne.mpr c62
                                  exact absurd ((Option.some.inj H).trans HR_.out) (by decide)
                      · rw [if_neg c44] at H
                        have c44b0 : (t324 == t322) = false := beq_eq_false_iff_ne.mpr c44
                        have c44b1 : (t324 != t322) = true := bne_iff_ne.mpr c44
                        exact absurd ((Option.some.inj H).trans HR_.out) (by decide)
            · replace c27 := Bool.eq_false_iff.mpr c27
              subst c27
              have H1 : (some false) = some r := by rw [if_neg (show ¬ (false = true) by decide)] at H; exact H
              clear H
              have H := H1
              clear H1
              exact absurd ((Option.some.inj H).trans HR_.out) (by decide)

end
end Go.Proofs.YtkfbdopfeacnfaaDoor.PFnExactFieldOf
