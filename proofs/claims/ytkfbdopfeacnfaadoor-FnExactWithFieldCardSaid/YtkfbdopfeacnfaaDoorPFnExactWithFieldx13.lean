-- Printed for this claim by a changed copy of the kit's printing program (wip/tools/patch_print.py); Lean checks it.
import Derived.Test.YtkfbdopfeacnfaaDoorPFnExactWithFieldx0
import Derived.Test.YtkfbdopfeacnfaaDoorPFnExactWithFieldx10
import Derived.Test.YtkfbdopfeacnfaaDoorPFnExactWithFieldx11
import Derived.Test.YtkfbdopfeacnfaaDoorPFnExactWithFieldx12
namespace Go.Proofs.YtkfbdopfeacnfaaDoor.PFnExactWithField
open Go.RowKit Go.Proofs.YtkfbdopfeacnfaaDoorW.PrintWords Go.Proofs.YtkfbdopfeacnfaaDoorW.PrintLast Go.Proofs.YtkfbdopfeacnfaaDoorW.PrintMore
attribute [local go_sem] max2_int min2_int max_two min_two max_three min_three max_four min_four   -- for this text's walks alone
set_option linter.unusedVariables false
set_option linter.unusedSimpArgs false

noncomputable section
/-! ### impl_WithField: function 26 -/
mutual
def impl_WithField.j0 : Nat → List (S61) → ByteArray → List (S61) → Bool → Option ((List (S61)) × Bool)
 | 0, _, _, _, _ => none
 | k + 1, x0, x1, x2, x37 => if x37 = true then (some (([] : List (S61)), false)) else ((impl_keyed.f x2 x1).bind fun t296 => ((impl_partsOf.f k x0).bind fun t302 => (impl_WithField.l0 k x1 (([t296] : List (List (S61)))) t302 (t302.length : Int) 0)))
def impl_WithField.l0 : Nat → ByteArray → List (List (S61)) → List (List (S61)) → Int → Int → Option ((List (S61)) × Bool)
 | 0, _, _, _, _, _ => none
 | k + 1, x1, x10, x43, x44, x45 => if x45 < x44 then (if 0 ≤ x45 then (if x45 < (x43.length : Int) then (if 0 < ((rd_L5 x43 x45).length : Int) then (if ((rd_T61 (rd_L5 x43 x45) 0).f0).toList = x1.toList then (impl_WithField.l0 k x1 x10 x43 x44 (wrap64 (x45 + 1))) else (if x10.length < 5864062014805 then (impl_WithField.l0 k x1 (x10 ++ [rd_L5 x43 x45]) x43 x44 (wrap64 (x45 + 1))) else (none))) else (none)) else (none)) else (none)) else ((impl_record.f k (⟨#[]⟩ : ByteArray) x10).bind fun t310 => ((impl_isValue.f k t310).bind fun t313 => (if t313 = true then (some (t310, true)) else (some (([] : List (S61)), false)))))
end
def impl_WithField.f (k : Nat) (l0 : List (S61)) (a1 : ByteArray) (l2 : List (S61)) : Option ((List (S61)) × Bool) := (impl_RunesOf.f k a1).bind fun bt289 => (if bt289.2 = true then ((impl_isValue.f k l0).bind fun t293 => (if t293 = true then (if 0 < (l0.length : Int) then (if ((rd_T61 l0 0).f1) = 7 then ((impl_isValue.f k l2).bind fun t295 => (impl_WithField.j0 k l0 a1 l2 (!t295))) else (impl_WithField.j0 k l0 a1 l2 true)) else (none)) else (impl_WithField.j0 k l0 a1 l2 true))) else (impl_WithField.j0 k l0 a1 l2 true))
theorem impl_WithField.mono_l : ∀ k, (∀ y0 y1 y2 y3, LeO (impl_WithField.j0 k y0 y1 y2 y3) (impl_WithField.j0 (k + 1) y0 y1 y2 y3)) ∧ (∀ y0 y1 y2 y3 y4, LeO (impl_WithField.l0 k y0 y1 y2 y3 y4) (impl_WithField.l0 (k + 1) y0 y1 y2 y3 y4))
 | 0 => ⟨fun _ _ _ _ r h => by simp [impl_WithField.j0] at h, fun _ _ _ _ _ r h => by simp [impl_WithField.l0] at h⟩
 | k + 1 => by
  obtain ⟨ih0, ih1⟩ := impl_WithField.mono_l k
  refine ⟨?_, ?_⟩
  ·intro y0 y1 y2 y3
   unfold impl_WithField.j0
   repeat' first
   | (with_reducible exact ih0 _ _ _ _)
   | (with_reducible exact ih1 _ _ _ _ _)
   | (with_reducible exact impl_RunesOf.mono _ _)
   | (with_reducible exact impl_isValue.mono _ _)
   | (with_reducible exact impl_partsOf.mono _ _)
   | (with_reducible exact impl_record.mono _ _ _)
   | (with_reducible exact LeO.refl _)
   | (with_reducible exact LeO.none _)
   | (with_reducible refine LeO.ite ?_ ?_)
   | (with_reducible refine LeO.bind ?_ (fun _ => ?_))
   | exact ih0 _ _ _ _
   | exact ih1 _ _ _ _ _
   | exact impl_RunesOf.mono _ _
   | exact impl_isValue.mono _ _
   | exact impl_partsOf.mono _ _
   | exact impl_record.mono _ _ _
   | exact LeO.none _
   | refine LeO.ite ?_ ?_
   | refine LeO.bind ?_ (fun _ => ?_)
  ·intro y0 y1 y2 y3 y4
   unfold impl_WithField.l0
   repeat' first
   | (with_reducible exact ih0 _ _ _ _)
   | (with_reducible exact ih1 _ _ _ _ _)
   | (with_reducible exact impl_RunesOf.mono _ _)
   | (with_reducible exact impl_isValue.mono _ _)
   | (with_reducible exact impl_partsOf.mono _ _)
   | (with_reducible exact impl_record.mono _ _ _)
   | (with_reducible exact LeO.refl _)
   | (with_reducible exact LeO.none _)
   | (with_reducible refine LeO.ite ?_ ?_)
   | (with_reducible refine LeO.bind ?_ (fun _ => ?_))
   | exact ih0 _ _ _ _
   | exact ih1 _ _ _ _ _
   | exact impl_RunesOf.mono _ _
   | exact impl_isValue.mono _ _
   | exact impl_partsOf.mono _ _
   | exact impl_record.mono _ _ _
   | exact LeO.none _
   | refine LeO.ite ?_ ?_
   | refine LeO.bind ?_ (fun _ => ?_)
theorem impl_WithField.mono : ∀ a0 a1 a2 k, LeO (impl_WithField.f k a0 a1 a2) (impl_WithField.f (k + 1) a0 a1 a2) := by
 intro a0 a1 a2 k
 obtain ⟨ih0, ih1⟩ := impl_WithField.mono_l k
 unfold impl_WithField.f
 repeat' first
   | (with_reducible exact ih0 _ _ _ _)
   | (with_reducible exact ih1 _ _ _ _ _)
   | (with_reducible exact impl_RunesOf.mono _ _)
   | (with_reducible exact impl_isValue.mono _ _)
   | (with_reducible exact impl_partsOf.mono _ _)
   | (with_reducible exact impl_record.mono _ _ _)
   | (with_reducible exact LeO.refl _)
   | (with_reducible exact LeO.none _)
   | (with_reducible refine LeO.ite ?_ ?_)
   | (with_reducible refine LeO.bind ?_ (fun _ => ?_))
   | exact ih0 _ _ _ _
   | exact ih1 _ _ _ _ _
   | exact impl_RunesOf.mono _ _
   | exact impl_isValue.mono _ _
   | exact impl_partsOf.mono _ _
   | exact impl_record.mono _ _ _
   | exact LeO.none _
   | refine LeO.ite ?_ ?_
   | refine LeO.bind ?_ (fun _ => ?_)
set_option maxHeartbeats 8000000 in
set_option maxRecDepth 100000 in
theorem impl_WithField.calls (k : Nat) (A0 : Option Addr) (c0 : Nat) (l0 : List (S61)) (a1 : ByteArray) (A2 : Option Addr) (c2 : Nat) (l2 : List (S61)) (r1 : List (S61)) (r2 : Bool) (w : World) (tb : Go.Proofs.YtkfbdopfeacnfaaDoor.TabsU.Tabs0 w) (hr0 : Kd.C k61 w A0 l0.length l0) (hc0 : l0.length ≤ c0) (hr2 : Kd.C k61 w A2 l2.length l2) (hc2 : l2.length ≤ c2) (h : impl_WithField.f k l0 a1 l2 = some (r1, r2)) :
  Calls Tryd.prog 26 #[.slice A0 l0.length c0, .string a1, .slice A2 l2.length c2] w fun e w' => ∃ v0_ : Value, e = .returned (.tuple #[v0_, .bool r2]) ∧ Kd.R k61 61 w' w.heap.size (fun _ => True) v0_ r1 ∧ Below w.heap.size w w' := by
 have TB := Aside0.mk tb
 clear tb
 have HR0 := Aside0.mk hr0
 have HC0 := Aside0.mk hc0
 clear hr0 hc0
 have HR2 := Aside0.mk hr2
 have HC2 := Aside0.mk hc2
 clear hr2 hc2
 have HB := Aside0.mk (Below.refl w.heap.size w)
 have H : ((impl_RunesOf.f k a1).bind fun bt289 => (if bt289.2 = true then ((impl_isValue.f k l0).bind fun t293 => (if t293 = true then (if 0 < (l0.length : Int) then (if ((rd_T61 l0 0).f1) = 7 then ((impl_isValue.f k l2).bind fun t295 => (impl_WithField.j0 k l0 a1 l2 (!t295))) else (impl_WithField.j0 k l0 a1 l2 true)) else (none)) else (impl_WithField.j0 k l0 a1 l2 true))) else (impl_WithField.j0 k l0 a1 l2 true))) = some (r1, r2) := h
 clear h
 replace H := Option.bind_eq_some_iff.mp H
 obtain ⟨⟨t289, t290⟩, A40, H⟩ := H
 replace H : (if t290 = true then ((impl_isValue.f k l0).bind fun t293 => (if t293 = true then (if 0 < (l0.length : Int) then (if ((rd_T61 l0 0).f1) = 7 then ((impl_isValue.f k l2).bind fun t295 => (impl_WithField.j0 k l0 a1 l2 (!t295))) else (impl_WithField.j0 k l0 a1 l2 true)) else (none)) else (impl_WithField.j0 k l0 a1 l2 true))) else (impl_WithField.j0 k l0 a1 l2 true)) = some (r1, r2) := H
 have A4 := Aside0.mk A40
 clear A40
 have HC5 := Aside0.mk H
 clear H
 go_enter Tryd.func26, Tryd.ntmps26
 go_upto_region 2 with (first | ((with_reducible refine gate_callee (f := 50) rfl ?_); refine goesL_ (some 16) rfl rfl Tryd.func50 (by kernel_rfl) rfl #[.string a1] rfl (by (try simp only [List.map_toArray, List.map_cons, List.map_nil]); first | done | rfl | (simp only [List.length_drop, List.length_take]; rfl)) ?_; (with_reducible refine (impl_RunesOf.calls k a1 t289 t290 _ ?side1 A4.out).mono ?_); (case side1 => exact Go.Proofs.YtkfbdopfeacnfaaDoor.TabsU.Tabs0.of_below TB.out (by repeat (first | (with_reducible first | exact HB.out | apply below_alloc | apply pw_below_drewN | apply below_drew1) | exact HB.out))); rintro e w6 ⟨v291, rfl, ho0, hb⟩; refine ⟨_, rfl, ?_⟩; have n0_ := Aside0.mk (Kd.R_lower ho0 (below_size (by repeat (first | (with_reducible first | exact HB.out | apply below_alloc | apply pw_below_drewN | apply below_drew1) | exact HB.out)))); have n1_ := Aside0.mk (below_step (by repeat (first | (with_reducible first | exact HB.out | apply below_alloc | apply pw_below_drewN | apply below_drew1) | exact HB.out)) hb); clear HB; have HO292 := n0_; have HB := n1_; clear n0_ n1_; (try clear hb); (try clear hb2); (try clear hk); (try clear hi); (try clear ho0)))
 (try simp only [Act.put, List.setIfInBounds_toArray, List.set_cons_zero, List.set_cons_succ])
 go_cut [37] (fun v37 wc => ∃ (kq : Nat) (x37_4 : Bool), v37 = .bool x37_4 ∧ Aside0 (impl_WithField.j0 kq l0 a1 l2 x37_4 = some (r1, r2)) ∧ Aside0 (kq ≤ k) ∧ Aside0 (Below w.heap.size w wc))
 case first =>
  have H := HC5.out
  clear HC5
  by_cases c7 : t290 = true
  ·subst c7
   have H1 : ((impl_isValue.f k l0).bind fun t293 => (if t293 = true then (if 0 < (l0.length : Int) then (if ((rd_T61 l0 0).f1) = 7 then ((impl_isValue.f k l2).bind fun t295 => (impl_WithField.j0 k l0 a1 l2 (!t295))) else (impl_WithField.j0 k l0 a1 l2 true)) else (none)) else (impl_WithField.j0 k l0 a1 l2 true))) = some (r1, r2) := by rw [if_pos rfl] at H; exact H
   clear H
   have H := H1
   clear H1
   replace H := Option.bind_eq_some_iff.mp H
   obtain ⟨t293, A80, H⟩ := H
   replace H : (if t293 = true then (if 0 < (l0.length : Int) then (if ((rd_T61 l0 0).f1) = 7 then ((impl_isValue.f k l2).bind fun t295 => (impl_WithField.j0 k l0 a1 l2 (!t295))) else (impl_WithField.j0 k l0 a1 l2 true)) else (none)) else (impl_WithField.j0 k l0 a1 l2 true)) = some (r1, r2) := H
   have A8 := Aside0.mk A80
   clear A80
   by_cases c9 : t293 = true
   ·subst c9
    have H1 : (if 0 < (l0.length : Int) then (if ((rd_T61 l0 0).f1) = 7 then ((impl_isValue.f k l2).bind fun t295 => (impl_WithField.j0 k l0 a1 l2 (!t295))) else (impl_WithField.j0 k l0 a1 l2 true)) else (none)) = some (r1, r2) := by rw [if_pos rfl] at H; exact H
    clear H
    have H := H1
    clear H1
    by_cases c10 : 0 < (l0.length : Int)
    ·rw [if_pos c10] at H
     have c10b0 : decide (0 < (l0.length : Int)) = true := decide_eq_true c10
     have c10b1 : decide (0 < l0.length) = true := decide_eq_true (by omega)
     clear c10
     (first | rw [c10b0] | (simp only [i64_w, i32_w]; rw [c10b0]) | skip)
     by_cases c11 : ((rd_T61 l0 0).f1) = 7
     ·rw [if_pos c11] at H
      have c11b0 : (((rd_T61 l0 0).f1) == 7) = true := beq_iff_eq.mpr c11
      have c11b1 : (((rd_T61 l0 0).f1) != 7) = false := bne_eq_false_iff_eq.mpr c11
      clear c11
      replace H := Option.bind_eq_some_iff.mp H
      obtain ⟨t295, A120, H⟩ := H
      replace H : (impl_WithField.j0 k l0 a1 l2 (!t295)) = some (r1, r2) := H
      have A12 := Aside0.mk A120
      clear A120
      have H' := Aside0.mk H
      clear H
      go_wp2_with (first | (go_at_call 41; (with_reducible refine (impl_isValue.calls k _ _ l0 true _ ?side1 ?side2 ?side3 A8.out).mono ?_); (case side1 => exact Go.Proofs.YtkfbdopfeacnfaaDoor.TabsU.Tabs0.of_below TB.out (by repeat (first | (with_reducible first | exact HB.out | apply below_alloc | apply pw_below_drewN | apply below_drew1) | exact HB.out))); (case side2 => repeat (first | exact (Kd.C_below HR0.out HB.out) | (with_reducible refine Kd.C_alloc ?_ _) | (with_reducible refine Kd.C_drewN ?_ _) | (with_reducible refine Kd.C_drew ?_))); (case side3 => exact HC0.out); rintro e w13 ⟨rfl, hb⟩; have n0_ := Aside0.mk (Kd.R_below (by (with_reducible repeat (first | apply Kd.R_alloc | apply Kd.R_drewN | apply Kd.R_drew)); exact HO292.out) hb); have n1_ := Aside0.mk (below_step (by repeat (first | (with_reducible first | exact HB.out | apply below_alloc | apply pw_below_drewN | apply below_drew1) | exact HB.out)) hb); clear HO292; clear HB; have HO292 := n0_; have HB := n1_; clear n0_ n1_; (try clear hb); (try clear hb2); (try clear hk); (try clear hi); have p294 : 0 ≤ (0 : Int) := (by omega); have q294 : 0 < (l0.length : Int) := of_decide_eq_true (by first | (with_reducible assumption) | assumption); obtain ⟨ad294, e294, hx294_0, hx294_1, hx294_2, hx294_3, hx294_4⟩ := at_T61 HR0.out 0 p294 q294; cases e294; have qi294 : (0 < l0.length) = True := eq_true (by omega); (try rw [show ((0 : Int)).toNat = 0 from rfl] at hx294_0); (try rw [show 0 * 5 = 0 from rfl] at hx294_0); (try rw [Addr.add_zero'] at hx294_0); (try rw [show ((0 : Int)).toNat = 0 from rfl] at hx294_1); (try rw [show 0 * 5 = 0 from rfl] at hx294_1); (try rw [Addr.add_zero'] at hx294_1); (try rw [show ((0 : Int)).toNat = 0 from rfl] at hx294_2); (try rw [show 0 * 5 = 0 from rfl] at hx294_2); (try rw [Addr.add_zero'] at hx294_2); (try rw [show ((0 : Int)).toNat = 0 from rfl] at hx294_3); (try rw [show 0 * 5 = 0 from rfl] at hx294_3); (try rw [Addr.add_zero'] at hx294_3); (try rw [show ((0 : Int)).toNat = 0 from rfl] at hx294_4); (try rw [show 0 * 5 = 0 from rfl] at hx294_4); (try rw [Addr.add_zero'] at hx294_4); replace hx294_0 := (HB.out.cell (World.block_lt_of_cell? w _ hx294_0)).trans hx294_0; replace hx294_1 := (HB.out.cell (World.block_lt_of_cell? w _ hx294_1)).trans hx294_1; replace hx294_2 := (HB.out.cell (World.block_lt_of_cell? w _ hx294_2)).trans hx294_2; replace hx294_3 := (HB.out.cell (World.block_lt_of_cell? w _ hx294_3)).trans hx294_3; replace hx294_4 := (HB.out.cell (World.block_lt_of_cell? w _ hx294_4)).trans hx294_4; replace p294 := eq_true p294; replace q294 := eq_true q294) | (go_at_call 41; (with_reducible refine (impl_isValue.calls k _ _ l2 t295 _ ?side1 ?side2 ?side3 A12.out).mono ?_); (case side1 => exact Go.Proofs.YtkfbdopfeacnfaaDoor.TabsU.Tabs0.of_below TB.out (by repeat (first | (with_reducible first | exact HB.out | apply below_alloc | apply pw_below_drewN | apply below_drew1) | exact HB.out))); (case side2 => repeat (first | exact (Kd.C_below HR2.out HB.out) | (with_reducible refine Kd.C_alloc ?_ _) | (with_reducible refine Kd.C_drewN ?_ _) | (with_reducible refine Kd.C_drew ?_))); (case side3 => exact HC2.out); rintro e w14 ⟨rfl, hb⟩; have n0_ := Aside0.mk (Kd.R_below (by (with_reducible repeat (first | apply Kd.R_alloc | apply Kd.R_drewN | apply Kd.R_drew)); exact HO292.out) hb); have n1_ := Aside0.mk (below_step (by repeat (first | (with_reducible first | exact HB.out | apply below_alloc | apply pw_below_drewN | apply below_drew1) | exact HB.out)) hb); clear HO292; clear HB; have HO292 := n0_; have HB := n1_; clear n0_ n1_; (try clear hb); (try clear hb2); (try clear hk); (try clear hi)))
      go_meet
      case rel => exact ⟨_, (!t295), (by first | rfl | (simp; done) | (simp [*]; done) | (simp; apply Bool.eq_iff_iff.mpr; simp only [bne_iff_ne, ne_eq, beq_iff_eq]; omega)), H', ⟨by first | omega | exact Nat.le_refl _⟩, ⟨by repeat (first | (with_reducible first | exact HB.out | apply below_alloc | apply pw_below_drewN | apply below_drew1) | exact HB.out)⟩⟩
     ·rw [if_neg c11] at H
      have c11b0 : (((rd_T61 l0 0).f1) == 7) = false := beq_eq_false_iff_ne.mpr c11
      have c11b1 : (((rd_T61 l0 0).f1) != 7) = true := bne_iff_ne.mpr c11
      have H' := Aside0.mk H
      clear H
      go_wp2_with (first | (go_at_call 41; (with_reducible refine (impl_isValue.calls k _ _ l0 true _ ?side1 ?side2 ?side3 A8.out).mono ?_); (case side1 => exact Go.Proofs.YtkfbdopfeacnfaaDoor.TabsU.Tabs0.of_below TB.out (by repeat (first | (with_reducible first | exact HB.out | apply below_alloc | apply pw_below_drewN | apply below_drew1) | exact HB.out))); (case side2 => repeat (first | exact (Kd.C_below HR0.out HB.out) | (with_reducible refine Kd.C_alloc ?_ _) | (with_reducible refine Kd.C_drewN ?_ _) | (with_reducible refine Kd.C_drew ?_))); (case side3 => exact HC0.out); rintro e w15 ⟨rfl, hb⟩; have n0_ := Aside0.mk (Kd.R_below (by (with_reducible repeat (first | apply Kd.R_alloc | apply Kd.R_drewN | apply Kd.R_drew)); exact HO292.out) hb); have n1_ := Aside0.mk (below_step (by repeat (first | (with_reducible first | exact HB.out | apply below_alloc | apply pw_below_drewN | apply below_drew1) | exact HB.out)) hb); clear HO292; clear HB; have HO292 := n0_; have HB := n1_; clear n0_ n1_; (try clear hb); (try clear hb2); (try clear hk); (try clear hi); have p294 : 0 ≤ (0 : Int) := (by omega); have q294 : 0 < (l0.length : Int) := of_decide_eq_true (by first | (with_reducible assumption) | assumption); obtain ⟨ad294, e294, hx294_0, hx294_1, hx294_2, hx294_3, hx294_4⟩ := at_T61 HR0.out 0 p294 q294; cases e294; have qi294 : (0 < l0.length) = True := eq_true (by omega); (try rw [show ((0 : Int)).toNat = 0 from rfl] at hx294_0); (try rw [show 0 * 5 = 0 from rfl] at hx294_0); (try rw [Addr.add_zero'] at hx294_0); (try rw [show ((0 : Int)).toNat = 0 from rfl] at hx294_1); (try rw [show 0 * 5 = 0 from rfl] at hx294_1); (try rw [Addr.add_zero'] at hx294_1); (try rw [show ((0 : Int)).toNat = 0 from rfl] at hx294_2); (try rw [show 0 * 5 = 0 from rfl] at hx294_2); (try rw [Addr.add_zero'] at hx294_2); (try rw [show ((0 : Int)).toNat = 0 from rfl] at hx294_3); (try rw [show 0 * 5 = 0 from rfl] at hx294_3); (try rw [Addr.add_zero'] at hx294_3); (try rw [show ((0 : Int)).toNat = 0 from rfl] at hx294_4); (try rw [show 0 * 5 = 0 from rfl] at hx294_4); (try rw [Addr.add_zero'] at hx294_4); replace hx294_0 := (HB.out.cell (World.block_lt_of_cell? w _ hx294_0)).trans hx294_0; replace hx294_1 := (HB.out.cell (World.block_lt_of_cell? w _ hx294_1)).trans hx294_1; replace hx294_2 := (HB.out.cell (World.block_lt_of_cell? w _ hx294_2)).trans hx294_2; replace hx294_3 := (HB.out.cell (World.block_lt_of_cell? w _ hx294_3)).trans hx294_3; replace hx294_4 := (HB.out.cell (World.block_lt_of_cell? w _ hx294_4)).trans hx294_4; replace p294 := eq_true p294; replace q294 := eq_true q294))
      go_meet
      case rel => exact ⟨_, (true), (by first | rfl | (simp; done) | (simp [*]; done) | (simp; apply Bool.eq_iff_iff.mpr; simp only [bne_iff_ne, ne_eq, beq_iff_eq]; omega)), H', ⟨by first | omega | exact Nat.le_refl _⟩, ⟨by repeat (first | (with_reducible first | exact HB.out | apply below_alloc | apply pw_below_drewN | apply below_drew1) | exact HB.out)⟩⟩
    ·rw [if_neg c10] at H
     exact absurd H (by simp)
   ·replace c9 := Bool.eq_false_iff.mpr c9
    subst c9
    have H1 : (impl_WithField.j0 k l0 a1 l2 true) = some (r1, r2) := by rw [if_neg (show ¬ (false = true) by decide)] at H; exact H
    clear H
    have H := H1
    clear H1
    have H' := Aside0.mk H
    clear H
    go_wp2_with (first | (go_at_call 41; (with_reducible refine (impl_isValue.calls k _ _ l0 false _ ?side1 ?side2 ?side3 A8.out).mono ?_); (case side1 => exact Go.Proofs.YtkfbdopfeacnfaaDoor.TabsU.Tabs0.of_below TB.out (by repeat (first | (with_reducible first | exact HB.out | apply below_alloc | apply pw_below_drewN | apply below_drew1) | exact HB.out))); (case side2 => repeat (first | exact (Kd.C_below HR0.out HB.out) | (with_reducible refine Kd.C_alloc ?_ _) | (with_reducible refine Kd.C_drewN ?_ _) | (with_reducible refine Kd.C_drew ?_))); (case side3 => exact HC0.out); rintro e w16 ⟨rfl, hb⟩; have n0_ := Aside0.mk (Kd.R_below (by (with_reducible repeat (first | apply Kd.R_alloc | apply Kd.R_drewN | apply Kd.R_drew)); exact HO292.out) hb); have n1_ := Aside0.mk (below_step (by repeat (first | (with_reducible first | exact HB.out | apply below_alloc | apply pw_below_drewN | apply below_drew1) | exact HB.out)) hb); clear HO292; clear HB; have HO292 := n0_; have HB := n1_; clear n0_ n1_; (try clear hb); (try clear hb2); (try clear hk); (try clear hi)))
    go_meet
    case rel => exact ⟨_, (true), (by first | rfl | (simp; done) | (simp [*]; done) | (simp; apply Bool.eq_iff_iff.mpr; simp only [bne_iff_ne, ne_eq, beq_iff_eq]; omega)), H', ⟨by first | omega | exact Nat.le_refl _⟩, ⟨by repeat (first | (with_reducible first | exact HB.out | apply below_alloc | apply pw_below_drewN | apply below_drew1) | exact HB.out)⟩⟩
  ·replace c7 := Bool.eq_false_iff.mpr c7
   subst c7
   have H1 : (impl_WithField.j0 k l0 a1 l2 true) = some (r1, r2) := by rw [if_neg (show ¬ (false = true) by decide)] at H; exact H
   clear H
   have H := H1
   clear H1
   have H' := Aside0.mk H
   clear H
   go_wp2
   go_meet
   case rel => exact ⟨_, (true), (by first | rfl | (simp; done) | (simp [*]; done) | (simp; apply Bool.eq_iff_iff.mpr; simp only [bne_iff_ne, ne_eq, beq_iff_eq]; omega)), H', ⟨by first | omega | exact Nat.le_refl _⟩, ⟨by repeat (first | (with_reducible first | exact HB.out | apply below_alloc | apply pw_below_drewN | apply below_drew1) | exact HB.out)⟩⟩
 case rest =>
  clear HC5
  try clear c1
  try clear c2
  try clear p2
  try clear q2
  try clear hx2
  try clear qi2
  try clear c5
  try clear c7
  try clear c9
  try clear c10
  try clear c10b0
  try clear c10b1
  try clear c11
  try clear c11b0
  try clear c11b1
  try clear hx294_0
  try clear hx294_1
  try clear hx294_2
  try clear hx294_3
  try clear hx294_4
  try clear p294
  try clear q294
  obtain ⟨kq, x37_4, rfl, HA, HJ4, HB⟩ := hcut
  cases kq with
  | zero => exact absurd HA.out (by simp [impl_WithField.j0])
  | succ kj4 =>
   have H := HA.out
   clear HA
   simp only [impl_WithField.j0] at H
   by_cases c17 : x37_4 = true
   ·subst c17
    have H1 : (some (([] : List (S61)), false)) = some (r1, r2) := by rw [if_pos rfl] at H; exact H
    clear H
    have H := H1
    clear H1
    simp only [Option.some.injEq, Prod.mk.injEq] at H
    obtain ⟨rfl, rfl⟩ := H
    go_wp2
    go_ret2
    exact ⟨_, by first | rfl | (simp [errW_none, errW_some] <;> rfl) | (simp [*, errW_none, errW_some] <;> rfl), by first | exact Kd.R_nil _ _ _ _ _ | exact Kd.N_nil _ _ _ _ _ | exact Kd.V_nil _ _ _ _ _ | exact Kd.Q_nil _ _ _ _ _ | exact Kd.S_nil _ _ _ _ _, by repeat (first | (with_reducible first | exact HB.out | apply below_alloc | apply pw_below_drewN | apply below_drew1) | exact HB.out)⟩
   ·replace c17 := Bool.eq_false_iff.mpr c17
    subst c17
    have H1 : ((impl_keyed.f l2 a1).bind fun t296 => ((impl_partsOf.f kj4 l0).bind fun t302 => (impl_WithField.l0 kj4 a1 (([t296] : List (List (S61)))) t302 (t302.length : Int) 0))) = some (r1, r2) := by rw [if_neg (show ¬ (false = true) by decide)] at H; exact H
    clear H
    have H := H1
    clear H1
    replace H := Option.bind_eq_some_iff.mp H
    obtain ⟨t296, A180, H⟩ := H
    replace H : ((impl_partsOf.f kj4 l0).bind fun t302 => (impl_WithField.l0 kj4 a1 (([t296] : List (List (S61)))) t302 (t302.length : Int) 0)) = some (r1, r2) := H
    have A18 := Aside0.mk A180
    clear A180
    obtain ⟨y299, hy299⟩ : ∃ y_ : List (List (S61)), y_ = (([t296] : List (List (S61)))) := ⟨_, rfl⟩
    replace H : ((impl_partsOf.f kj4 l0).bind fun t302 => (impl_WithField.l0 kj4 a1 y299 t302 (t302.length : Int) 0)) = some (r1, r2) := by first | (rw [hy299]; with_reducible exact H) | (have H2_ := (Option.bind_some _ _).symm.trans H; rw [hy299]; with_reducible exact H2_) | (have H2_ := (Option.bind_some _ _).symm.trans H; with_reducible exact H2_) | with_reducible exact H | (rw [hy299]; exact H) | exact H
    have Ny299 := Aside0.mk hy299
    clear hy299
    replace H := Option.bind_eq_some_iff.mp H
    obtain ⟨t302, A190, H⟩ := H
    replace H : (impl_WithField.l0 kj4 a1 y299 t302 (t302.length : Int) 0) = some (r1, r2) := H
    have A19 := Aside0.mk A190
    clear A190
    have H' := Aside0.mk H
    clear H
    go_wp2_with (first | ((with_reducible refine gate_callee (f := 45) rfl ?_); refine goesL_ (some 40) rfl rfl Tryd.func45 (by kernel_rfl) rfl #[.slice A2 l2.length c2, .string a1] rfl (by (try simp only [List.map_toArray, List.map_cons, List.map_nil]); first | done | rfl | (simp only [List.length_drop, List.length_take]; rfl)) ?_; (with_reducible refine (impl_keyed.calls _ _ l2 a1 t296 _ ?side1 ?side2 A18.out).mono ?_); (case side1 => repeat (first | exact (Kd.C_below HR2.out HB.out) | (with_reducible refine Kd.C_alloc ?_ _) | (with_reducible refine Kd.C_drewN ?_ _) | (with_reducible refine Kd.C_drew ?_))); (case side2 => exact HC2.out); rintro e w20 ⟨v297, rfl, ho0, hb⟩; refine ⟨_, rfl, ?_⟩; have n0_ := Aside0.mk (Kd.R_lower ho0 (below_size (by repeat (first | (with_reducible first | exact HB.out | apply below_alloc | apply pw_below_drewN | apply below_drew1) | exact HB.out)))); have n1_ := Aside0.mk (below_step (by repeat (first | (with_reducible first | exact HB.out | apply below_alloc | apply pw_below_drewN | apply below_drew1) | exact HB.out)) hb); clear HB; have HO298 := n0_; have HB := n1_; clear n0_ n1_; (try clear hb); (try clear hb2); (try clear hk); (try clear hi); (try clear ho0); obtain ⟨Ao21, co21, eo21⟩ := Kd.R_slice HO298.out; subst eo21) | ((with_reducible refine gate_dst (N := 41) rfl ?_); refine Kd.N_lit (Kd.slice 61 k61) _ 22 ?hg (N' := 41) ?hd (xs := ([t296] : List (List (S61)))) (inner := [.slice Ao21 t296.length co21]) (ok := (fun _ => True)) (okp := (fun _ => True)) ?hr ?hp (fun _ hk => hk) ((show ∀ k_, w20.heap.size ≤ k_ → (fun _ => True) k_ from fun k_ hk => trivial) _ (Nat.le_refl _)) (Below.refl _ _) (Nat.le_refl _) (by simp) ?_; (case hd => rfl); (case hg => rfl); (case hr => first | (go_simp; done) | (go_simp; rfl)); (case hp => exact (Reps.one (show Kd.FK (Kd.slice 61 k61) _ _ t296 [.slice Ao21 t296.length co21] from (Kd.FK_slice_mk (Kd.R_reads' (Kd.R_mono (ok' := (fun _ => True)) (HO298.out) (fun k_ hk => trivial))).2.1 (Kd.R_F (Kd.R_mono (ok' := (fun _ => True)) (HO298.out) (fun k_ hk => trivial))))) (Reps.none _ _))); intro v300 w22 ho23 hb hg_ hnew_; clear hg_ hnew_; (first | rw [← Ny299.out] at ho23 | (simp only [Int.reduceToNat] at ho23; rw [← Ny299.out] at ho23)); have n0_ := Aside0.mk (Kd.N_lower ho23 (below_size (by repeat (first | (with_reducible first | exact HB.out | apply below_alloc | apply pw_below_drewN | apply below_drew1) | exact HB.out)))); have n1_ := Aside0.mk (below_step (by repeat (first | (with_reducible first | exact HB.out | apply below_alloc | apply pw_below_drewN | apply below_drew1) | exact HB.out)) hb); clear HB; clear HO298; have HO301 := n0_; have HB := n1_; clear n0_ n1_; clear hb ho23) | ((with_reducible refine gate_callee (f := 44) rfl ?_); refine goesL_ (some 43) rfl rfl Tryd.func44 (by kernel_rfl) rfl #[.slice A0 l0.length c0] rfl (by (try simp only [List.map_toArray, List.map_cons, List.map_nil]); first | done | rfl | (simp only [List.length_drop, List.length_take]; rfl)) ?_; (with_reducible refine (impl_partsOf.calls kj4 (fun k_ => k_ < w.heap.size) _ _ l0 t302 _ ?side1 A19.out).mono ?_); (case side1 => exact Kd.V_mk HC0.out (Kd.F_below (Kd.C_F k61_heap HR0.out) (by repeat (first | (with_reducible first | exact HB.out | apply below_alloc | apply pw_below_drewN | apply below_drew1) | exact HB.out)))); rintro e w24 ⟨v303, rfl, ho0, hb⟩; refine ⟨_, rfl, ?_⟩; have n0_ := Aside0.mk (Kd.N_elder' (by (with_reducible repeat (first | apply Kd.N_alloc | apply Kd.N_drewN | apply Kd.N_drew)); exact HO301.out) (Kd.N_base ho0) hb); have n1_ := Aside0.mk (Kd.N_lower (Kd.N_mono (ok' := fun k_ => some k_ ≠ (v300 : Value).ownBlock) ho0 (fun k_ hk_ => Or.elim hk_ (fun hs_ => fun e_ => Nat.not_le.2 hs_ (Kd.N_base HO301.out k_ e_.symm)) (fun hn_ => (Kd.fresh' (Kd.N_lt (by (with_reducible repeat (first | apply Kd.N_alloc | apply Kd.N_drewN | apply Kd.N_drew)); exact HO301.out)) k_ hn_)))) (below_size (by repeat (first | (with_reducible first | exact HB.out | apply below_alloc | apply pw_below_drewN | apply below_drew1) | exact HB.out)))); have n2_ := Aside0.mk (below_step (by repeat (first | (with_reducible first | exact HB.out | apply below_alloc | apply pw_below_drewN | apply below_drew1) | exact HB.out)) hb); clear HO301; clear HB; have HO301 := n0_; have HO304 := n1_; have HB := n2_; clear n0_ n1_ n2_; (try clear hb); (try clear hb2); (try clear hk); (try clear hi); (try clear ho0); obtain ⟨Ao25, co25, eo25⟩ := Kd.N_slice HO304.out; subst eo25))
    go_loopg [10, 45] kj4 (fun kq v10 v45 w' => ∃ (x10_2 : List (List (S61))) (x45_2 : Int), v45 = .int .i64 x45_2 ∧ Aside0 (impl_WithField.l0 kq a1 x10_2 t302 (t302.length : Int) x45_2 = some (r1, r2)) ∧ Aside0 (kq ≤ kj4) ∧ Aside0 (Kd.N (Kd.slice 61 k61) 22 w' w.heap.size (fun k_ => some k_ ≠ ((.slice Ao25 t302.length co25) : Value).ownBlock) v10 x10_2) ∧ Aside0 (Kd.N (Kd.slice 61 k61) 22 w' w.heap.size (fun k_ => some k_ ≠ (v10 : Value).ownBlock) (.slice Ao25 t302.length co25) t302) ∧ Aside0 (Below w.heap.size w w'))
    case atStart => exact ⟨(y299), (0), (by first | rfl | (simp; done) | (simp [*]; done) | (simp; apply Bool.eq_iff_iff.mpr; simp only [bne_iff_ne, ne_eq, beq_iff_eq]; omega)), H', ⟨Nat.le_refl _⟩, ⟨by (with_reducible repeat (first | apply Kd.N_alloc | apply Kd.N_drewN | apply Kd.N_drew)); exact Kd.N_mono HO301.out (fun _ hk => hk.2)⟩, ⟨by (with_reducible repeat (first | apply Kd.N_alloc | apply Kd.N_drewN | apply Kd.N_drew)); exact HO304.out⟩, ⟨by repeat (first | (with_reducible first | exact HB.out | apply below_alloc | apply pw_below_drewN | apply below_drew1) | exact HB.out)⟩⟩
    case round =>
     clear H'
     try clear c1
     try clear c2
     try clear p2
     try clear q2
     try clear hx2
     try clear qi2
     try clear c4
     try clear c5
     try clear c7
     try clear c9
     try clear c10
     try clear c10b0
     try clear c10b1
     try clear c11
     try clear c11b0
     try clear c11b1
     try clear c17
     try clear hx294_0
     try clear hx294_1
     try clear hx294_2
     try clear hx294_3
     try clear hx294_4
     try clear p2
     try clear p294
     try clear q2
     try clear q294
     obtain ⟨x10_2, x45_2, rfl, HA, HK2, HO_10, HO_43, HB⟩ := hrel
     cases gk with
     | zero => exact absurd HA.out (by simp [impl_WithField.l0])
     | succ k2 =>
      have H := HA.out
      clear HA
      simp only [impl_WithField.l0] at H
      by_cases c26 : x45_2 < (t302.length : Int)
      ·rw [if_pos c26] at H
       have c26b0 : decide (x45_2 < (t302.length : Int)) = true := decide_eq_true c26
       clear c26
       by_cases c27 : 0 ≤ x45_2
       ·rw [if_pos c27] at H
        have c27b0 : decide (0 ≤ x45_2) = true := decide_eq_true c27
        clear c27
        by_cases c28 : x45_2 < (t302.length : Int)
        ·rw [if_pos c28] at H
         have c28b0 : decide (x45_2 < (t302.length : Int)) = true := decide_eq_true c28
         clear c28
         by_cases c29 : 0 < ((rd_L5 t302 x45_2).length : Int)
         ·rw [if_pos c29] at H
          have c29b0 : decide (0 < ((rd_L5 t302 x45_2).length : Int)) = true := decide_eq_true c29
          have c29b1 : decide (0 < (rd_L5 t302 x45_2).length) = true := decide_eq_true (by omega)
          clear c29
          by_cases c30 : ((rd_T61 (rd_L5 t302 x45_2) 0).f0).toList = a1.toList
          ·rw [if_pos c30] at H
           have c30b0 : (((rd_T61 (rd_L5 t302 x45_2) 0).f0).toList == a1.toList) = true := beq_iff_eq.mpr c30
           have c30b1 : (((rd_T61 (rd_L5 t302 x45_2) 0).f0).toList != a1.toList) = false := bne_eq_false_iff_eq.mpr c30
           clear c30
           have H' := Aside0.mk H
           clear H
           have p305 : 0 ≤ (x45_2 : Int) := of_decide_eq_true (by first | (with_reducible assumption) | assumption)
           have q305 : x45_2 < (t302.length : Int) := of_decide_eq_true (by first | (with_reducible assumption) | assumption)
           obtain ⟨ad305, A305_0, c305_0, e305, hx305_0, hl305_0, hi305_0⟩ := at_L5 (Kd.N_reads' HO_43.out).2.2 x45_2 p305 q305
           cases e305
           obtain ⟨ce305, hce305, hMe305, hcc305⟩ := Kd.N_get HO_43.out [] x45_2 p305 (by first | exact q305 | exact of_decide_eq_true (by first | (with_reducible assumption) | assumption) | (have e_ := (Kd.N_reads' HO_43.out).1; omega))
           obtain ⟨ua305_0, uc305_0, rfl, ul305_0, ge305_0⟩ := Kd.FK_slice_open hMe305
           have hv305_0 := hcc305 0 _ rfl
           rw [Nat.add_zero, show ((Kd.slice 61 k61)).sz = 1 from rfl, Nat.mul_one] at hv305_0
           replace hv305_0 := Option.some.inj (hv305_0.symm.trans hx305_0)
           injection hv305_0 with hva_ hvn_ hvc_
           rw [hva_] at ge305_0
           rw [hvc_] at ul305_0
           have HL305_0 := Aside0.mk (show Kd.V k61 61 _ w.heap.size _ _ (rd_L5 t302 x45_2) from Kd.V_mk ul305_0 ge305_0)
           clear hva_ hvn_ hvc_ ge305_0 ul305_0
           clear hcc305 hce305
           have HR305_0 := Aside0.mk hi305_0
           have HC305_0 := Aside0.mk hl305_0
           clear hi305_0 hl305_0
           replace p305 := eq_true p305
           replace q305 := eq_true q305
           have p306 : 0 ≤ (0 : Int) := (by omega)
           have q306 : 0 < ((rd_L5 t302 x45_2).length : Int) := of_decide_eq_true (by first | (with_reducible assumption) | assumption)
           obtain ⟨ad306, e306, hx306_0, hx306_1, hx306_2, hx306_3, hx306_4⟩ := at_T61 (by repeat (first | (with_reducible exact HR305_0.out) | (with_reducible refine Kd.C_alloc ?_ _) | (with_reducible refine Kd.C_drewN ?_ _) | (with_reducible refine Kd.C_drew ?_) | exact HR305_0.out)) 0 p306 q306
           cases e306
           have qi306 : (0 < (rd_L5 t302 x45_2).length) = True := eq_true (by omega)
           (try rw [show ((0 : Int)).toNat = 0 from rfl] at hx306_0)
           (try rw [show 0 * 5 = 0 from rfl] at hx306_0)
           (try rw [Addr.add_zero'] at hx306_0)
           (try rw [show ((0 : Int)).toNat = 0 from rfl] at hx306_1)
           (try rw [show 0 * 5 = 0 from rfl] at hx306_1)
           (try rw [Addr.add_zero'] at hx306_1)
           (try rw [show ((0 : Int)).toNat = 0 from rfl] at hx306_2)
           (try rw [show 0 * 5 = 0 from rfl] at hx306_2)
           (try rw [Addr.add_zero'] at hx306_2)
           (try rw [show ((0 : Int)).toNat = 0 from rfl] at hx306_3)
           (try rw [show 0 * 5 = 0 from rfl] at hx306_3)
           (try rw [Addr.add_zero'] at hx306_3)
           (try rw [show ((0 : Int)).toNat = 0 from rfl] at hx306_4)
           (try rw [show 0 * 5 = 0 from rfl] at hx306_4)
           (try rw [Addr.add_zero'] at hx306_4)
           replace p306 := eq_true p306
           replace q306 := eq_true q306
           go_wp2
           go_roundg k2
           case measure => have := HJ4.out; have := HK2.out; omega
           case rel => exact ⟨(x10_2), (wrap64 (x45_2 + 1)), (by first | rfl | (simp; done) | (simp [*]; done) | (simp; apply Bool.eq_iff_iff.mpr; simp only [bne_iff_ne, ne_eq, beq_iff_eq]; omega)), H', ⟨by have := HJ4.out; have := HK2.out; omega⟩, ⟨by (with_reducible repeat (first | apply Kd.N_alloc | apply Kd.N_drewN | apply Kd.N_drew)); exact HO_10.out⟩, ⟨by (with_reducible repeat (first | apply Kd.N_alloc | apply Kd.N_drewN | apply Kd.N_drew)); exact HO_43.out⟩, ⟨by repeat (first | (with_reducible first | exact HB.out | apply below_alloc | apply pw_below_drewN | apply below_drew1) | exact HB.out)⟩⟩
          ·rw [if_neg c30] at H
           have c30b0 : (((rd_T61 (rd_L5 t302 x45_2) 0).f0).toList == a1.toList) = false := beq_eq_false_iff_ne.mpr c30
           have c30b1 : (((rd_T61 (rd_L5 t302 x45_2) 0).f0).toList != a1.toList) = true := bne_iff_ne.mpr c30
           by_cases c31 : x10_2.length < 5864062014805
           ·rw [if_pos c31] at H
            have LMc31 := Aside0.mk c31
            clear c31
            obtain ⟨y307, hy307⟩ : ∃ y_ : List (List (S61)), y_ = (x10_2 ++ [rd_L5 t302 x45_2]) := ⟨_, rfl⟩
            replace H : (impl_WithField.l0 k2 a1 y307 t302 (t302.length : Int) (wrap64 (x45_2 + 1))) = some (r1, r2) := by first | (rw [hy307]; with_reducible exact H) | (have H2_ := (Option.bind_some _ _).symm.trans H; rw [hy307]; with_reducible exact H2_) | (have H2_ := (Option.bind_some _ _).symm.trans H; with_reducible exact H2_) | with_reducible exact H | (rw [hy307]; exact H) | exact H
            have Ny307 := Aside0.mk hy307
            clear hy307
            have H' := Aside0.mk H
            clear H
            have p305 : 0 ≤ (x45_2 : Int) := of_decide_eq_true (by first | (with_reducible assumption) | assumption)
            have q305 : x45_2 < (t302.length : Int) := of_decide_eq_true (by first | (with_reducible assumption) | assumption)
            obtain ⟨ad305, A305_0, c305_0, e305, hx305_0, hl305_0, hi305_0⟩ := at_L5 (Kd.N_reads' HO_43.out).2.2 x45_2 p305 q305
            cases e305
            obtain ⟨ce305, hce305, hMe305, hcc305⟩ := Kd.N_get HO_43.out [] x45_2 p305 (by first | exact q305 | exact of_decide_eq_true (by first | (with_reducible assumption) | assumption) | (have e_ := (Kd.N_reads' HO_43.out).1; omega))
            obtain ⟨ua305_0, uc305_0, rfl, ul305_0, ge305_0⟩ := Kd.FK_slice_open hMe305
            have hv305_0 := hcc305 0 _ rfl
            rw [Nat.add_zero, show ((Kd.slice 61 k61)).sz = 1 from rfl, Nat.mul_one] at hv305_0
            replace hv305_0 := Option.some.inj (hv305_0.symm.trans hx305_0)
            injection hv305_0 with hva_ hvn_ hvc_
            rw [hva_] at ge305_0
            rw [hvc_] at ul305_0
            have HL305_0 := Aside0.mk (show Kd.V k61 61 _ w.heap.size _ _ (rd_L5 t302 x45_2) from Kd.V_mk ul305_0 ge305_0)
            clear hva_ hvn_ hvc_ ge305_0 ul305_0
            clear hcc305 hce305
            have HR305_0 := Aside0.mk hi305_0
            have HC305_0 := Aside0.mk hl305_0
            clear hi305_0 hl305_0
            replace p305 := eq_true p305
            replace q305 := eq_true q305
            have p306 : 0 ≤ (0 : Int) := (by omega)
            have q306 : 0 < ((rd_L5 t302 x45_2).length : Int) := of_decide_eq_true (by first | (with_reducible assumption) | assumption)
            obtain ⟨ad306, e306, hx306_0, hx306_1, hx306_2, hx306_3, hx306_4⟩ := at_T61 (by repeat (first | (with_reducible exact HR305_0.out) | (with_reducible refine Kd.C_alloc ?_ _) | (with_reducible refine Kd.C_drewN ?_ _) | (with_reducible refine Kd.C_drew ?_) | exact HR305_0.out)) 0 p306 q306
            cases e306
            have qi306 : (0 < (rd_L5 t302 x45_2).length) = True := eq_true (by omega)
            (try rw [show ((0 : Int)).toNat = 0 from rfl] at hx306_0)
            (try rw [show 0 * 5 = 0 from rfl] at hx306_0)
            (try rw [Addr.add_zero'] at hx306_0)
            (try rw [show ((0 : Int)).toNat = 0 from rfl] at hx306_1)
            (try rw [show 0 * 5 = 0 from rfl] at hx306_1)
            (try rw [Addr.add_zero'] at hx306_1)
            (try rw [show ((0 : Int)).toNat = 0 from rfl] at hx306_2)
            (try rw [show 0 * 5 = 0 from rfl] at hx306_2)
            (try rw [Addr.add_zero'] at hx306_2)
            (try rw [show ((0 : Int)).toNat = 0 from rfl] at hx306_3)
            (try rw [show 0 * 5 = 0 from rfl] at hx306_3)
            (try rw [Addr.add_zero'] at hx306_3)
            (try rw [show ((0 : Int)).toNat = 0 from rfl] at hx306_4)
            (try rw [show 0 * 5 = 0 from rfl] at hx306_4)
            (try rw [Addr.add_zero'] at hx306_4)
            replace p306 := eq_true p306
            replace q306 := eq_true q306
            go_wp2_with (first | ((with_reducible refine gate_builtin (b := .append) (xs := #[.tmp 55, .tmp 57]) rfl ?_); at_builtin; refine Kd.N_append (Kd.slice 61 k61) (w0 := w) w.heap.size rfl (.tmp 55) (.tmp 57) 73 22 (.slice none 0 0) 24 rfl Tryd.underlying73 info22 rfl (by decide) (by omega) u10 x10_2 (rd_L5 t302 x45_2) [.slice (some ad306) (rd_L5 t302 x45_2).length c305_0] (fun k_ => some k_ ≠ (.slice (some ad305) t302.length co25 : Value).ownBlock) (fun k_ => ((fun k_ => some k_ ≠ (.slice (some ad305) t302.length co25 : Value).ownBlock)) k_ ∧ some k_ ≠ (u10 : Value).ownBlock) rfl rfl ?aP (fun _ hk => hk) ?aF ?aO ?aB ?aS ?aL ?_; (case aP => exact (Kd.FK_slice_mk (Kd.V_reads' (Kd.V_mono (ok' := (fun k_ => ((fun k_ => some k_ ≠ (.slice (some ad305) t302.length co25 : Value).ownBlock)) k_ ∧ some k_ ≠ (u10 : Value).ownBlock)) (HL305_0.out) (fun k_ hk => ⟨hk.2, hk.1⟩))).2.1 (Kd.V_F (Kd.V_mono (ok' := (fun k_ => ((fun k_ => some k_ ≠ (.slice (some ad305) t302.length co25 : Value).ownBlock)) k_ ∧ some k_ ≠ (u10 : Value).ownBlock)) (HL305_0.out) (fun k_ hk => ⟨hk.2, hk.1⟩))))); (case aB => exact (by repeat (first | (with_reducible first | exact HB.out | apply below_alloc | apply pw_below_drewN | apply below_drew1) | exact HB.out))); (case aF => exact (fun k_ hk => Kd.fresh' (Kd.N_lt (by (with_reducible repeat (first | apply Kd.N_alloc | apply Kd.N_drewN | apply Kd.N_drew)); exact HO_43.out)) k_ hk)); (case aO => exact (by (with_reducible repeat (first | apply Kd.N_alloc | apply Kd.N_drewN | apply Kd.N_drew)); exact HO_10.out)); (case aS => exact (below_size (by repeat (first | (with_reducible first | exact HB.out | apply below_alloc | apply pw_below_drewN | apply below_drew1) | exact HB.out)))); (case aL => have := LMc31.out; omega); intro v308 w32 ho hb hg hat; rw [← Ny307.out] at ho; have n0_ := Aside0.mk (Kd.N_afterv (ok := (fun _ => True)) (by (with_reducible repeat (first | apply Kd.N_alloc | apply Kd.N_drewN | apply Kd.N_drew)); exact Kd.N_mono HO_43.out (fun _ hk => ⟨trivial, hk⟩)) hg hat); have n1_ := Aside0.mk (Kd.V_afterv (ok := (fun k_ => some k_ ≠ (.slice (some ad305) t302.length co25 : Value).ownBlock)) (by (with_reducible repeat (first | apply Kd.V_alloc | apply Kd.V_drewN | apply Kd.V_drew)); exact Kd.V_mono HL305_0.out (fun _ hk => ⟨hk.2, hk.1⟩)) hg hat); have n2_ := Aside0.mk (hb); have n3_ := Aside0.mk (ho); clear HO_43; clear HL305_0; clear HB; clear HO_10; have HO_43 := n0_; have HL305_0 := n1_; have HB := n2_; have HO309 := n3_; clear n0_ n1_ n2_ n3_; clear ho hb hg hat))
            go_roundg k2
            case measure => have := HJ4.out; have := HK2.out; omega
            case rel => exact ⟨(y307), (wrap64 (x45_2 + 1)), (by first | rfl | (simp; done) | (simp [*]; done) | (simp; apply Bool.eq_iff_iff.mpr; simp only [bne_iff_ne, ne_eq, beq_iff_eq]; omega)), H', ⟨by have := HJ4.out; have := HK2.out; omega⟩, ⟨by (with_reducible repeat (first | apply Kd.N_alloc | apply Kd.N_drewN | apply Kd.N_drew)); exact HO309.out⟩, ⟨by (with_reducible repeat (first | apply Kd.N_alloc | apply Kd.N_drewN | apply Kd.N_drew)); exact Kd.N_mono HO_43.out (fun _ hk => hk.2)⟩, ⟨by repeat (first | (with_reducible first | exact HB.out | apply below_alloc | apply pw_below_drewN | apply below_drew1) | exact HB.out)⟩⟩
           ·rw [if_neg c31] at H
            exact absurd H (by simp)
         ·rw [if_neg c29] at H
          exact absurd H (by simp)
        ·rw [if_neg c28] at H
         exact absurd H (by simp)
       ·rw [if_neg c27] at H
        exact absurd H (by simp)
      ·rw [if_neg c26] at H
       have c26b0 : decide (x45_2 < (t302.length : Int)) = false := decide_eq_false c26
       clear c26
       replace H := Option.bind_eq_some_iff.mp H
       obtain ⟨t310, A330, H⟩ := H
       replace H : ((impl_isValue.f k2 t310).bind fun t313 => (if t313 = true then (some (t310, true)) else (some (([] : List (S61)), false)))) = some (r1, r2) := H
       have A33 := Aside0.mk A330
       clear A330
       replace H := Option.bind_eq_some_iff.mp H
       obtain ⟨t313, A340, H⟩ := H
       replace H : (if t313 = true then (some (t310, true)) else (some (([] : List (S61)), false))) = some (r1, r2) := H
       have A34 := Aside0.mk A340
       clear A340
       by_cases c35 : t313 = true
       ·subst c35
        have H1 : (some (t310, true)) = some (r1, r2) := by rw [if_pos rfl] at H; exact H
        clear H
        have H := H1
        clear H1
        simp only [Option.some.injEq, Prod.mk.injEq] at H
        obtain ⟨rfl, rfl⟩ := H
        obtain ⟨Ao36, co36, eo36⟩ := Kd.N_slice HO_10.out
        subst eo36
        go_wp2_with (first | ((with_reducible refine gate_callee (f := 51) rfl ?_); refine goesL_ (some 61) rfl rfl Tryd.func51 (by kernel_rfl) rfl #[.string (⟨#[]⟩ : ByteArray), .slice Ao36 x10_2.length co36] rfl (by (try simp only [List.map_toArray, List.map_cons, List.map_nil]); first | done | rfl | (simp only [List.length_drop, List.length_take]; rfl)) ?_; (with_reducible refine (impl_record.calls k2 (⟨#[]⟩ : ByteArray) _ _ x10_2 t310 _ ?side1 ?side2 ?side3 A33.out).mono ?_); (case side1 => exact Go.Proofs.YtkfbdopfeacnfaaDoor.TabsU.Tabs0.of_below TB.out (by repeat (first | (with_reducible first | exact HB.out | apply below_alloc | apply pw_below_drewN | apply below_drew1) | exact HB.out))); (case side2 => repeat (first | exact (Kd.N_reads' HO_10.out).2.2 | (with_reducible refine Kd.C_alloc ?_ _) | (with_reducible refine Kd.C_drewN ?_ _) | (with_reducible refine Kd.C_drew ?_))); (case side3 => exact (Kd.N_reads' HO_10.out).2.1); rintro e w37 ⟨v311, rfl, ho0, hb⟩; refine ⟨_, rfl, ?_⟩; have n0_ := Aside0.mk (Kd.N_elder' (by (with_reducible repeat (first | apply Kd.N_alloc | apply Kd.N_drewN | apply Kd.N_drew)); exact HO_10.out) (Kd.R_base ho0) hb); have n1_ := Aside0.mk (Kd.N_elder' (by (with_reducible repeat (first | apply Kd.N_alloc | apply Kd.N_drewN | apply Kd.N_drew)); exact HO_43.out) (Kd.R_base ho0) hb); have n2_ := Aside0.mk (Kd.R_lower ho0 (below_size (by repeat (first | (with_reducible first | exact HB.out | apply below_alloc | apply pw_below_drewN | apply below_drew1) | exact HB.out)))); have n3_ := Aside0.mk (below_step (by repeat (first | (with_reducible first | exact HB.out | apply below_alloc | apply pw_below_drewN | apply below_drew1) | exact HB.out)) hb); clear HO_10; clear HO_43; clear HB; have HO_10 := n0_; have HO_43 := n1_; have HO312 := n2_; have HB := n3_; clear n0_ n1_ n2_ n3_; (try clear hb); (try clear hb2); (try clear hk); (try clear hi); (try clear ho0); obtain ⟨Ao38, co38, eo38⟩ := Kd.R_slice HO312.out; subst eo38) | ((with_reducible refine gate_callee (f := 41) rfl ?_); refine goesL_ (some 63) rfl rfl Tryd.func41 (by kernel_rfl) rfl #[.slice Ao38 t310.length co38] rfl (by (try simp only [List.map_toArray, List.map_cons, List.map_nil]); first | done | rfl | (simp only [List.length_drop, List.length_take]; rfl)) ?_; (with_reducible refine (impl_isValue.calls k2 _ _ t310 true _ ?side1 ?side2 ?side3 A34.out).mono ?_); (case side1 => exact Go.Proofs.YtkfbdopfeacnfaaDoor.TabsU.Tabs0.of_below TB.out (by repeat (first | (with_reducible first | exact HB.out | apply below_alloc | apply pw_below_drewN | apply below_drew1) | exact HB.out))); (case side2 => repeat (first | exact (Kd.R_reads' HO312.out).2.2 | (with_reducible refine Kd.C_alloc ?_ _) | (with_reducible refine Kd.C_drewN ?_ _) | (with_reducible refine Kd.C_drew ?_))); (case side3 => exact (Kd.R_reads' HO312.out).2.1); rintro e w39 ⟨rfl, hb⟩; refine ⟨_, rfl, ?_⟩; have n0_ := Aside0.mk (Kd.N_below (by (with_reducible repeat (first | apply Kd.N_alloc | apply Kd.N_drewN | apply Kd.N_drew)); exact HO_10.out) hb); have n1_ := Aside0.mk (Kd.N_below (by (with_reducible repeat (first | apply Kd.N_alloc | apply Kd.N_drewN | apply Kd.N_drew)); exact HO_43.out) hb); have n2_ := Aside0.mk (Kd.R_below (by (with_reducible repeat (first | apply Kd.R_alloc | apply Kd.R_drewN | apply Kd.R_drew)); exact HO312.out) hb); have n3_ := Aside0.mk (below_step (by repeat (first | (with_reducible first | exact HB.out | apply below_alloc | apply pw_below_drewN | apply below_drew1) | exact HB.out)) hb); clear HO_10; clear HO_43; clear HO312; clear HB; have HO_10 := n0_; have HO_43 := n1_; have HO312 := n2_; have HB := n3_; clear n0_ n1_ n2_ n3_; (try clear hb); (try clear hb2); (try clear hk); (try clear hi)))
        go_ret2
        exact ⟨_, by first | rfl | (simp [errW_none, errW_some] <;> rfl) | (simp [*, errW_none, errW_some] <;> rfl), by (with_reducible repeat (first | apply Kd.R_alloc | apply Kd.R_drewN | apply Kd.R_drew)); exact HO312.out, by repeat (first | (with_reducible first | exact HB.out | apply below_alloc | apply pw_below_drewN | apply below_drew1) | exact HB.out)⟩
       ·replace c35 := Bool.eq_false_iff.mpr c35
        subst c35
        have H1 : (some (([] : List (S61)), false)) = some (r1, r2) := by rw [if_neg (show ¬ (false = true) by decide)] at H; exact H
        clear H
        have H := H1
        clear H1
        simp only [Option.some.injEq, Prod.mk.injEq] at H
        obtain ⟨rfl, rfl⟩ := H
        obtain ⟨Ao40, co40, eo40⟩ := Kd.N_slice HO_10.out
        subst eo40
        go_wp2_with (first | ((with_reducible refine gate_callee (f := 51) rfl ?_); refine goesL_ (some 61) rfl rfl Tryd.func51 (by kernel_rfl) rfl #[.string (⟨#[]⟩ : ByteArray), .slice Ao40 x10_2.length co40] rfl (by (try simp only [List.map_toArray, List.map_cons, List.map_nil]); first | done | rfl | (simp only [List.length_drop, List.length_take]; rfl)) ?_; (with_reducible refine (impl_record.calls k2 (⟨#[]⟩ : ByteArray) _ _ x10_2 t310 _ ?side1 ?side2 ?side3 A33.out).mono ?_); (case side1 => exact Go.Proofs.YtkfbdopfeacnfaaDoor.TabsU.Tabs0.of_below TB.out (by repeat (first | (with_reducible first | exact HB.out | apply below_alloc | apply pw_below_drewN | apply below_drew1) | exact HB.out))); (case side2 => repeat (first | exact (Kd.N_reads' HO_10.out).2.2 | (with_reducible refine Kd.C_alloc ?_ _) | (with_reducible refine Kd.C_drewN ?_ _) | (with_reducible refine Kd.C_drew ?_))); (case side3 => exact (Kd.N_reads' HO_10.out).2.1); rintro e w41 ⟨v311, rfl, ho0, hb⟩; refine ⟨_, rfl, ?_⟩; have n0_ := Aside0.mk (Kd.N_elder' (by (with_reducible repeat (first | apply Kd.N_alloc | apply Kd.N_drewN | apply Kd.N_drew)); exact HO_10.out) (Kd.R_base ho0) hb); have n1_ := Aside0.mk (Kd.N_elder' (by (with_reducible repeat (first | apply Kd.N_alloc | apply Kd.N_drewN | apply Kd.N_drew)); exact HO_43.out) (Kd.R_base ho0) hb); have n2_ := Aside0.mk (Kd.R_lower ho0 (below_size (by repeat (first | (with_reducible first | exact HB.out | apply below_alloc | apply pw_below_drewN | apply below_drew1) | exact HB.out)))); have n3_ := Aside0.mk (below_step (by repeat (first | (with_reducible first | exact HB.out | apply below_alloc | apply pw_below_drewN | apply below_drew1) | exact HB.out)) hb); clear HO_10; clear HO_43; clear HB; have HO_10 := n0_; have HO_43 := n1_; have HO312 := n2_; have HB := n3_; clear n0_ n1_ n2_ n3_; (try clear hb); (try clear hb2); (try clear hk); (try clear hi); (try clear ho0); obtain ⟨Ao42, co42, eo42⟩ := Kd.R_slice HO312.out; subst eo42) | ((with_reducible refine gate_callee (f := 41) rfl ?_); refine goesL_ (some 63) rfl rfl Tryd.func41 (by kernel_rfl) rfl #[.slice Ao42 t310.length co42] rfl (by (try simp only [List.map_toArray, List.map_cons, List.map_nil]); first | done | rfl | (simp only [List.length_drop, List.length_take]; rfl)) ?_; (with_reducible refine (impl_isValue.calls k2 _ _ t310 false _ ?side1 ?side2 ?side3 A34.out).mono ?_); (case side1 => exact Go.Proofs.YtkfbdopfeacnfaaDoor.TabsU.Tabs0.of_below TB.out (by repeat (first | (with_reducible first | exact HB.out | apply below_alloc | apply pw_below_drewN | apply below_drew1) | exact HB.out))); (case side2 => repeat (first | exact (Kd.R_reads' HO312.out).2.2 | (with_reducible refine Kd.C_alloc ?_ _) | (with_reducible refine Kd.C_drewN ?_ _) | (with_reducible refine Kd.C_drew ?_))); (case side3 => exact (Kd.R_reads' HO312.out).2.1); rintro e w43 ⟨rfl, hb⟩; refine ⟨_, rfl, ?_⟩; have n0_ := Aside0.mk (Kd.N_below (by (with_reducible repeat (first | apply Kd.N_alloc | apply Kd.N_drewN | apply Kd.N_drew)); exact HO_10.out) hb); have n1_ := Aside0.mk (Kd.N_below (by (with_reducible repeat (first | apply Kd.N_alloc | apply Kd.N_drewN | apply Kd.N_drew)); exact HO_43.out) hb); have n2_ := Aside0.mk (Kd.R_below (by (with_reducible repeat (first | apply Kd.R_alloc | apply Kd.R_drewN | apply Kd.R_drew)); exact HO312.out) hb); have n3_ := Aside0.mk (below_step (by repeat (first | (with_reducible first | exact HB.out | apply below_alloc | apply pw_below_drewN | apply below_drew1) | exact HB.out)) hb); clear HO_10; clear HO_43; clear HO312; clear HB; have HO_10 := n0_; have HO_43 := n1_; have HO312 := n2_; have HB := n3_; clear n0_ n1_ n2_ n3_; (try clear hb); (try clear hb2); (try clear hk); (try clear hi)))
        go_ret2
        exact ⟨_, by first | rfl | (simp [errW_none, errW_some] <;> rfl) | (simp [*, errW_none, errW_some] <;> rfl), by first | exact Kd.R_nil _ _ _ _ _ | exact Kd.N_nil _ _ _ _ _ | exact Kd.V_nil _ _ _ _ _ | exact Kd.Q_nil _ _ _ _ _ | exact Kd.S_nil _ _ _ _ _, by repeat (first | (with_reducible first | exact HB.out | apply below_alloc | apply pw_below_drewN | apply below_drew1) | exact HB.out)⟩

end
end Go.Proofs.YtkfbdopfeacnfaaDoor.PFnExactWithField
