-- Printed for this claim by a changed copy of the kit's printing program (wip/tools/patch_print.py); Lean checks it.
import Derived.Test.YtkkphbjemnifiaaPFnIndexx0
import Derived.Test.YtkkphbjemnifiaaPFnIndexx7
import Derived.Test.YtkkphbjemnifiaaPFnIndexx9
namespace Go.Proofs.Ytkkphbjemnifiaa.PFnIndex
open Go.RowKit Go.Proofs.YtkkphbjemnifiaaW.PrintWords Go.Proofs.YtkkphbjemnifiaaW.PrintLast Go.Proofs.YtkkphbjemnifiaaW.PrintMore
attribute [local go_sem] max2_int min2_int max_two min_two max_three min_three max_four min_four   -- for this text's walks alone
set_option linter.unusedVariables false
set_option linter.unusedSimpArgs false

noncomputable section
/-! ### impl_FindKey: function 25 -/
mutual
def impl_FindKey.j0 : Nat → List (S74) → ByteArray → Bool → Option (List Int × Int × Bool)
 | 0, _, _, _ => none
 | k + 1, x0, x1, x17 => if x17 = true then (some (([] : List Int), 0, false)) else (if (x0.length : Int) = 0 then (some (([] : List Int), 0, true)) else (impl_FindKey.l0 k x0 x1 0 0))
def impl_FindKey.l0 : Nat → List (S74) → ByteArray → Int → Int → Option (List Int × Int × Bool)
 | 0, _, _, _, _ => none
 | k + 1, x0, x1, x7, x8 => if 0 ≤ x7 then (if x7 < (x0.length : Int) then (if ((rd_T74 x0 x7).f0).toList = ([] : List UInt8) then ((impl_bitOf.f x1 ((rd_T74 x0 x7).f2)).bind fun t279 => (if t279 = 1 then (impl_FindKey.l0 k x0 x1 ((rd_T74 x0 x7).f4) (wrap64 (x8 + 1))) else (impl_FindKey.l0 k x0 x1 ((rd_T74 x0 x7).f3) (wrap64 (x8 + 1))))) else (if ((rd_T74 x0 x7).f0).toList = x1.toList then ((slices_Clone_int_int.f ((rd_T74 x0 x7).f1)).bind fun t283 => (some (t283, x8, true))) else (some (([] : List Int), x8, true)))) else (none)) else (none)
end
def impl_FindKey.f (k : Nat) (l0 : List (S74)) (a1 : ByteArray) : Option (List Int × Int × Bool) := (impl_isIndex.f k l0).bind fun t275 => (if t275 = true then (impl_FindKey.j0 k l0 a1 ((a1.size : Int) != 4)) else (impl_FindKey.j0 k l0 a1 true))
theorem impl_FindKey.mono_l : ∀ k, (∀ y0 y1 y2, LeO (impl_FindKey.j0 k y0 y1 y2) (impl_FindKey.j0 (k + 1) y0 y1 y2)) ∧ (∀ y0 y1 y2 y3, LeO (impl_FindKey.l0 k y0 y1 y2 y3) (impl_FindKey.l0 (k + 1) y0 y1 y2 y3))
 | 0 => ⟨fun _ _ _ r h => by simp [impl_FindKey.j0] at h, fun _ _ _ _ r h => by simp [impl_FindKey.l0] at h⟩
 | k + 1 => by
  obtain ⟨ih0, ih1⟩ := impl_FindKey.mono_l k
  refine ⟨?_, ?_⟩
  ·intro y0 y1 y2
   unfold impl_FindKey.j0
   repeat' first
   | (with_reducible exact ih0 _ _ _)
   | (with_reducible exact ih1 _ _ _ _)
   | (with_reducible exact impl_isIndex.mono _ _)
   | (with_reducible exact LeO.refl _)
   | (with_reducible exact LeO.none _)
   | (with_reducible refine LeO.ite ?_ ?_)
   | (with_reducible refine LeO.bind ?_ (fun _ => ?_))
   | exact LeO.none _
   | refine LeO.ite ?_ ?_
   | refine LeO.bind ?_ (fun _ => ?_)
  ·intro y0 y1 y2 y3
   unfold impl_FindKey.l0
   repeat' first
   | (with_reducible exact ih0 _ _ _)
   | (with_reducible exact ih1 _ _ _ _)
   | (with_reducible exact impl_isIndex.mono _ _)
   | (with_reducible exact LeO.refl _)
   | (with_reducible exact LeO.none _)
   | (with_reducible refine LeO.ite ?_ ?_)
   | (with_reducible refine LeO.bind ?_ (fun _ => ?_))
   | exact LeO.none _
   | refine LeO.ite ?_ ?_
   | refine LeO.bind ?_ (fun _ => ?_)
theorem impl_FindKey.mono : ∀ a0 a1 k, LeO (impl_FindKey.f k a0 a1) (impl_FindKey.f (k + 1) a0 a1) := by
 intro a0 a1 k
 obtain ⟨ih0, ih1⟩ := impl_FindKey.mono_l k
 unfold impl_FindKey.f
 repeat' first
   | (with_reducible exact ih0 _ _ _)
   | (with_reducible exact ih1 _ _ _ _)
   | (with_reducible exact impl_isIndex.mono _ _)
   | (with_reducible exact LeO.refl _)
   | (with_reducible exact LeO.none _)
   | (with_reducible refine LeO.ite ?_ ?_)
   | (with_reducible refine LeO.bind ?_ (fun _ => ?_))
   | exact LeO.none _
   | refine LeO.ite ?_ ?_
   | refine LeO.bind ?_ (fun _ => ?_)
set_option maxHeartbeats 8000000 in
set_option maxRecDepth 100000 in
theorem impl_FindKey.calls (k : Nat) (A0 : Option Addr) (c0 : Nat) (l0 : List (S74)) (a1 : ByteArray) (r1 : List Int) (r2 : Int) (r3 : Bool) (w : World) (hr0 : Kd.C k74 w A0 l0.length l0) (hc0 : l0.length ≤ c0) (h : impl_FindKey.f k l0 a1 = some (r1, r2, r3)) :
  Calls Try.prog 25 #[.slice A0 l0.length c0, .string a1] w fun e w' => ∃ v0_ : Value, e = .returned (.tuple #[v0_, .int .i64 r2, .bool r3]) ∧ Kd.R (Kd.int .i64) 3 w' w.heap.size (fun _ => True) v0_ r1 ∧ Below w.heap.size w w' := by
 have HR0 := Aside0.mk hr0
 have HC0 := Aside0.mk hc0
 clear hr0 hc0
 have HB := Aside0.mk (Below.refl w.heap.size w)
 have H : ((impl_isIndex.f k l0).bind fun t275 => (if t275 = true then (impl_FindKey.j0 k l0 a1 ((a1.size : Int) != 4)) else (impl_FindKey.j0 k l0 a1 true))) = some (r1, r2, r3) := h
 clear h
 have HC3 := Aside0.mk H
 clear H
 go_enter Try.func25, Try.ntmps25
 go_upto_region 1 with (fail)
 go_cut [17] (fun v17 wc => ∃ (kq : Nat) (x17_2 : Bool), v17 = .bool x17_2 ∧ Aside0 (impl_FindKey.j0 kq l0 a1 x17_2 = some (r1, r2, r3)) ∧ Aside0 (kq ≤ k) ∧ Aside0 (Below w.heap.size w wc))
 case first =>
  have H := HC3.out
  clear HC3
  replace H := Option.bind_eq_some_iff.mp H
  obtain ⟨t275, A40, H⟩ := H
  replace H : (if t275 = true then (impl_FindKey.j0 k l0 a1 ((a1.size : Int) != 4)) else (impl_FindKey.j0 k l0 a1 true)) = some (r1, r2, r3) := H
  have A4 := Aside0.mk A40
  clear A40
  by_cases c5 : t275 = true
  ·subst c5
   have H1 : (impl_FindKey.j0 k l0 a1 ((a1.size : Int) != 4)) = some (r1, r2, r3) := by rw [if_pos rfl] at H; exact H
   clear H
   have H := H1
   clear H1
   have H' := Aside0.mk H
   clear H
   go_wp2_with (first | ((with_reducible refine gate_callee (f := 55) rfl ?_); refine goesL_ (some 11) rfl rfl Try.func55 (by kernel_rfl) rfl #[.slice A0 l0.length c0] rfl (by simp only [List.map_toArray, List.map_cons, List.map_nil] <;> rfl) ?_; (with_reducible refine (impl_isIndex.calls k _ _ l0 true _ ?side1 ?side2 A4.out).mono ?_); (case side1 => exact (Kd.C_below HR0.out HB.out)); (case side2 => exact HC0.out); rintro e w6 ⟨rfl, hb⟩; refine ⟨_, rfl, ?_⟩; have n0_ := Aside0.mk (below_step HB.out hb); clear HB; have HB := n0_; clear n0_; (try clear hb); (try clear hk); (try clear hi)))
   go_meet
   case rel => exact ⟨_, (((a1.size : Int) != 4)), rfl, H', ⟨by first | omega | exact Nat.le_refl _⟩, ⟨by exact HB.out⟩⟩
  ·replace c5 := Bool.eq_false_iff.mpr c5
   subst c5
   have H1 : (impl_FindKey.j0 k l0 a1 true) = some (r1, r2, r3) := by rw [if_neg (show ¬ (false = true) by decide)] at H; exact H
   clear H
   have H := H1
   clear H1
   have H' := Aside0.mk H
   clear H
   go_wp2_with (first | ((with_reducible refine gate_callee (f := 55) rfl ?_); refine goesL_ (some 11) rfl rfl Try.func55 (by kernel_rfl) rfl #[.slice A0 l0.length c0] rfl (by simp only [List.map_toArray, List.map_cons, List.map_nil] <;> rfl) ?_; (with_reducible refine (impl_isIndex.calls k _ _ l0 false _ ?side1 ?side2 A4.out).mono ?_); (case side1 => exact (Kd.C_below HR0.out HB.out)); (case side2 => exact HC0.out); rintro e w7 ⟨rfl, hb⟩; refine ⟨_, rfl, ?_⟩; have n0_ := Aside0.mk (below_step HB.out hb); clear HB; have HB := n0_; clear n0_; (try clear hb); (try clear hk); (try clear hi)))
   go_meet
   case rel => exact ⟨_, (true), rfl, H', ⟨by first | omega | exact Nat.le_refl _⟩, ⟨by exact HB.out⟩⟩
 case rest =>
  clear HC3
  try clear c2
  try clear p2
  try clear c5
  obtain ⟨kq, x17_2, rfl, HA, HJ2, HB⟩ := hcut
  cases kq with
  | zero => exact absurd HA.out (by simp [impl_FindKey.j0])
  | succ kj2 =>
   have H := HA.out
   clear HA
   simp only [impl_FindKey.j0] at H
   by_cases c8 : x17_2 = true
   ·subst c8
    have H1 : (some (([] : List Int), 0, false)) = some (r1, r2, r3) := by rw [if_pos rfl] at H; exact H
    clear H
    have H := H1
    clear H1
    simp only [Option.some.injEq, Prod.mk.injEq] at H
    obtain ⟨rfl, rfl, rfl⟩ := H
    go_wp2
    go_ret3
    exact ⟨_, by first | rfl | (simp [errW_none, errW_some] <;> rfl) | (simp [*, errW_none, errW_some] <;> rfl), by first | exact Kd.R_nil _ _ _ _ _ | exact Kd.N_nil _ _ _ _ _ | exact Kd.V_nil _ _ _ _ _ | exact Kd.Q_nil _ _ _ _ _ | exact Kd.S_nil _ _ _ _ _, by exact HB.out⟩
   ·replace c8 := Bool.eq_false_iff.mpr c8
    subst c8
    have H1 : (if (l0.length : Int) = 0 then (some (([] : List Int), 0, true)) else (impl_FindKey.l0 kj2 l0 a1 0 0)) = some (r1, r2, r3) := by rw [if_neg (show ¬ (false = true) by decide)] at H; exact H
    clear H
    have H := H1
    clear H1
    by_cases c9 : (l0.length : Int) = 0
    ·rw [if_pos c9] at H
     have c9b0 : ((l0.length : Int) == 0) = true := beq_iff_eq.mpr c9
     have c9b1 : ((l0.length : Int) != 0) = false := bne_eq_false_iff_eq.mpr c9
     clear c9
     simp only [Option.some.injEq, Prod.mk.injEq] at H
     obtain ⟨rfl, rfl, rfl⟩ := H
     go_wp2
     go_ret3
     exact ⟨_, by first | rfl | (simp [errW_none, errW_some] <;> rfl) | (simp [*, errW_none, errW_some] <;> rfl), by first | exact Kd.R_nil _ _ _ _ _ | exact Kd.N_nil _ _ _ _ _ | exact Kd.V_nil _ _ _ _ _ | exact Kd.Q_nil _ _ _ _ _ | exact Kd.S_nil _ _ _ _ _, by exact HB.out⟩
    ·rw [if_neg c9] at H
     have c9b0 : ((l0.length : Int) == 0) = false := beq_eq_false_iff_ne.mpr c9
     have c9b1 : ((l0.length : Int) != 0) = true := bne_iff_ne.mpr c9
     have c9b2 : ¬ (l0 = []) := fun h_ => c9 (by rw [h_]; rfl)
     have H' := Aside0.mk H
     clear H
     go_wp2
     go_loopg [7, 8] kj2 (fun kq v7 v8 w' => ∃ (x7_2 : Int) (x8_2 : Int), v7 = .int .i64 x7_2 ∧ v8 = .int .i64 x8_2 ∧ Aside0 (impl_FindKey.l0 kq l0 a1 x7_2 x8_2 = some (r1, r2, r3)) ∧ Aside0 (kq ≤ kj2) ∧ Aside0 (Below w.heap.size w w'))
     case atStart => exact ⟨(0), (0), rfl, rfl, H', ⟨Nat.le_refl _⟩, ⟨by exact HB.out⟩⟩
     case round =>
      clear H'
      try clear c2
      try clear p2
      try clear c5
      try clear c8
      try clear c9
      try clear c9b0
      try clear c9b1
      try clear c9b2
      try clear p2
      obtain ⟨x7_2, x8_2, rfl, rfl, HA, HK2, HB⟩ := hrel
      cases gk with
      | zero => exact absurd HA.out (by simp [impl_FindKey.l0])
      | succ k2 =>
       have H := HA.out
       clear HA
       simp only [impl_FindKey.l0] at H
       by_cases c10 : 0 ≤ x7_2
       ·rw [if_pos c10] at H
        have c10b0 : decide (0 ≤ x7_2) = true := decide_eq_true c10
        clear c10
        by_cases c11 : x7_2 < (l0.length : Int)
        ·rw [if_pos c11] at H
         have c11b0 : decide (x7_2 < (l0.length : Int)) = true := decide_eq_true c11
         clear c11
         by_cases c12 : ((rd_T74 l0 x7_2).f0).toList = ([] : List UInt8)
         ·rw [if_pos c12] at H
          have c12b0 : (((rd_T74 l0 x7_2).f0).toList == ([] : List UInt8)) = true := beq_iff_eq.mpr c12
          have c12b1 : (((rd_T74 l0 x7_2).f0).toList != ([] : List UInt8)) = false := bne_eq_false_iff_eq.mpr c12
          clear c12
          replace H := Option.bind_eq_some_iff.mp H
          obtain ⟨t279, A130, H⟩ := H
          replace H : (if t279 = 1 then (impl_FindKey.l0 k2 l0 a1 ((rd_T74 l0 x7_2).f4) (wrap64 (x8_2 + 1))) else (impl_FindKey.l0 k2 l0 a1 ((rd_T74 l0 x7_2).f3) (wrap64 (x8_2 + 1)))) = some (r1, r2, r3) := H
          have A13 := Aside0.mk A130
          clear A130
          by_cases c14 : t279 = 1
          ·rw [if_pos c14] at H
           have c14b0 : (t279 == 1) = true := beq_iff_eq.mpr c14
           have c14b1 : (t279 != 1) = false := bne_eq_false_iff_eq.mpr c14
           clear c14
           have H' := Aside0.mk H
           clear H
           have p276 : 0 ≤ (x7_2 : Int) := of_decide_eq_true (by assumption)
           have q276 : x7_2 < (l0.length : Int) := of_decide_eq_true (by assumption)
           obtain ⟨ad276, A276_1, c276_1, e276, hx276_0, hx276_1, hx276_2, hx276_3, hx276_4, hl276_1, hi276_1⟩ := at_T74 HR0.out x7_2 p276 q276
           cases e276
           replace hx276_0 := (HB.out.cell (World.block_lt_of_cell? w _ hx276_0)).trans hx276_0
           replace hx276_1 := (HB.out.cell (World.block_lt_of_cell? w _ hx276_1)).trans hx276_1
           replace hx276_2 := (HB.out.cell (World.block_lt_of_cell? w _ hx276_2)).trans hx276_2
           replace hx276_3 := (HB.out.cell (World.block_lt_of_cell? w _ hx276_3)).trans hx276_3
           replace hx276_4 := (HB.out.cell (World.block_lt_of_cell? w _ hx276_4)).trans hx276_4
           have HR276_1 := Aside0.mk hi276_1
           have HC276_1 := Aside0.mk hl276_1
           clear hi276_1 hl276_1
           replace p276 := eq_true p276
           replace q276 := eq_true q276
           have p277 : 0 ≤ (x7_2 : Int) := of_decide_eq_true (by assumption)
           have q277 : x7_2 < (l0.length : Int) := of_decide_eq_true (by assumption)
           obtain ⟨ad277, A277_1, c277_1, e277, hx277_0, hx277_1, hx277_2, hx277_3, hx277_4, hl277_1, hi277_1⟩ := at_T74 HR0.out x7_2 p277 q277
           obtain rfl : ad276 = ad277 := (by injection e277)
           replace hx277_0 := (HB.out.cell (World.block_lt_of_cell? w _ hx277_0)).trans hx277_0
           replace hx277_1 := (HB.out.cell (World.block_lt_of_cell? w _ hx277_1)).trans hx277_1
           replace hx277_2 := (HB.out.cell (World.block_lt_of_cell? w _ hx277_2)).trans hx277_2
           replace hx277_3 := (HB.out.cell (World.block_lt_of_cell? w _ hx277_3)).trans hx277_3
           replace hx277_4 := (HB.out.cell (World.block_lt_of_cell? w _ hx277_4)).trans hx277_4
           have HR277_1 := Aside0.mk hi277_1
           have HC277_1 := Aside0.mk hl277_1
           clear hi277_1 hl277_1
           replace p277 := eq_true p277
           replace q277 := eq_true q277
           have ea_ := Option.some.inj (hx276_1.symm.trans hx277_1)
           injection ea_ with ea_ en_ ec_
           subst ea_
           subst ec_
           clear en_
           have p278 : 0 ≤ (x7_2 : Int) := of_decide_eq_true (by assumption)
           have q278 : x7_2 < (l0.length : Int) := of_decide_eq_true (by assumption)
           obtain ⟨ad278, A278_1, c278_1, e278, hx278_0, hx278_1, hx278_2, hx278_3, hx278_4, hl278_1, hi278_1⟩ := at_T74 HR0.out x7_2 p278 q278
           obtain rfl : ad276 = ad278 := (by injection e278)
           replace hx278_0 := (HB.out.cell (World.block_lt_of_cell? w _ hx278_0)).trans hx278_0
           replace hx278_1 := (HB.out.cell (World.block_lt_of_cell? w _ hx278_1)).trans hx278_1
           replace hx278_2 := (HB.out.cell (World.block_lt_of_cell? w _ hx278_2)).trans hx278_2
           replace hx278_3 := (HB.out.cell (World.block_lt_of_cell? w _ hx278_3)).trans hx278_3
           replace hx278_4 := (HB.out.cell (World.block_lt_of_cell? w _ hx278_4)).trans hx278_4
           have HR278_1 := Aside0.mk hi278_1
           have HC278_1 := Aside0.mk hl278_1
           clear hi278_1 hl278_1
           replace p278 := eq_true p278
           replace q278 := eq_true q278
           have ea_ := Option.some.inj (hx276_1.symm.trans hx278_1)
           injection ea_ with ea_ en_ ec_
           subst ea_
           subst ec_
           clear en_
           go_wp2_with (first | ((with_reducible refine gate_callee (f := 62) rfl ?_); refine goesL_ (some 38) rfl rfl Try.func62 (by kernel_rfl) rfl #[.string a1, .int .i64 ((rd_T74 l0 x7_2).f2)] rfl (by simp only [List.map_toArray, List.map_cons, List.map_nil] <;> rfl) ?_; (with_reducible refine (impl_bitOf.calls a1 ((rd_T74 l0 x7_2).f2) t279 _ A13.out).mono ?_); rintro e w' ⟨rfl, ⟨nd, rfl⟩⟩; refine ⟨_, rfl, ?_⟩; have p280 : 0 ≤ (x7_2 : Int) := of_decide_eq_true (by assumption); have q280 : x7_2 < (l0.length : Int) := of_decide_eq_true (by assumption); obtain ⟨ad280, A280_1, c280_1, e280, hx280_0, hx280_1, hx280_2, hx280_3, hx280_4, hl280_1, hi280_1⟩ := at_T74 HR0.out x7_2 p280 q280; obtain rfl : ad276 = ad280 := (by injection e280); replace hx280_0 := (HB.out.cell (World.block_lt_of_cell? w _ hx280_0)).trans hx280_0; replace hx280_1 := (HB.out.cell (World.block_lt_of_cell? w _ hx280_1)).trans hx280_1; replace hx280_2 := (HB.out.cell (World.block_lt_of_cell? w _ hx280_2)).trans hx280_2; replace hx280_3 := (HB.out.cell (World.block_lt_of_cell? w _ hx280_3)).trans hx280_3; replace hx280_4 := (HB.out.cell (World.block_lt_of_cell? w _ hx280_4)).trans hx280_4; have HR280_1 := Aside0.mk hi280_1; have HC280_1 := Aside0.mk hl280_1; clear hi280_1 hl280_1; replace p280 := eq_true p280; replace q280 := eq_true q280; have ea_ := Option.some.inj (hx276_1.symm.trans hx280_1); injection ea_ with ea_ en_ ec_; subst ea_; subst ec_; clear en_))
           go_roundg k2
           case measure => have := HJ2.out; have := HK2.out; omega
           case rel => exact ⟨((rd_T74 l0 x7_2).f4), (wrap64 (x8_2 + 1)), rfl, rfl, H', ⟨by have := HJ2.out; have := HK2.out; omega⟩, ⟨by repeat (first | (with_reducible first | exact HB.out | apply q4_ | apply q5_ | apply q6_) | exact HB.out)⟩⟩
          ·rw [if_neg c14] at H
           have c14b0 : (t279 == 1) = false := beq_eq_false_iff_ne.mpr c14
           have c14b1 : (t279 != 1) = true := bne_iff_ne.mpr c14
           have H' := Aside0.mk H
           clear H
           have p276 : 0 ≤ (x7_2 : Int) := of_decide_eq_true (by assumption)
           have q276 : x7_2 < (l0.length : Int) := of_decide_eq_true (by assumption)
           obtain ⟨ad276, A276_1, c276_1, e276, hx276_0, hx276_1, hx276_2, hx276_3, hx276_4, hl276_1, hi276_1⟩ := at_T74 HR0.out x7_2 p276 q276
           cases e276
           replace hx276_0 := (HB.out.cell (World.block_lt_of_cell? w _ hx276_0)).trans hx276_0
           replace hx276_1 := (HB.out.cell (World.block_lt_of_cell? w _ hx276_1)).trans hx276_1
           replace hx276_2 := (HB.out.cell (World.block_lt_of_cell? w _ hx276_2)).trans hx276_2
           replace hx276_3 := (HB.out.cell (World.block_lt_of_cell? w _ hx276_3)).trans hx276_3
           replace hx276_4 := (HB.out.cell (World.block_lt_of_cell? w _ hx276_4)).trans hx276_4
           have HR276_1 := Aside0.mk hi276_1
           have HC276_1 := Aside0.mk hl276_1
           clear hi276_1 hl276_1
           replace p276 := eq_true p276
           replace q276 := eq_true q276
           have p277 : 0 ≤ (x7_2 : Int) := of_decide_eq_true (by assumption)
           have q277 : x7_2 < (l0.length : Int) := of_decide_eq_true (by assumption)
           obtain ⟨ad277, A277_1, c277_1, e277, hx277_0, hx277_1, hx277_2, hx277_3, hx277_4, hl277_1, hi277_1⟩ := at_T74 HR0.out x7_2 p277 q277
           obtain rfl : ad276 = ad277 := (by injection e277)
           replace hx277_0 := (HB.out.cell (World.block_lt_of_cell? w _ hx277_0)).trans hx277_0
           replace hx277_1 := (HB.out.cell (World.block_lt_of_cell? w _ hx277_1)).trans hx277_1
           replace hx277_2 := (HB.out.cell (World.block_lt_of_cell? w _ hx277_2)).trans hx277_2
           replace hx277_3 := (HB.out.cell (World.block_lt_of_cell? w _ hx277_3)).trans hx277_3
           replace hx277_4 := (HB.out.cell (World.block_lt_of_cell? w _ hx277_4)).trans hx277_4
           have HR277_1 := Aside0.mk hi277_1
           have HC277_1 := Aside0.mk hl277_1
           clear hi277_1 hl277_1
           replace p277 := eq_true p277
           replace q277 := eq_true q277
           have ea_ := Option.some.inj (hx276_1.symm.trans hx277_1)
           injection ea_ with ea_ en_ ec_
           subst ea_
           subst ec_
           clear en_
           have p278 : 0 ≤ (x7_2 : Int) := of_decide_eq_true (by assumption)
           have q278 : x7_2 < (l0.length : Int) := of_decide_eq_true (by assumption)
           obtain ⟨ad278, A278_1, c278_1, e278, hx278_0, hx278_1, hx278_2, hx278_3, hx278_4, hl278_1, hi278_1⟩ := at_T74 HR0.out x7_2 p278 q278
           obtain rfl : ad276 = ad278 := (by injection e278)
           replace hx278_0 := (HB.out.cell (World.block_lt_of_cell? w _ hx278_0)).trans hx278_0
           replace hx278_1 := (HB.out.cell (World.block_lt_of_cell? w _ hx278_1)).trans hx278_1
           replace hx278_2 := (HB.out.cell (World.block_lt_of_cell? w _ hx278_2)).trans hx278_2
           replace hx278_3 := (HB.out.cell (World.block_lt_of_cell? w _ hx278_3)).trans hx278_3
           replace hx278_4 := (HB.out.cell (World.block_lt_of_cell? w _ hx278_4)).trans hx278_4
           have HR278_1 := Aside0.mk hi278_1
           have HC278_1 := Aside0.mk hl278_1
           clear hi278_1 hl278_1
           replace p278 := eq_true p278
           replace q278 := eq_true q278
           have ea_ := Option.some.inj (hx276_1.symm.trans hx278_1)
           injection ea_ with ea_ en_ ec_
           subst ea_
           subst ec_
           clear en_
           go_wp2_with (first | ((with_reducible refine gate_callee (f := 62) rfl ?_); refine goesL_ (some 38) rfl rfl Try.func62 (by kernel_rfl) rfl #[.string a1, .int .i64 ((rd_T74 l0 x7_2).f2)] rfl (by simp only [List.map_toArray, List.map_cons, List.map_nil] <;> rfl) ?_; (with_reducible refine (impl_bitOf.calls a1 ((rd_T74 l0 x7_2).f2) t279 _ A13.out).mono ?_); rintro e w' ⟨rfl, ⟨nd, rfl⟩⟩; refine ⟨_, rfl, ?_⟩))
           go_roundg k2
           case measure => have := HJ2.out; have := HK2.out; omega
           case rel => exact ⟨((rd_T74 l0 x7_2).f3), (wrap64 (x8_2 + 1)), rfl, rfl, H', ⟨by have := HJ2.out; have := HK2.out; omega⟩, ⟨by repeat (first | (with_reducible first | exact HB.out | apply q4_ | apply q5_ | apply q6_) | exact HB.out)⟩⟩
         ·rw [if_neg c12] at H
          have c12b0 : (((rd_T74 l0 x7_2).f0).toList == ([] : List UInt8)) = false := beq_eq_false_iff_ne.mpr c12
          have c12b1 : (((rd_T74 l0 x7_2).f0).toList != ([] : List UInt8)) = true := bne_iff_ne.mpr c12
          by_cases c15 : ((rd_T74 l0 x7_2).f0).toList = a1.toList
          ·rw [if_pos c15] at H
           have c15b0 : (((rd_T74 l0 x7_2).f0).toList == a1.toList) = true := beq_iff_eq.mpr c15
           have c15b1 : (((rd_T74 l0 x7_2).f0).toList != a1.toList) = false := bne_eq_false_iff_eq.mpr c15
           clear c15
           replace H := Option.bind_eq_some_iff.mp H
           obtain ⟨t283, A160, H⟩ := H
           replace H : (some (t283, x8_2, true)) = some (r1, r2, r3) := H
           have A16 := Aside0.mk A160
           clear A160
           simp only [Option.some.injEq, Prod.mk.injEq] at H
           obtain ⟨rfl, rfl, rfl⟩ := H
           have p276 : 0 ≤ (x7_2 : Int) := of_decide_eq_true (by assumption)
           have q276 : x7_2 < (l0.length : Int) := of_decide_eq_true (by assumption)
           obtain ⟨ad276, A276_1, c276_1, e276, hx276_0, hx276_1, hx276_2, hx276_3, hx276_4, hl276_1, hi276_1⟩ := at_T74 HR0.out x7_2 p276 q276
           cases e276
           replace hx276_0 := (HB.out.cell (World.block_lt_of_cell? w _ hx276_0)).trans hx276_0
           replace hx276_1 := (HB.out.cell (World.block_lt_of_cell? w _ hx276_1)).trans hx276_1
           replace hx276_2 := (HB.out.cell (World.block_lt_of_cell? w _ hx276_2)).trans hx276_2
           replace hx276_3 := (HB.out.cell (World.block_lt_of_cell? w _ hx276_3)).trans hx276_3
           replace hx276_4 := (HB.out.cell (World.block_lt_of_cell? w _ hx276_4)).trans hx276_4
           have HR276_1 := Aside0.mk hi276_1
           have HC276_1 := Aside0.mk hl276_1
           clear hi276_1 hl276_1
           replace p276 := eq_true p276
           replace q276 := eq_true q276
           have p281 : 0 ≤ (x7_2 : Int) := of_decide_eq_true (by assumption)
           have q281 : x7_2 < (l0.length : Int) := of_decide_eq_true (by assumption)
           obtain ⟨ad281, A281_1, c281_1, e281, hx281_0, hx281_1, hx281_2, hx281_3, hx281_4, hl281_1, hi281_1⟩ := at_T74 HR0.out x7_2 p281 q281
           obtain rfl : ad276 = ad281 := (by injection e281)
           replace hx281_0 := (HB.out.cell (World.block_lt_of_cell? w _ hx281_0)).trans hx281_0
           replace hx281_1 := (HB.out.cell (World.block_lt_of_cell? w _ hx281_1)).trans hx281_1
           replace hx281_2 := (HB.out.cell (World.block_lt_of_cell? w _ hx281_2)).trans hx281_2
           replace hx281_3 := (HB.out.cell (World.block_lt_of_cell? w _ hx281_3)).trans hx281_3
           replace hx281_4 := (HB.out.cell (World.block_lt_of_cell? w _ hx281_4)).trans hx281_4
           have HR281_1 := Aside0.mk hi281_1
           have HC281_1 := Aside0.mk hl281_1
           clear hi281_1 hl281_1
           replace p281 := eq_true p281
           replace q281 := eq_true q281
           have ea_ := Option.some.inj (hx276_1.symm.trans hx281_1)
           injection ea_ with ea_ en_ ec_
           subst ea_
           subst ec_
           clear en_
           have p282 : 0 ≤ (x7_2 : Int) := of_decide_eq_true (by assumption)
           have q282 : x7_2 < (l0.length : Int) := of_decide_eq_true (by assumption)
           obtain ⟨ad282, A282_1, c282_1, e282, hx282_0, hx282_1, hx282_2, hx282_3, hx282_4, hl282_1, hi282_1⟩ := at_T74 HR0.out x7_2 p282 q282
           obtain rfl : ad276 = ad282 := (by injection e282)
           replace hx282_0 := (HB.out.cell (World.block_lt_of_cell? w _ hx282_0)).trans hx282_0
           replace hx282_1 := (HB.out.cell (World.block_lt_of_cell? w _ hx282_1)).trans hx282_1
           replace hx282_2 := (HB.out.cell (World.block_lt_of_cell? w _ hx282_2)).trans hx282_2
           replace hx282_3 := (HB.out.cell (World.block_lt_of_cell? w _ hx282_3)).trans hx282_3
           replace hx282_4 := (HB.out.cell (World.block_lt_of_cell? w _ hx282_4)).trans hx282_4
           have HR282_1 := Aside0.mk hi282_1
           have HC282_1 := Aside0.mk hl282_1
           clear hi282_1 hl282_1
           replace p282 := eq_true p282
           replace q282 := eq_true q282
           have ea_ := Option.some.inj (hx276_1.symm.trans hx282_1)
           injection ea_ with ea_ en_ ec_
           subst ea_
           subst ec_
           clear en_
           go_wp2_with (first | ((with_reducible refine gate_callee (f := 63) rfl ?_); refine goesL_ (some 61) rfl rfl Try.func63 (by kernel_rfl) rfl #[.slice A276_1 ((rd_T74 l0 x7_2).f1).length c276_1] rfl (by simp only [List.map_toArray, List.map_cons, List.map_nil] <;> rfl) ?_; (with_reducible refine (slices_Clone_int_int.calls _ _ ((rd_T74 l0 x7_2).f1) t283 _ ?side1 ?side2 A16.out).mono ?_); (case side1 => exact (Kd.C_below HR282_1.out HB.out)); (case side2 => exact HC282_1.out); rintro e w17 ⟨v284, rfl, ho0, hb⟩; refine ⟨_, rfl, ?_⟩; have n0_ := Aside0.mk (Kd.R_lower ho0 (below_size HB.out)); have n1_ := Aside0.mk (below_step HB.out hb); clear HB; have HO285 := n0_; have HB := n1_; clear n0_ n1_; (try clear hb); (try clear hk); (try clear hi); (try clear ho0)))
           go_ret3
           exact ⟨_, by first | rfl | (simp [errW_none, errW_some] <;> rfl) | (simp [*, errW_none, errW_some] <;> rfl), by (with_reducible repeat (first | apply Kd.R_alloc | apply Kd.R_drewN | apply Kd.R_drew)); exact HO285.out, by exact HB.out⟩
          ·rw [if_neg c15] at H
           have c15b0 : (((rd_T74 l0 x7_2).f0).toList == a1.toList) = false := beq_eq_false_iff_ne.mpr c15
           have c15b1 : (((rd_T74 l0 x7_2).f0).toList != a1.toList) = true := bne_iff_ne.mpr c15
           simp only [Option.some.injEq, Prod.mk.injEq] at H
           obtain ⟨rfl, rfl, rfl⟩ := H
           have p276 : 0 ≤ (x7_2 : Int) := of_decide_eq_true (by assumption)
           have q276 : x7_2 < (l0.length : Int) := of_decide_eq_true (by assumption)
           obtain ⟨ad276, A276_1, c276_1, e276, hx276_0, hx276_1, hx276_2, hx276_3, hx276_4, hl276_1, hi276_1⟩ := at_T74 HR0.out x7_2 p276 q276
           cases e276
           replace hx276_0 := (HB.out.cell (World.block_lt_of_cell? w _ hx276_0)).trans hx276_0
           replace hx276_1 := (HB.out.cell (World.block_lt_of_cell? w _ hx276_1)).trans hx276_1
           replace hx276_2 := (HB.out.cell (World.block_lt_of_cell? w _ hx276_2)).trans hx276_2
           replace hx276_3 := (HB.out.cell (World.block_lt_of_cell? w _ hx276_3)).trans hx276_3
           replace hx276_4 := (HB.out.cell (World.block_lt_of_cell? w _ hx276_4)).trans hx276_4
           have HR276_1 := Aside0.mk hi276_1
           have HC276_1 := Aside0.mk hl276_1
           clear hi276_1 hl276_1
           replace p276 := eq_true p276
           replace q276 := eq_true q276
           have p281 : 0 ≤ (x7_2 : Int) := of_decide_eq_true (by assumption)
           have q281 : x7_2 < (l0.length : Int) := of_decide_eq_true (by assumption)
           obtain ⟨ad281, A281_1, c281_1, e281, hx281_0, hx281_1, hx281_2, hx281_3, hx281_4, hl281_1, hi281_1⟩ := at_T74 HR0.out x7_2 p281 q281
           obtain rfl : ad276 = ad281 := (by injection e281)
           replace hx281_0 := (HB.out.cell (World.block_lt_of_cell? w _ hx281_0)).trans hx281_0
           replace hx281_1 := (HB.out.cell (World.block_lt_of_cell? w _ hx281_1)).trans hx281_1
           replace hx281_2 := (HB.out.cell (World.block_lt_of_cell? w _ hx281_2)).trans hx281_2
           replace hx281_3 := (HB.out.cell (World.block_lt_of_cell? w _ hx281_3)).trans hx281_3
           replace hx281_4 := (HB.out.cell (World.block_lt_of_cell? w _ hx281_4)).trans hx281_4
           have HR281_1 := Aside0.mk hi281_1
           have HC281_1 := Aside0.mk hl281_1
           clear hi281_1 hl281_1
           replace p281 := eq_true p281
           replace q281 := eq_true q281
           have ea_ := Option.some.inj (hx276_1.symm.trans hx281_1)
           injection ea_ with ea_ en_ ec_
           subst ea_
           subst ec_
           clear en_
           go_wp2
           go_ret3
           exact ⟨_, by first | rfl | (simp [errW_none, errW_some] <;> rfl) | (simp [*, errW_none, errW_some] <;> rfl), by first | exact Kd.R_nil _ _ _ _ _ | exact Kd.N_nil _ _ _ _ _ | exact Kd.V_nil _ _ _ _ _ | exact Kd.Q_nil _ _ _ _ _ | exact Kd.S_nil _ _ _ _ _, by exact HB.out⟩
        ·rw [if_neg c11] at H
         exact absurd H (by simp)
       ·rw [if_neg c10] at H
        exact absurd H (by simp)
end
end Go.Proofs.Ytkkphbjemnifiaa.PFnIndex
