-- Printed for this claim by a changed copy of the kit's printing program (wip/tools/patch_print.py); Lean checks it.
import Derived.Test.YtkkphbjemnifiaaPFnFoundx0
import Derived.Test.YtkkphbjemnifiaaPFnFoundx8
namespace Go.Proofs.Ytkkphbjemnifiaa.PFnFound
open Go.RowKit Go.Proofs.YtkkphbjemnifiaaW.PrintWords Go.Proofs.YtkkphbjemnifiaaW.PrintLast Go.Proofs.YtkkphbjemnifiaaW.PrintMore
attribute [local go_sem] max2_int min2_int max_two min_two max_three min_three max_four min_four   -- for this text's walks alone
set_option linter.unusedVariables false
set_option linter.unusedSimpArgs false

noncomputable section
/-! ### spec_FindBeginning: function 36 -/
mutual
def spec_FindBeginning.j0 : Nat → List (S74) → ByteArray → Bool → Option (List Int × Bool)
 | 0, _, _, _ => none
 | k + 1, x0, x1, x18 => if x18 = true then (some (([] : List Int), false)) else (spec_FindBeginning.l0 k x1 ([] : List Int) x0 (x0.length : Int) 0)
def spec_FindBeginning.l0 : Nat → ByteArray → List Int → List (S74) → Int → Int → Option (List Int × Bool)
 | 0, _, _, _, _, _ => none
 | k + 1, x1, x6, x19, x20, x21 => if x21 < x20 then (if 0 ≤ x21 then (if x21 < (x19.length : Int) then (if ((rd_T74 x19 x21).f0).toList = ([] : List UInt8) then (spec_FindBeginning.j2 k x1 x6 x19 x20 x21 false ((rd_T74 x19 x21).f0) ((rd_T74 x19 x21).f1) ((rd_T74 x19 x21).f2) ((rd_T74 x19 x21).f3) ((rd_T74 x19 x21).f4)) else (if 0 ≤ (x1.size : Int) then (if (x1.size : Int) ≤ (((rd_T74 x19 x21).f0).size : Int) then (spec_FindBeginning.j2 k x1 x6 x19 x20 x21 ((((rd_T74 x19 x21).f0).extract 0 ((x1.size : Int) : Int).toNat).toList == x1.toList) ((rd_T74 x19 x21).f0) ((rd_T74 x19 x21).f1) ((rd_T74 x19 x21).f2) ((rd_T74 x19 x21).f3) ((rd_T74 x19 x21).f4)) else (none)) else (none))) else (none)) else (none)) else (some (x6, true))
def spec_FindBeginning.j2 : Nat → ByteArray → List Int → List (S74) → Int → Int → Bool → ByteArray → List Int → Int → Int → Int → Option (List Int × Bool)
 | 0, _, _, _, _, _, _, _, _, _, _, _ => none
 | k + 1, x1, x6, x19, x20, x21, x36, x306000, x306001, x306002, x306003, x306004 => if x36 = true then (spec_FindBeginning.l1 k x1 x6 x19 x20 x21 x306001 (x306001.length : Int) 0) else (spec_FindBeginning.l0 k x1 x6 x19 x20 (wrap64 (x21 + 1)))
def spec_FindBeginning.l1 : Nat → ByteArray → List Int → List (S74) → Int → Int → List Int → Int → Int → Option (List Int × Bool)
 | 0, _, _, _, _, _, _, _, _ => none
 | k + 1, x1, x6, x19, x20, x21, x38, x39, x40 => if x40 < x39 then (if 0 ≤ x40 then (if x40 < (x38.length : Int) then ((spec_l10PutInt.f k x6 (rd x38 x40)).bind fun t307 => (spec_FindBeginning.l1 k x1 t307 x19 x20 x21 x38 x39 (wrap64 (x40 + 1)))) else (none)) else (none)) else (spec_FindBeginning.l0 k x1 x6 x19 x20 (wrap64 (x21 + 1)))
end
def spec_FindBeginning.f (k : Nat) (l0 : List (S74)) (a1 : ByteArray) : Option (List Int × Bool) := (spec_GoodIndex.f k l0).bind fun t303 => (if t303 = true then (spec_FindBeginning.j0 k l0 a1 (decide ((a1.size : Int) > 4))) else (spec_FindBeginning.j0 k l0 a1 true))
theorem spec_FindBeginning.mono_l : ∀ k, (∀ y0 y1 y2, LeO (spec_FindBeginning.j0 k y0 y1 y2) (spec_FindBeginning.j0 (k + 1) y0 y1 y2)) ∧ (∀ y0 y1 y2 y3 y4, LeO (spec_FindBeginning.l0 k y0 y1 y2 y3 y4) (spec_FindBeginning.l0 (k + 1) y0 y1 y2 y3 y4)) ∧ (∀ y0 y1 y2 y3 y4 y5 y6 y7 y8 y9 y10, LeO (spec_FindBeginning.j2 k y0 y1 y2 y3 y4 y5 y6 y7 y8 y9 y10) (spec_FindBeginning.j2 (k + 1) y0 y1 y2 y3 y4 y5 y6 y7 y8 y9 y10)) ∧ (∀ y0 y1 y2 y3 y4 y5 y6 y7, LeO (spec_FindBeginning.l1 k y0 y1 y2 y3 y4 y5 y6 y7) (spec_FindBeginning.l1 (k + 1) y0 y1 y2 y3 y4 y5 y6 y7))
 | 0 => ⟨fun _ _ _ r h => by simp [spec_FindBeginning.j0] at h, fun _ _ _ _ _ r h => by simp [spec_FindBeginning.l0] at h, fun _ _ _ _ _ _ _ _ _ _ _ r h => by simp [spec_FindBeginning.j2] at h, fun _ _ _ _ _ _ _ _ r h => by simp [spec_FindBeginning.l1] at h⟩
 | k + 1 => by
  obtain ⟨ih0, ih1, ih2, ih3⟩ := spec_FindBeginning.mono_l k
  refine ⟨?_, ?_, ?_, ?_⟩
  ·intro y0 y1 y2
   unfold spec_FindBeginning.j0
   repeat' first
   | (with_reducible exact ih0 _ _ _)
   | (with_reducible exact ih1 _ _ _ _ _)
   | (with_reducible exact ih2 _ _ _ _ _ _ _ _ _ _ _)
   | (with_reducible exact ih3 _ _ _ _ _ _ _ _)
   | (with_reducible exact spec_GoodIndex.mono _ _)
   | (with_reducible exact spec_l10PutInt.mono _ _ _)
   | (with_reducible exact LeO.refl _)
   | (with_reducible exact LeO.none _)
   | (with_reducible refine LeO.ite ?_ ?_)
   | (with_reducible refine LeO.bind ?_ (fun _ => ?_))
   | exact LeO.none _
   | refine LeO.ite ?_ ?_
   | refine LeO.bind ?_ (fun _ => ?_)
  ·intro y0 y1 y2 y3 y4
   unfold spec_FindBeginning.l0
   repeat' first
   | (with_reducible exact ih0 _ _ _)
   | (with_reducible exact ih1 _ _ _ _ _)
   | (with_reducible exact ih2 _ _ _ _ _ _ _ _ _ _ _)
   | (with_reducible exact ih3 _ _ _ _ _ _ _ _)
   | (with_reducible exact spec_GoodIndex.mono _ _)
   | (with_reducible exact spec_l10PutInt.mono _ _ _)
   | (with_reducible exact LeO.refl _)
   | (with_reducible exact LeO.none _)
   | (with_reducible refine LeO.ite ?_ ?_)
   | (with_reducible refine LeO.bind ?_ (fun _ => ?_))
   | exact LeO.none _
   | refine LeO.ite ?_ ?_
   | refine LeO.bind ?_ (fun _ => ?_)
  ·intro y0 y1 y2 y3 y4 y5 y6 y7 y8 y9 y10
   unfold spec_FindBeginning.j2
   repeat' first
   | (with_reducible exact ih0 _ _ _)
   | (with_reducible exact ih1 _ _ _ _ _)
   | (with_reducible exact ih2 _ _ _ _ _ _ _ _ _ _ _)
   | (with_reducible exact ih3 _ _ _ _ _ _ _ _)
   | (with_reducible exact spec_GoodIndex.mono _ _)
   | (with_reducible exact spec_l10PutInt.mono _ _ _)
   | (with_reducible exact LeO.refl _)
   | (with_reducible exact LeO.none _)
   | (with_reducible refine LeO.ite ?_ ?_)
   | (with_reducible refine LeO.bind ?_ (fun _ => ?_))
   | exact LeO.none _
   | refine LeO.ite ?_ ?_
   | refine LeO.bind ?_ (fun _ => ?_)
  ·intro y0 y1 y2 y3 y4 y5 y6 y7
   unfold spec_FindBeginning.l1
   repeat' first
   | (with_reducible exact ih0 _ _ _)
   | (with_reducible exact ih1 _ _ _ _ _)
   | (with_reducible exact ih2 _ _ _ _ _ _ _ _ _ _ _)
   | (with_reducible exact ih3 _ _ _ _ _ _ _ _)
   | (with_reducible exact spec_GoodIndex.mono _ _)
   | (with_reducible exact spec_l10PutInt.mono _ _ _)
   | (with_reducible exact LeO.refl _)
   | (with_reducible exact LeO.none _)
   | (with_reducible refine LeO.ite ?_ ?_)
   | (with_reducible refine LeO.bind ?_ (fun _ => ?_))
   | exact LeO.none _
   | refine LeO.ite ?_ ?_
   | refine LeO.bind ?_ (fun _ => ?_)
theorem spec_FindBeginning.mono : ∀ a0 a1 k, LeO (spec_FindBeginning.f k a0 a1) (spec_FindBeginning.f (k + 1) a0 a1) := by
 intro a0 a1 k
 obtain ⟨ih0, ih1, ih2, ih3⟩ := spec_FindBeginning.mono_l k
 unfold spec_FindBeginning.f
 repeat' first
   | (with_reducible exact ih0 _ _ _)
   | (with_reducible exact ih1 _ _ _ _ _)
   | (with_reducible exact ih2 _ _ _ _ _ _ _ _ _ _ _)
   | (with_reducible exact ih3 _ _ _ _ _ _ _ _)
   | (with_reducible exact spec_GoodIndex.mono _ _)
   | (with_reducible exact spec_l10PutInt.mono _ _ _)
   | (with_reducible exact LeO.refl _)
   | (with_reducible exact LeO.none _)
   | (with_reducible refine LeO.ite ?_ ?_)
   | (with_reducible refine LeO.bind ?_ (fun _ => ?_))
   | exact LeO.none _
   | refine LeO.ite ?_ ?_
   | refine LeO.bind ?_ (fun _ => ?_)
set_option maxHeartbeats 8000000 in
set_option maxRecDepth 100000 in
theorem spec_FindBeginning.calls (k : Nat) (A0 : Option Addr) (c0 : Nat) (l0 : List (S74)) (a1 : ByteArray) (r1 : List Int) (r2 : Bool) (w : World) (hr0 : Kd.C k74 w A0 l0.length l0) (hc0 : l0.length ≤ c0) (h : spec_FindBeginning.f k l0 a1 = some (r1, r2)) :
  Calls Try.prog 36 #[.slice A0 l0.length c0, .string a1] w fun e w' => ∃ v0_ : Value, e = .returned (.tuple #[v0_, .bool r2]) ∧ Kd.R (Kd.int .i64) 3 w' w.heap.size (fun _ => True) v0_ r1 ∧ Below w.heap.size w w' := by
 have hu74 := Try.underlying74
 have HR0 := Aside0.mk hr0
 have HC0 := Aside0.mk hc0
 clear hr0 hc0
 have HB := Aside0.mk (Below.refl w.heap.size w)
 have H : ((spec_GoodIndex.f k l0).bind fun t303 => (if t303 = true then (spec_FindBeginning.j0 k l0 a1 (decide ((a1.size : Int) > 4))) else (spec_FindBeginning.j0 k l0 a1 true))) = some (r1, r2) := h
 clear h
 have HC3 := Aside0.mk H
 clear H
 go_enter Try.func36, Try.ntmps36
 go_upto_region 1 with (fail)
 go_cut [18] (fun v18 wc => ∃ (kq : Nat) (x18_2 : Bool), v18 = .bool x18_2 ∧ Aside0 (spec_FindBeginning.j0 kq l0 a1 x18_2 = some (r1, r2)) ∧ Aside0 (kq ≤ k) ∧ Aside0 (Below w.heap.size w wc))
 case first =>
  have H := HC3.out
  clear HC3
  replace H := Option.bind_eq_some_iff.mp H
  obtain ⟨t303, A40, H⟩ := H
  replace H : (if t303 = true then (spec_FindBeginning.j0 k l0 a1 (decide ((a1.size : Int) > 4))) else (spec_FindBeginning.j0 k l0 a1 true)) = some (r1, r2) := H
  have A4 := Aside0.mk A40
  clear A40
  by_cases c5 : t303 = true
  ·subst c5
   have H1 : (spec_FindBeginning.j0 k l0 a1 (decide ((a1.size : Int) > 4))) = some (r1, r2) := by rw [if_pos rfl] at H; exact H
   clear H
   have H := H1
   clear H1
   have H' := Aside0.mk H
   clear H
   go_wp2_with (first | ((with_reducible refine gate_callee (f := 12) rfl ?_); refine goesL_ (some 12) rfl rfl Try.func12 (by kernel_rfl) rfl #[.slice A0 l0.length c0] rfl (by simp only [List.map_toArray, List.map_cons, List.map_nil] <;> rfl) ?_; (with_reducible refine (spec_GoodIndex.calls k _ _ l0 true _ ?side1 ?side2 A4.out).mono ?_); (case side1 => exact (Kd.C_below HR0.out HB.out)); (case side2 => exact HC0.out); rintro e w6 ⟨rfl, hb⟩; refine ⟨_, rfl, ?_⟩; have n0_ := Aside0.mk (below_step HB.out hb); clear HB; have HB := n0_; clear n0_; (try clear hb); (try clear hk); (try clear hi)))
   go_meet
   case rel => exact ⟨_, (decide ((a1.size : Int) > 4)), rfl, H', ⟨by first | omega | exact Nat.le_refl _⟩, ⟨by exact HB.out⟩⟩
  ·replace c5 := Bool.eq_false_iff.mpr c5
   subst c5
   have H1 : (spec_FindBeginning.j0 k l0 a1 true) = some (r1, r2) := by rw [if_neg (show ¬ (false = true) by decide)] at H; exact H
   clear H
   have H := H1
   clear H1
   have H' := Aside0.mk H
   clear H
   go_wp2_with (first | ((with_reducible refine gate_callee (f := 12) rfl ?_); refine goesL_ (some 12) rfl rfl Try.func12 (by kernel_rfl) rfl #[.slice A0 l0.length c0] rfl (by simp only [List.map_toArray, List.map_cons, List.map_nil] <;> rfl) ?_; (with_reducible refine (spec_GoodIndex.calls k _ _ l0 false _ ?side1 ?side2 A4.out).mono ?_); (case side1 => exact (Kd.C_below HR0.out HB.out)); (case side2 => exact HC0.out); rintro e w7 ⟨rfl, hb⟩; refine ⟨_, rfl, ?_⟩; have n0_ := Aside0.mk (below_step HB.out hb); clear HB; have HB := n0_; clear n0_; (try clear hb); (try clear hk); (try clear hi)))
   go_meet
   case rel => exact ⟨_, (true), rfl, H', ⟨by first | omega | exact Nat.le_refl _⟩, ⟨by exact HB.out⟩⟩
 case rest =>
  clear HC3
  try clear c1
  try clear p2
  try clear c3
  try clear c5
  obtain ⟨kq, x18_2, rfl, HA, HJ2, HB⟩ := hcut
  cases kq with
  | zero => exact absurd HA.out (by simp [spec_FindBeginning.j0])
  | succ kj2 =>
   have H := HA.out
   clear HA
   simp only [spec_FindBeginning.j0] at H
   by_cases c8 : x18_2 = true
   ·subst c8
    have H1 : (some (([] : List Int), false)) = some (r1, r2) := by rw [if_pos rfl] at H; exact H
    clear H
    have H := H1
    clear H1
    simp only [Option.some.injEq, Prod.mk.injEq] at H
    obtain ⟨rfl, rfl⟩ := H
    go_wp2
    go_ret2
    exact ⟨_, by first | rfl | (simp [errW_none, errW_some] <;> rfl) | (simp [*, errW_none, errW_some] <;> rfl), by first | exact Kd.R_nil _ _ _ _ _ | exact Kd.N_nil _ _ _ _ _ | exact Kd.V_nil _ _ _ _ _ | exact Kd.Q_nil _ _ _ _ _ | exact Kd.S_nil _ _ _ _ _, by exact HB.out⟩
   ·replace c8 := Bool.eq_false_iff.mpr c8
    subst c8
    have H1 : (spec_FindBeginning.l0 kj2 a1 ([] : List Int) l0 (l0.length : Int) 0) = some (r1, r2) := by rw [if_neg (show ¬ (false = true) by decide)] at H; exact H
    clear H
    have H := H1
    clear H1
    have H' := Aside0.mk H
    clear H
    go_wp2
    go_loopg [6, 21] kj2 (fun kq v6 v21 w' => ∃ (x6_2 : List Int) (x21_2 : Int), v21 = .int .i64 x21_2 ∧ Aside0 (spec_FindBeginning.l0 kq a1 x6_2 l0 (l0.length : Int) x21_2 = some (r1, r2)) ∧ Aside0 (kq ≤ kj2) ∧ Aside0 (Kd.R (Kd.int .i64) 3 w' w.heap.size (fun _ => True) v6 x6_2) ∧ Aside0 (Below w.heap.size w w'))
    case atStart => exact ⟨(([] : List Int)), (0), rfl, H', ⟨Nat.le_refl _⟩, ⟨by first | exact Kd.R_nil _ _ _ _ _ | exact Kd.N_nil _ _ _ _ _ | exact Kd.V_nil _ _ _ _ _ | exact Kd.Q_nil _ _ _ _ _ | exact Kd.S_nil _ _ _ _ _⟩, ⟨by exact HB.out⟩⟩
    case round =>
     clear H'
     try clear c1
     try clear p2
     try clear c3
     try clear c5
     try clear c8
     try clear p2
     obtain ⟨x6_2, x21_2, rfl, HA, HK2, HO_6, HB⟩ := hrel
     cases gk with
     | zero => exact absurd HA.out (by simp [spec_FindBeginning.l0])
     | succ k2 =>
      have H := HA.out
      clear HA
      simp only [spec_FindBeginning.l0] at H
      by_cases c9 : x21_2 < (l0.length : Int)
      ·rw [if_pos c9] at H
       have c9b0 : decide (x21_2 < (l0.length : Int)) = true := decide_eq_true c9
       clear c9
       by_cases c10 : 0 ≤ x21_2
       ·rw [if_pos c10] at H
        have c10b0 : decide (0 ≤ x21_2) = true := decide_eq_true c10
        clear c10
        by_cases c11 : x21_2 < (l0.length : Int)
        ·rw [if_pos c11] at H
         have c11b0 : decide (x21_2 < (l0.length : Int)) = true := decide_eq_true c11
         clear c11
         have HC12 := Aside0.mk H
         clear H
         have p304 : 0 ≤ (x21_2 : Int) := of_decide_eq_true (by assumption)
         have q304 : x21_2 < (l0.length : Int) := of_decide_eq_true (by assumption)
         obtain ⟨ad304, A304_1, c304_1, e304, hx304_0, hx304_1, hx304_2, hx304_3, hx304_4, hl304_1, hi304_1⟩ := at_T74 HR0.out x21_2 p304 q304
         cases e304
         replace hx304_0 := (HB.out.cell (World.block_lt_of_cell? w _ hx304_0)).trans hx304_0
         replace hx304_1 := (HB.out.cell (World.block_lt_of_cell? w _ hx304_1)).trans hx304_1
         replace hx304_2 := (HB.out.cell (World.block_lt_of_cell? w _ hx304_2)).trans hx304_2
         replace hx304_3 := (HB.out.cell (World.block_lt_of_cell? w _ hx304_3)).trans hx304_3
         replace hx304_4 := (HB.out.cell (World.block_lt_of_cell? w _ hx304_4)).trans hx304_4
         have HR304_1 := Aside0.mk hi304_1
         have HC304_1 := Aside0.mk hl304_1
         clear hi304_1 hl304_1
         replace p304 := eq_true p304
         replace q304 := eq_true q304
         go_upto_region 7 with (first | ((with_reducible refine gate_dst (N := 8) rfl ?_); (try (refine gate_guard (by rfl) ?_; dsimp only)); refine box_event ?hg (N := 8) ?hd (cs := #[.string (⟨#[]⟩ : ByteArray), .slice none 0 0, .int .i64 0, .int .i64 0, .int .i64 0]) (t := 74) ?hr ?_; (case hd => rfl); (case hg => rfl); (case hr => go_simp); intro gb305 hg w13 hbox hb; have n0_ := Aside0.mk (Kd.R_below HO_6.out hb); have n1_ := Aside0.mk (below_step HB.out hb); have n2_ := Aside0.mk (hbox); have n3_ := Aside0.mk ((by rw [hg]; exact (below_size HB.out) : w.heap.size ≤ gb305)); have n4_ := Aside0.mk ((by rw [hg]; exact (below_size HB.out) : w.heap.size ≤ gb305)); clear HO_6; clear HB; have HO_6 := n0_; have HB := n1_; have BK305 := n2_; have GW305 := n3_; have GE305 := n4_; clear n0_ n1_ n2_ n3_ n4_; clear hb hbox hg; have hcz14_0 : w13.cell? ⟨gb305, 0, none⟩ = some (.string (⟨#[]⟩ : ByteArray)) := (blk_cell BK305.out 0).trans rfl; have hcz14_1 : w13.cell? ⟨gb305, 1, none⟩ = some (.slice none 0 0) := (blk_cell BK305.out 1).trans rfl; have hcz14_2 : w13.cell? ⟨gb305, 2, none⟩ = some (.int .i64 0) := (blk_cell BK305.out 2).trans rfl; have hcz14_3 : w13.cell? ⟨gb305, 3, none⟩ = some (.int .i64 0) := (blk_cell BK305.out 3).trans rfl; have hcz14_4 : w13.cell? ⟨gb305, 4, none⟩ = some (.int .i64 0) := (blk_cell BK305.out 4).trans rfl; have hfz14_0 := blk_frozen BK305.out 0; have hfz14_1 := blk_frozen BK305.out 1; have hfz14_2 := blk_frozen BK305.out 2; have hfz14_3 := blk_frozen BK305.out 3; have hfz14_4 := blk_frozen BK305.out 4))
         (try simp only [Act.put, List.setIfInBounds_toArray, List.set_cons_zero, List.set_cons_succ])
         go_cut [36] (fun v36 wc => ∃ (kq : Nat) (x36_11 : Bool), v36 = .bool x36_11 ∧ Aside0 (spec_FindBeginning.j2 kq a1 x6_2 l0 (l0.length : Int) x21_2 x36_11 ((rd_T74 l0 x21_2).f0) ((rd_T74 l0 x21_2).f1) ((rd_T74 l0 x21_2).f2) ((rd_T74 l0 x21_2).f3) ((rd_T74 l0 x21_2).f4) = some (r1, r2)) ∧ Aside0 (kq ≤ k2) ∧ Aside0 (Kd.R (Kd.int .i64) 3 wc w.heap.size (fun _ => True) u6 x6_2) ∧ Aside0 (wc.heap[gb305]? = some (.cells #[.string ((rd_T74 l0 x21_2).f0), (.slice A304_1 ((rd_T74 l0 x21_2).f1).length c304_1), .int .i64 ((rd_T74 l0 x21_2).f2), .int .i64 ((rd_T74 l0 x21_2).f3), .int .i64 ((rd_T74 l0 x21_2).f4)] 74 (0, 0))) ∧ Aside0 (Below w.heap.size w wc))
         case first =>
          have H := HC12.out
          clear HC12
          by_cases c15 : ((rd_T74 l0 x21_2).f0).toList = ([] : List UInt8)
          ·rw [if_pos c15] at H
           have c15b0 : (((rd_T74 l0 x21_2).f0).toList == ([] : List UInt8)) = true := beq_iff_eq.mpr c15
           have c15b1 : (((rd_T74 l0 x21_2).f0).toList != ([] : List UInt8)) = false := bne_eq_false_iff_eq.mpr c15
           clear c15
           (first | rw [c15b0] | (simp only [i64_w, i32_w]; rw [c15b0]) | skip)
           have H' := Aside0.mk H
           clear H
           have hcz16_0 : w13.cell? ⟨gb305, 0, none⟩ = some (.string (⟨#[]⟩ : ByteArray)) := (blk_cell BK305.out 0).trans rfl
           have hcz16_1 : w13.cell? ⟨gb305, 1, none⟩ = some (.slice none 0 0) := (blk_cell BK305.out 1).trans rfl
           have hcz16_2 : w13.cell? ⟨gb305, 2, none⟩ = some (.int .i64 0) := (blk_cell BK305.out 2).trans rfl
           have hcz16_3 : w13.cell? ⟨gb305, 3, none⟩ = some (.int .i64 0) := (blk_cell BK305.out 3).trans rfl
           have hcz16_4 : w13.cell? ⟨gb305, 4, none⟩ = some (.int .i64 0) := (blk_cell BK305.out 4).trans rfl
           have hfz16_0 := blk_frozen BK305.out 0
           have hfz16_1 := blk_frozen BK305.out 1
           have hfz16_2 := blk_frozen BK305.out 2
           have hfz16_3 := blk_frozen BK305.out 3
           have hfz16_4 := blk_frozen BK305.out 4
           go_wp2
           go_meet
           case rel => exact ⟨_, (false), rfl, H', ⟨by have := HJ2.out; have := HK2.out; first | omega | exact Nat.le_refl _⟩, ⟨by (with_reducible repeat (first | apply Kd.R_alloc | apply Kd.R_drewN | apply Kd.R_drew)); exact Kd.R_mono (Kd.R_far (p := ⟨gb305, 4, none⟩) (Kd.R_far (p := ⟨gb305, 3, none⟩) (Kd.R_far (p := ⟨gb305, 2, none⟩) (Kd.R_far (p := ⟨gb305, 1, none⟩) (Kd.R_far (p := ⟨gb305, 0, none⟩) (Kd.R_types HO_6.out BK305.out (by decide)) (fun _ hk => hk.2) (.string ((rd_T74 l0 x21_2).f0))) (fun _ hk => hk.2) (.slice A304_1 ((rd_T74 l0 x21_2).f1).length c304_1)) (fun _ hk => hk.2) (.int .i64 ((rd_T74 l0 x21_2).f2))) (fun _ hk => hk.2) (.int .i64 ((rd_T74 l0 x21_2).f3))) (fun _ hk => hk.2) (.int .i64 ((rd_T74 l0 x21_2).f4))) (fun _ hk => trivial)⟩, ⟨by (with_reducible repeat first | apply q1_ | apply q2_ | apply q3_); refine blk_put (cs := #[.string ((rd_T74 l0 x21_2).f0), .slice A304_1 ((rd_T74 l0 x21_2).f1).length c304_1, .int .i64 ((rd_T74 l0 x21_2).f2), .int .i64 ((rd_T74 l0 x21_2).f3), .int .i64 0]) ?_ 4 _ rfl; (with_reducible repeat first | apply q1_ | apply q2_ | apply q3_); refine blk_put (cs := #[.string ((rd_T74 l0 x21_2).f0), .slice A304_1 ((rd_T74 l0 x21_2).f1).length c304_1, .int .i64 ((rd_T74 l0 x21_2).f2), .int .i64 0, .int .i64 0]) ?_ 3 _ rfl; (with_reducible repeat first | apply q1_ | apply q2_ | apply q3_); refine blk_put (cs := #[.string ((rd_T74 l0 x21_2).f0), .slice A304_1 ((rd_T74 l0 x21_2).f1).length c304_1, .int .i64 0, .int .i64 0, .int .i64 0]) ?_ 2 _ rfl; (with_reducible repeat first | apply q1_ | apply q2_ | apply q3_); refine blk_put (cs := #[.string ((rd_T74 l0 x21_2).f0), .slice none 0 0, .int .i64 0, .int .i64 0, .int .i64 0]) ?_ 1 _ rfl; (with_reducible repeat first | apply q1_ | apply q2_ | apply q3_); refine blk_put (cs := #[.string (⟨#[]⟩ : ByteArray), .slice none 0 0, .int .i64 0, .int .i64 0, .int .i64 0]) ?_ 0 _ rfl; (with_reducible repeat first | apply q1_ | apply q2_ | apply q3_); exact BK305.out⟩, ⟨by repeat (first | (with_reducible first | exact HB.out | apply q4_ | apply q5_ | apply q6_ | refine below_set ?_ GE305.out) | exact HB.out)⟩⟩
          ·rw [if_neg c15] at H
           have c15b0 : (((rd_T74 l0 x21_2).f0).toList == ([] : List UInt8)) = false := beq_eq_false_iff_ne.mpr c15
           have c15b1 : (((rd_T74 l0 x21_2).f0).toList != ([] : List UInt8)) = true := bne_iff_ne.mpr c15
           (first | rw [c15b0] | (simp only [i64_w, i32_w]; rw [c15b0]) | skip)
           by_cases c17 : 0 ≤ (a1.size : Int)
           ·rw [if_pos c17] at H
            have c17b0 := eq_true c17
            have c17b1 : decide (0 ≤ (a1.size : Int)) = true := decide_eq_true c17
            clear c17
            by_cases c18 : (a1.size : Int) ≤ (((rd_T74 l0 x21_2).f0).size : Int)
            ·rw [if_pos c18] at H
             have c18b0 := eq_true c18
             have c18b1 : decide ((a1.size : Int) ≤ (((rd_T74 l0 x21_2).f0).size : Int)) = true := decide_eq_true c18
             clear c18
             have H' := Aside0.mk H
             clear H
             have hcz19_0 : w13.cell? ⟨gb305, 0, none⟩ = some (.string (⟨#[]⟩ : ByteArray)) := (blk_cell BK305.out 0).trans rfl
             have hcz19_1 : w13.cell? ⟨gb305, 1, none⟩ = some (.slice none 0 0) := (blk_cell BK305.out 1).trans rfl
             have hcz19_2 : w13.cell? ⟨gb305, 2, none⟩ = some (.int .i64 0) := (blk_cell BK305.out 2).trans rfl
             have hcz19_3 : w13.cell? ⟨gb305, 3, none⟩ = some (.int .i64 0) := (blk_cell BK305.out 3).trans rfl
             have hcz19_4 : w13.cell? ⟨gb305, 4, none⟩ = some (.int .i64 0) := (blk_cell BK305.out 4).trans rfl
             have hfz19_0 := blk_frozen BK305.out 0
             have hfz19_1 := blk_frozen BK305.out 1
             have hfz19_2 := blk_frozen BK305.out 2
             have hfz19_3 := blk_frozen BK305.out 3
             have hfz19_4 := blk_frozen BK305.out 4
             go_wp2
             go_meet
             case rel => exact ⟨_, (((((rd_T74 l0 x21_2).f0).extract 0 ((a1.size : Int) : Int).toNat).toList == a1.toList)), rfl, H', ⟨by have := HJ2.out; have := HK2.out; first | omega | exact Nat.le_refl _⟩, ⟨by (with_reducible repeat (first | apply Kd.R_alloc | apply Kd.R_drewN | apply Kd.R_drew)); exact Kd.R_mono (Kd.R_far (p := ⟨gb305, 4, none⟩) (Kd.R_far (p := ⟨gb305, 3, none⟩) (Kd.R_far (p := ⟨gb305, 2, none⟩) (Kd.R_far (p := ⟨gb305, 1, none⟩) (Kd.R_far (p := ⟨gb305, 0, none⟩) (Kd.R_types HO_6.out BK305.out (by decide)) (fun _ hk => hk.2) (.string ((rd_T74 l0 x21_2).f0))) (fun _ hk => hk.2) (.slice A304_1 ((rd_T74 l0 x21_2).f1).length c304_1)) (fun _ hk => hk.2) (.int .i64 ((rd_T74 l0 x21_2).f2))) (fun _ hk => hk.2) (.int .i64 ((rd_T74 l0 x21_2).f3))) (fun _ hk => hk.2) (.int .i64 ((rd_T74 l0 x21_2).f4))) (fun _ hk => trivial)⟩, ⟨by (with_reducible repeat first | apply q1_ | apply q2_ | apply q3_); refine blk_put (cs := #[.string ((rd_T74 l0 x21_2).f0), .slice A304_1 ((rd_T74 l0 x21_2).f1).length c304_1, .int .i64 ((rd_T74 l0 x21_2).f2), .int .i64 ((rd_T74 l0 x21_2).f3), .int .i64 0]) ?_ 4 _ rfl; (with_reducible repeat first | apply q1_ | apply q2_ | apply q3_); refine blk_put (cs := #[.string ((rd_T74 l0 x21_2).f0), .slice A304_1 ((rd_T74 l0 x21_2).f1).length c304_1, .int .i64 ((rd_T74 l0 x21_2).f2), .int .i64 0, .int .i64 0]) ?_ 3 _ rfl; (with_reducible repeat first | apply q1_ | apply q2_ | apply q3_); refine blk_put (cs := #[.string ((rd_T74 l0 x21_2).f0), .slice A304_1 ((rd_T74 l0 x21_2).f1).length c304_1, .int .i64 0, .int .i64 0, .int .i64 0]) ?_ 2 _ rfl; (with_reducible repeat first | apply q1_ | apply q2_ | apply q3_); refine blk_put (cs := #[.string ((rd_T74 l0 x21_2).f0), .slice none 0 0, .int .i64 0, .int .i64 0, .int .i64 0]) ?_ 1 _ rfl; (with_reducible repeat first | apply q1_ | apply q2_ | apply q3_); refine blk_put (cs := #[.string (⟨#[]⟩ : ByteArray), .slice none 0 0, .int .i64 0, .int .i64 0, .int .i64 0]) ?_ 0 _ rfl; (with_reducible repeat first | apply q1_ | apply q2_ | apply q3_); exact BK305.out⟩, ⟨by repeat (first | (with_reducible first | exact HB.out | apply q4_ | apply q5_ | apply q6_ | refine below_set ?_ GE305.out) | exact HB.out)⟩⟩
            ·rw [if_neg c18] at H
             exact absurd H (by simp)
           ·rw [if_neg c17] at H
            exact absurd H (by simp)
         case rest =>
          clear HC12
          try clear c1
          try clear p2
          try clear c3
          try clear p3
          try clear q3
          try clear hx3
          try clear c5
          try clear c8
          try clear c9
          try clear c9b0
          try clear c10
          try clear c10b0
          try clear c11
          try clear c11b0
          try clear c12
          try clear c15
          try clear c15b0
          try clear c15b1
          try clear c17
          try clear c17b0
          try clear c17b1
          try clear c18
          try clear c18b0
          try clear c18b1
          try clear hcz14_0
          try clear hcz14_1
          try clear hcz14_2
          try clear hcz14_3
          try clear hcz14_4
          try clear hcz16_0
          try clear hcz16_1
          try clear hcz16_2
          try clear hcz16_3
          try clear hcz16_4
          try clear hcz19_0
          try clear hcz19_1
          try clear hcz19_2
          try clear hcz19_3
          try clear hcz19_4
          try clear hfz14_0
          try clear hfz14_1
          try clear hfz14_2
          try clear hfz14_3
          try clear hfz14_4
          try clear hfz16_0
          try clear hfz16_1
          try clear hfz16_2
          try clear hfz16_3
          try clear hfz16_4
          try clear hfz19_0
          try clear hfz19_1
          try clear hfz19_2
          try clear hfz19_3
          try clear hfz19_4
          try clear hx304_0
          try clear hx304_1
          try clear hx304_2
          try clear hx304_3
          try clear hx304_4
          try clear p2
          try clear p304
          try clear q304
          obtain ⟨kq, x36_11, rfl, HA, HJ11, HO_6, BK305, HB⟩ := hcut
          cases kq with
          | zero => exact absurd HA.out (by simp [spec_FindBeginning.j2])
          | succ kj11 =>
           have H := HA.out
           clear HA
           simp only [spec_FindBeginning.j2] at H
           by_cases c20 : x36_11 = true
           ·subst c20
            have H1 : (spec_FindBeginning.l1 kj11 a1 x6_2 l0 (l0.length : Int) x21_2 ((rd_T74 l0 x21_2).f1) (((rd_T74 l0 x21_2).f1).length : Int) 0) = some (r1, r2) := by rw [if_pos rfl] at H; exact H
            clear H
            have H := H1
            clear H1
            have H' := Aside0.mk H
            clear H
            have hcz21_0 : wc.cell? ⟨gb305, 0, none⟩ = some (.string ((rd_T74 l0 x21_2).f0)) := (blk_cell BK305.out 0).trans rfl
            have hcz21_1 : wc.cell? ⟨gb305, 1, none⟩ = some (.slice A304_1 ((rd_T74 l0 x21_2).f1).length c304_1) := (blk_cell BK305.out 1).trans rfl
            have hcz21_2 : wc.cell? ⟨gb305, 2, none⟩ = some (.int .i64 ((rd_T74 l0 x21_2).f2)) := (blk_cell BK305.out 2).trans rfl
            have hcz21_3 : wc.cell? ⟨gb305, 3, none⟩ = some (.int .i64 ((rd_T74 l0 x21_2).f3)) := (blk_cell BK305.out 3).trans rfl
            have hcz21_4 : wc.cell? ⟨gb305, 4, none⟩ = some (.int .i64 ((rd_T74 l0 x21_2).f4)) := (blk_cell BK305.out 4).trans rfl
            have hfz21_0 := blk_frozen BK305.out 0
            have hfz21_1 := blk_frozen BK305.out 1
            have hfz21_2 := blk_frozen BK305.out 2
            have hfz21_3 := blk_frozen BK305.out 3
            have hfz21_4 := blk_frozen BK305.out 4
            go_wp2
            go_loopg [6, 40] kj11 (fun kq v6 v40 w' => ∃ (x6_4 : List Int) (x40_4 : Int), v40 = .int .i64 x40_4 ∧ Aside0 (spec_FindBeginning.l1 kq a1 x6_4 l0 (l0.length : Int) x21_2 ((rd_T74 l0 x21_2).f1) (((rd_T74 l0 x21_2).f1).length : Int) x40_4 = some (r1, r2)) ∧ Aside0 (kq ≤ kj11) ∧ Aside0 (Kd.R (Kd.int .i64) 3 w' w.heap.size (fun _ => True) v6 x6_4) ∧ Aside0 (w'.heap[gb305]? = some (.cells #[.string ((rd_T74 l0 x21_2).f0), (.slice A304_1 ((rd_T74 l0 x21_2).f1).length c304_1), .int .i64 ((rd_T74 l0 x21_2).f2), .int .i64 ((rd_T74 l0 x21_2).f3), .int .i64 ((rd_T74 l0 x21_2).f4)] 74 (0, 0))) ∧ Aside0 (Below w.heap.size w w'))
            case atStart => exact ⟨(x6_2), (0), rfl, H', ⟨Nat.le_refl _⟩, ⟨by (with_reducible repeat (first | apply Kd.R_alloc | apply Kd.R_drewN | apply Kd.R_drew)); exact HO_6.out⟩, ⟨by (with_reducible repeat first | apply q1_ | apply q2_ | apply q3_); exact BK305.out⟩, ⟨by exact HB.out⟩⟩
            case round =>
             clear H'
             try clear c1
             try clear c2
             try clear p2
             try clear c3
             try clear p3
             try clear q3
             try clear hx3
             try clear c5
             try clear c8
             try clear c9
             try clear c9b0
             try clear c10
             try clear c10b0
             try clear c11
             try clear c11b0
             try clear c12
             try clear c15
             try clear c15b0
             try clear c15b1
             try clear c17
             try clear c17b0
             try clear c17b1
             try clear c18
             try clear c18b0
             try clear c18b1
             try clear c20
             try clear hcz14_0
             try clear hcz14_1
             try clear hcz14_2
             try clear hcz14_3
             try clear hcz14_4
             try clear hcz16_0
             try clear hcz16_1
             try clear hcz16_2
             try clear hcz16_3
             try clear hcz16_4
             try clear hcz19_0
             try clear hcz19_1
             try clear hcz19_2
             try clear hcz19_3
             try clear hcz19_4
             try clear hcz21_0
             try clear hcz21_1
             try clear hcz21_2
             try clear hcz21_3
             try clear hcz21_4
             try clear hfz14_0
             try clear hfz14_1
             try clear hfz14_2
             try clear hfz14_3
             try clear hfz14_4
             try clear hfz16_0
             try clear hfz16_1
             try clear hfz16_2
             try clear hfz16_3
             try clear hfz16_4
             try clear hfz19_0
             try clear hfz19_1
             try clear hfz19_2
             try clear hfz19_3
             try clear hfz19_4
             try clear hfz21_0
             try clear hfz21_1
             try clear hfz21_2
             try clear hfz21_3
             try clear hfz21_4
             try clear hx304_0
             try clear hx304_1
             try clear hx304_2
             try clear hx304_3
             try clear hx304_4
             try clear p2
             try clear p3
             try clear p304
             try clear q3
             try clear q304
             obtain ⟨x6_4, x40_4, rfl, HA, HK4, HO_6, BK305, HB⟩ := hrel
             cases gk with
             | zero => exact absurd HA.out (by simp [spec_FindBeginning.l1])
             | succ k4 =>
              have H := HA.out
              clear HA
              simp only [spec_FindBeginning.l1] at H
              by_cases c22 : x40_4 < (((rd_T74 l0 x21_2).f1).length : Int)
              ·rw [if_pos c22] at H
               have c22b0 : decide (x40_4 < (((rd_T74 l0 x21_2).f1).length : Int)) = true := decide_eq_true c22
               clear c22
               by_cases c23 : 0 ≤ x40_4
               ·rw [if_pos c23] at H
                have c23b0 : decide (0 ≤ x40_4) = true := decide_eq_true c23
                clear c23
                by_cases c24 : x40_4 < (((rd_T74 l0 x21_2).f1).length : Int)
                ·rw [if_pos c24] at H
                 have c24b0 : decide (x40_4 < (((rd_T74 l0 x21_2).f1).length : Int)) = true := decide_eq_true c24
                 clear c24
                 replace H := Option.bind_eq_some_iff.mp H
                 obtain ⟨t307, A250, H⟩ := H
                 replace H : (spec_FindBeginning.l1 k4 a1 t307 l0 (l0.length : Int) x21_2 ((rd_T74 l0 x21_2).f1) (((rd_T74 l0 x21_2).f1).length : Int) (wrap64 (x40_4 + 1))) = some (r1, r2) := H
                 have A25 := Aside0.mk A250
                 clear A250
                 have H' := Aside0.mk H
                 clear H
                 have p306 : 0 ≤ (x40_4 : Int) := of_decide_eq_true (by assumption)
                 have q306 : x40_4 < (((rd_T74 l0 x21_2).f1).length : Int) := of_decide_eq_true (by assumption)
                 obtain ⟨ad306, e306, hx306_0⟩ := Kd.at_int HR304_1.out x40_4 p306 q306
                 cases e306
                 replace hx306_0 := (HB.out.cell (World.block_lt_of_cell? w _ hx306_0)).trans hx306_0
                 replace p306 := eq_true p306
                 replace q306 := eq_true q306
                 obtain ⟨Ao26, co26, eo26⟩ := Kd.R_slice HO_6.out
                 subst eo26
                 go_wp2_with (first | ((with_reducible refine gate_callee (f := 65) rfl ?_); refine goesL_ (some 46) rfl rfl Try.func65 (by kernel_rfl) rfl #[.slice Ao26 x6_4.length co26, .int .i64 (rd ((rd_T74 l0 x21_2).f1) x40_4)] rfl (by simp only [List.map_toArray, List.map_cons, List.map_nil] <;> rfl) ?_; (with_reducible refine (spec_l10PutInt.calls k4 (fun k_ => some k_ = (.slice Ao26 x6_4.length co26 : Value).ownBlock) (.slice Ao26 x6_4.length co26) x6_4 (rd ((rd_T74 l0 x21_2).f1) x40_4) t307 w _ ?side1 ?side2 A25.out).mono ?_); (case side1 => exact HB.out); (case side2 => exact Kd.R_tight rfl HO_6.out); rintro e w27 ⟨v308, rfl, ho0, hb, hkp⟩; refine ⟨_, rfl, ?_⟩; have n0_ := Aside0.mk (blk_kept BK305.out hkp (fun hs_ => (fun e_ => (Kd.R_ne HO_6.out BK305.out (by decide)) e_) hs_)); have n1_ := Aside0.mk (Kd.R_mono (ok' := fun k_ => True) ho0 (fun k_ hk_ => trivial)); have n2_ := Aside0.mk (hb); clear BK305; clear HB; clear HO_6; have BK305 := n0_; have HO309 := n1_; have HB := n2_; clear n0_ n1_ n2_; (try clear hb); (try clear hkp); (try clear ho0)))
                 go_roundg k4
                 case measure => have := HJ2.out; have := HK2.out; have := HJ11.out; have := HK4.out; omega
                 case rel => exact ⟨(t307), (wrap64 (x40_4 + 1)), rfl, H', ⟨by have := HJ2.out; have := HK2.out; have := HJ11.out; have := HK4.out; omega⟩, ⟨by (with_reducible repeat (first | apply Kd.R_alloc | apply Kd.R_drewN | apply Kd.R_drew)); exact HO309.out⟩, ⟨by (with_reducible repeat first | apply q1_ | apply q2_ | apply q3_); exact BK305.out⟩, ⟨by exact HB.out⟩⟩
                ·rw [if_neg c24] at H
                 exact absurd H (by simp)
               ·rw [if_neg c23] at H
                exact absurd H (by simp)
              ·rw [if_neg c22] at H
               have c22b0 : decide (x40_4 < (((rd_T74 l0 x21_2).f1).length : Int)) = false := decide_eq_false c22
               clear c22
               have H' := Aside0.mk H
               clear H
               go_wp2
               go_roundg k4
               case measure => have := HJ2.out; have := HK2.out; have := HJ11.out; have := HK4.out; omega
               case rel => exact ⟨(x6_4), (wrap64 (x21_2 + 1)), rfl, H', ⟨by have := HJ2.out; have := HK2.out; have := HJ11.out; have := HK4.out; omega⟩, ⟨by (with_reducible repeat (first | apply Kd.R_alloc | apply Kd.R_drewN | apply Kd.R_drew)); exact HO_6.out⟩, ⟨by exact HB.out⟩⟩
           ·replace c20 := Bool.eq_false_iff.mpr c20
            subst c20
            have H1 : (spec_FindBeginning.l0 kj11 a1 x6_2 l0 (l0.length : Int) (wrap64 (x21_2 + 1))) = some (r1, r2) := by rw [if_neg (show ¬ (false = true) by decide)] at H; exact H
            clear H
            have H := H1
            clear H1
            have H' := Aside0.mk H
            clear H
            go_wp2
            go_roundg kj11
            case measure => have := HJ2.out; have := HK2.out; have := HJ11.out; omega
            case rel => exact ⟨(x6_2), (wrap64 (x21_2 + 1)), rfl, H', ⟨by have := HJ2.out; have := HK2.out; have := HJ11.out; omega⟩, ⟨by (with_reducible repeat (first | apply Kd.R_alloc | apply Kd.R_drewN | apply Kd.R_drew)); exact HO_6.out⟩, ⟨by exact HB.out⟩⟩
        ·rw [if_neg c11] at H
         exact absurd H (by simp)
       ·rw [if_neg c10] at H
        exact absurd H (by simp)
      ·rw [if_neg c9] at H
       have c9b0 : decide (x21_2 < (l0.length : Int)) = false := decide_eq_false c9
       clear c9
       simp only [Option.some.injEq, Prod.mk.injEq] at H
       obtain ⟨rfl, rfl⟩ := H
       go_wp2
       go_ret2
       exact ⟨_, by first | rfl | (simp [errW_none, errW_some] <;> rfl) | (simp [*, errW_none, errW_some] <;> rfl), by (with_reducible repeat (first | apply Kd.R_alloc | apply Kd.R_drewN | apply Kd.R_drew)); exact HO_6.out, by exact HB.out⟩
/-! ### strings_HasPrefix: function 66 -/
def strings_HasPrefix.f (a0 a1 : ByteArray) : Option Bool := some (Lib.hasPrefix a0.data.toList a1.data.toList)
theorem strings_HasPrefix.calls (a0 a1 : ByteArray) (r : Bool) (w : World) (h : strings_HasPrefix.f a0 a1 = some r) :
  Calls Try.prog 66 #[.string a0, .string a1] w fun e w' => e = .returned (.bool r) ∧ Drawn0 w w' := by
 obtain rfl := Option.some.inj h
 exact (Try.strings_HasPrefix a0 a1 w).mono fun e w' ⟨he, hw⟩ => ⟨he, hw ▸ Drawn0.refl _⟩
/-! ### slices_Sort_int_int: function 67 -/
theorem own_sortedInts {base e g cap q : Nat} {ok : Nat → Prop} {W : World} {xs ts : List Int} {os : Array Obj} (h : (Kd.int .i64).R e W base ok (.slice (some ⟨g, 0, none⟩) xs.length cap) xs) (hl : ts.length = xs.length) :
  (Kd.int .i64).R e (Sort.grow (Sort.putRow (Value.int .i64) (Sort.ahead W q) g 0 ts.toArray) os) base ok (.slice (some ⟨g, 0, none⟩) xs.length cap) ts ∧ W.grownBy (Sort.grow (Sort.putRow (Value.int .i64) (Sort.ahead W q) g 0 ts.toArray) os) (some g) := by
 have hown := Kd.own_of_R h
 refine ⟨?_, grownBy_sortedI _⟩
 rcases hown.2 with ⟨hv, _⟩ | ⟨g', cap', cur, hv, hb, hh, hnc, hcm, hcs, ht⟩
 ·cases hv
 injection hv with ha _ hc
 injection ha with ha
 injection ha with hg
 subst hg; subst hc
 have hr := ownsRow_sortedI (n := q) (os := os) hl hb hh hnc hcm hcs
 refine Kd.R_of_own ?_ h.1
 rw [hl]
 exact hr
theorem holds_of_R {base e g cap : Nat} {ok : Nat → Prop} {W : World} {xs : List Int} (h : (Kd.int .i64).R e W base ok (.slice (some ⟨g, 0, none⟩) xs.length cap) xs) : Sort.Holds (Value.int .i64) W g 0 xs.toArray := by
 have hown := Kd.own_of_R h
 intro j hj
 have hj' : j < xs.length := by simpa using hj
 rcases hown.2 with ⟨hv, _⟩ | ⟨g', cap', cur, hv, hb, hh, hnc, hcm, hcs, ht⟩
 ·cases hv
 injection hv with ha _ hc
 injection ha with ha
 injection ha with hg
 subst hg
 have h1 : cur[j]? = some (.int .i64 xs[j]) := by
  have h2 := congrArg (fun l => l[j]?) ht
  simp only [Nat.mul_one] at h2
  rw [List.getElem?_take_of_lt hj', Array.getElem?_toList] at h2
  rw [h2]
  simp [encs, hj']
 refine ⟨?_, ?_⟩
 ·rw [Nat.zero_add]
  exact (blk_cell hh j).trans (by rw [h1]; simp [hj'])
 ·rw [Nat.zero_add]
  exact blk_frozen hh j
def slices_Sort_int_int.f (l0 : List Int) : Option (List Int) := if l0.length < 1000000000000 then some (l0.mergeSort fun x y => decide (x ≤ y)) else none
theorem slices_Sort_int_int.calls (P0_ : Nat → Prop) (u9000_ : Value) (l0 : List Int) (r : List Int) (w0 w : World) (hB : Below w0.heap.size w0 w) (ho0 : Kd.R (Kd.int .i64) 3 w w0.heap.size P0_ u9000_ l0) (h : slices_Sort_int_int.f l0 = some r) :
  Calls Try.prog 67 #[u9000_] w fun e w' => e = .returned (.tuple #[]) ∧ Kd.R (Kd.int .i64) 3 w' w0.heap.size (fun k_ => (P0_ k_ ∨ w.heap.size ≤ k_)) u9000_ r ∧ Below w0.heap.size w0 w' ∧ Kept w w' (fun k_ => P0_ k_) := by
 unfold slices_Sort_int_int.f at h
 by_cases hl : l0.length < 1000000000000
 rotate_left
 ·rw [if_neg hl] at h; cases h
 rw [if_pos hl] at h
 obtain rfl := Option.some.inj h
 have hown := Kd.own_of_R ho0
 rcases hown.2 with ⟨hv, hz⟩ | ⟨g, cap, cur, hv, hb, hh, hnc, hcm, hcs, ht⟩
 ·obtain rfl : l0 = [] := List.eq_nil_of_length_eq_zero (by omega)
  subst hv
  refine (Try.slices_Sort_int_none none 0 w).mono ?_
  rintro e w' ⟨rfl, rfl⟩
  exact ⟨rfl, by rw [List.mergeSort_nil]; exact Kd.R_nil _ _ _ _ _, hB, Kept.refl _ _⟩
 ·subst hv
  refine (Try.slices_Sort_int g 0 cap l0 w (holds_of_R ho0) (blk_lt hh) (by omega)).mono ?_
  rintro e w' ⟨rfl, n, os, rfl⟩
  obtain ⟨h1, h2⟩ := own_sortedInts (q := n) (os := os) (ts := l0.mergeSort fun x y => decide (x ≤ y)) ho0 (List.length_mergeSort _)
  refine ⟨rfl, Kd.R_mono h1 (fun k hk => .inl hk), hB.grown h2 hB.size (fun k hk => by injection hk with hk; subst hk; exact hb), Kept.of_grown h2 (Kept.refl _ _) (fun k hk => .inl (ho0.1 k (by rw [← hk]; simp [Value.ownBlock])))⟩
/-! ### slices_Compact_int_int: function 68 -/
def slices_Compact_int_int.f (l0 : List Int) : Option (List Int) := if l0.length < 1000000000000 then some (Lib.compact l0) else none
theorem compact_le : ∀ (l : List Int), (Lib.compact l).length ≤ l.length := by
 intro l
 exact Lib.compact_length_le l
theorem slices_Compact_int_int.calls (P0_ : Nat → Prop) (u9000_ : Value) (l0 : List Int) (r : List Int) (w0 w : World) (hB : Below w0.heap.size w0 w) (ho0 : Kd.R (Kd.int .i64) 3 w w0.heap.size P0_ u9000_ l0) (h : slices_Compact_int_int.f l0 = some r) :
  Calls Try.prog 68 #[u9000_] w fun e w' => ∃ v0_ : Value, e = .returned (v0_) ∧ Kd.R (Kd.int .i64) 3 w' w0.heap.size (fun k_ => (P0_ k_ ∨ w.heap.size ≤ k_)) v0_ r ∧ Below w0.heap.size w0 w' ∧ Kept w w' (fun k_ => P0_ k_) := by
 unfold slices_Compact_int_int.f at h
 by_cases hl : l0.length < 1000000000000
 rotate_left
 ·rw [if_neg hl] at h; cases h
 rw [if_pos hl] at h
 obtain rfl := Option.some.inj h
 have hown := Kd.own_of_R ho0
 rcases hown.2 with ⟨hv, hz⟩ | ⟨g, cap, cur, hv, hb, hh, hnc, hcm, hcs, ht⟩
 ·obtain rfl : l0 = [] := List.eq_nil_of_length_eq_zero (by omega)
  subst hv
  refine (Try.slices_Compact_int_empty none 0 w).mono ?_
  rintro e w' ⟨rfl, rfl⟩
  exact ⟨_, rfl, Kd.R_nil _ _ _ _ _, hB, Kept.refl _ _⟩
 ·subst hv
  refine (Try.slices_Compact_int g 0 cap l0 w (holds_of_R ho0) (by omega) hnc).mono ?_
  rintro e w' ⟨rfl, n, rfl⟩
  have hle := compact_le l0
  obtain ⟨h1, h2⟩ := own_sortedInts (q := n) (os := #[]) (ts := Lib.compact l0 ++ List.replicate (l0.length - (Lib.compact l0).length) 0) ho0 (by simp; omega)
  have h0 : ∀ W : World, Sort.grow W #[] = W := fun W => by simp [Sort.grow]
  rw [h0] at h1 h2
  have h3 := Kd.R_take h1 (m := (Lib.compact l0).length) (by simp)
  rw [List.take_left'] at h3
  ·refine ⟨_, rfl, Kd.R_mono h3 (fun k hk => .inl hk), hB.grown h2 hB.size (fun k hk => by injection hk with hk; subst hk; exact hb), Kept.of_grown h2 (Kept.refl _ _) (fun k hk => .inl (ho0.1 k (by rw [← hk]; simp [Value.ownBlock])))⟩
  ·rfl
end
end Go.Proofs.Ytkkphbjemnifiaa.PFnFound
