-- Printed by wip/tools/patch_print.py; Lean checks it.
import Derived.Test.YtkfbdopfeacnfaaDoorPFnFieldsx0
import Derived.Test.YtkfbdopfeacnfaaDoorPFnFieldsx1
namespace Go.Proofs.YtkfbdopfeacnfaaDoor.PFnFields
open Go.RowKit Go.Proofs.YtkfbdopfeacnfaaDoorW.PrintWords Go.Proofs.YtkfbdopfeacnfaaDoorW.PrintLast Go.Proofs.YtkfbdopfeacnfaaDoorW.PrintMore
attribute [local go_sem] max2_int min2_int max_two min_two max_three min_three max_four min_four   -- for this text's walks alone
set_option linter.unusedVariables false
set_option linter.unusedSimpArgs false

noncomputable section
attribute [local go_sem high] eqA61
/-! ### impl_within: function 70 -/
def impl_within.f (a0 : Int) (a1 : Int) (a2 : Int) : Option (Bool) := if a0 ≥ a1 then (some (decide (a0 ≤ a2))) else (some false)
set_option maxHeartbeats 8000000 in
set_option maxRecDepth 100000 in
theorem impl_within.calls (a0 : Int) (a1 : Int) (a2 : Int) (r : Bool) (w : World) (h : impl_within.f a0 a1 a2 = some r) :
  Calls Tryd.prog 70 #[.int .i64 a0, .int .i64 a1, .int .i64 a2] w fun e w' => e = .returned (.bool r) ∧ Drawn0 w w' := by
 have H : (if a0 ≥ a1 then (some (decide (a0 ≤ a2))) else (some false)) = some r := h
 clear h
 by_cases c4 : a0 ≥ a1
 ·rw [if_pos c4] at H
  have c4b0 : decide (a1 ≤ a0) = true := decide_eq_true c4
  clear c4
  obtain rfl := Option.some.inj H
  go_enter Tryd.func70, Tryd.ntmps70
  go_wp2
  go_ret
  exact ⟨by first | rfl | (simp; done) | (simp [*]; done), by repeat (first | exact Drawn0.refl _ | apply Drawn0.step)⟩
 ·rw [if_neg c4] at H
  have c4b0 : decide (a1 ≤ a0) = false := decide_eq_false c4
  clear c4
  obtain rfl := Option.some.inj H
  go_enter Tryd.func70, Tryd.ntmps70
  go_wp2
  go_ret
  exact ⟨by first | rfl | (simp; done) | (simp [*]; done), by repeat (first | exact Drawn0.refl _ | apply Drawn0.step)⟩

/-! ### impl_sizeOf: function 71 -/
mutual
def impl_sizeOf.l0 : Nat → List (S61) → Int → Int → Option (Int)
 | 0, _, _, _ => none
 | k + 1, x0, x3, x4 => if x4 > 0 then (if x3 = (x0.length : Int) then (impl_sizeOf.j1 k x0 x3 x4 true) else (impl_sizeOf.j1 k x0 x3 x4 (x3 == 40))) else (some x3)
def impl_sizeOf.j1 : Nat → List (S61) → Int → Int → Bool → Option (Int)
 | 0, _, _, _, _ => none
 | k + 1, x0, x3, x4, x17 => if x17 = true then (some 0) else (if 0 ≤ x3 then (if x3 < (x0.length : Int) then (if ((rd_T61 x0 x3).f1) ≥ 6 then ((impl_within.f ((rd_T61 x0 x3).f4) 0 40).bind fun t103 => (if t103 = true then (impl_sizeOf.l0 k x0 (wrap64 (x3 + 1)) (wrap64 ((wrap64 (x4 + ((rd_T61 x0 x3).f4))) - 1))) else (some 0))) else (impl_sizeOf.l0 k x0 (wrap64 (x3 + 1)) (wrap64 (x4 - 1)))) else (none)) else (none))
end
def impl_sizeOf.f (k : Nat) (l0 : List (S61)) : Option (Int) := impl_sizeOf.l0 k l0 0 1
theorem impl_sizeOf.mono_l : ∀ k, (∀ y0 y1 y2, LeO (impl_sizeOf.l0 k y0 y1 y2) (impl_sizeOf.l0 (k + 1) y0 y1 y2)) ∧ (∀ y0 y1 y2 y3, LeO (impl_sizeOf.j1 k y0 y1 y2 y3) (impl_sizeOf.j1 (k + 1) y0 y1 y2 y3))
 | 0 => ⟨fun _ _ _ r h => by simp [impl_sizeOf.l0] at h, fun _ _ _ _ r h => by simp [impl_sizeOf.j1] at h⟩
 | k + 1 => by
  obtain ⟨ih0, ih1⟩ := impl_sizeOf.mono_l k
  refine ⟨?_, ?_⟩
  ·intro y0 y1 y2
   unfold impl_sizeOf.l0
   repeat' first
   | (with_reducible exact ih0 _ _ _)
   | (with_reducible exact ih1 _ _ _ _)
   | (with_reducible exact LeO.refl _)
   | (with_reducible exact LeO.none _)
   | (with_reducible refine LeO.ite ?_ ?_)
   | (with_reducible refine LeO.bind ?_ (fun _ => ?_))
   | exact ih0 _ _ _
   | exact ih1 _ _ _ _
   | exact LeO.none _
   | refine LeO.ite ?_ ?_
   | refine LeO.bind ?_ (fun _ => ?_)
  ·intro y0 y1 y2 y3
   unfold impl_sizeOf.j1
   repeat' first
   | (with_reducible exact ih0 _ _ _)
   | (with_reducible exact ih1 _ _ _ _)
   | (with_reducible exact LeO.refl _)
   | (with_reducible exact LeO.none _)
   | (with_reducible refine LeO.ite ?_ ?_)
   | (with_reducible refine LeO.bind ?_ (fun _ => ?_))
   | exact ih0 _ _ _
   | exact ih1 _ _ _ _
   | exact LeO.none _
   | refine LeO.ite ?_ ?_
   | refine LeO.bind ?_ (fun _ => ?_)
theorem impl_sizeOf.mono : ∀ a0 k, LeO (impl_sizeOf.f k a0) (impl_sizeOf.f (k + 1) a0) := by
 intro a0 k
 obtain ⟨ih0, ih1⟩ := impl_sizeOf.mono_l k
 unfold impl_sizeOf.f
 repeat' first
   | (with_reducible exact ih0 _ _ _)
   | (with_reducible exact ih1 _ _ _ _)
   | (with_reducible exact LeO.refl _)
   | (with_reducible exact LeO.none _)
   | (with_reducible refine LeO.ite ?_ ?_)
   | (with_reducible refine LeO.bind ?_ (fun _ => ?_))
   | exact ih0 _ _ _
   | exact ih1 _ _ _ _
   | exact LeO.none _
   | refine LeO.ite ?_ ?_
   | refine LeO.bind ?_ (fun _ => ?_)
set_option maxHeartbeats 8000000 in
set_option maxRecDepth 100000 in
theorem impl_sizeOf.calls (k : Nat) (A0 : Option Addr) (c0 : Nat) (l0 : List (S61)) (r : Int) (w : World) (hr0 : Kd.C k61 w A0 l0.length l0) (hc0 : l0.length ≤ c0) (h : impl_sizeOf.f k l0 = some r) :
  Calls Tryd.prog 71 #[.slice A0 l0.length c0] w fun e w' => e = .returned (.int .i64 r) ∧ Below w.heap.size w w' := by
 have hu61 := Tryd.underlying61
 have HR0 := Aside0.mk hr0
 have HC0 := Aside0.mk hc0
 clear hr0 hc0
 have HB := Aside0.mk (Below.refl w.heap.size w)
 have H : (impl_sizeOf.l0 k l0 0 1) = some r := h
 clear h
 have H' := Aside0.mk H
 clear H
 go_enter Tryd.func71, Tryd.ntmps71
 go_wp2
 go_loopg [3, 4] k (fun kq v3 v4 w' => ∃ (x3_1 : Int) (x4_1 : Int), v3 = .int .i64 x3_1 ∧ v4 = .int .i64 x4_1 ∧ Aside0 (impl_sizeOf.l0 kq l0 x3_1 x4_1 = some r) ∧ Aside0 (kq ≤ k) ∧ Aside0 (Below w.heap.size w w'))
 case atStart => exact ⟨(0), (1), (by first | rfl | (simp; done) | (simp [*]; done) | (simp; apply Bool.eq_iff_iff.mpr; simp only [bne_iff_ne, ne_eq, beq_iff_eq]; omega)), (by first | rfl | (simp; done) | (simp [*]; done) | (simp; apply Bool.eq_iff_iff.mpr; simp only [bne_iff_ne, ne_eq, beq_iff_eq]; omega)), H', ⟨Nat.le_refl _⟩, ⟨by repeat (first | (with_reducible first | exact HB.out | apply jD | apply jE | apply jF) | exact HB.out)⟩⟩
 case round =>
  clear H'
  obtain ⟨x3_1, x4_1, rfl, rfl, HA, HK1, HB⟩ := hrel
  cases gk with
  | zero => exact absurd HA.out (by simp [impl_sizeOf.l0])
  | succ k1 =>
   have H := HA.out
   clear HA
   simp only [impl_sizeOf.l0] at H
   by_cases c2 : x4_1 > 0
   ·rw [if_pos c2] at H
    have c2b0 : decide (0 < x4_1) = true := decide_eq_true c2
    clear c2
    have HC3 := Aside0.mk H
    clear H
    go_upto_region 5 with (fail)
    go_cut [17] (fun v17 wc => ∃ (kq : Nat) (x17_2 : Bool), v17 = .bool x17_2 ∧ Aside0 (impl_sizeOf.j1 kq l0 x3_1 x4_1 x17_2 = some r) ∧ Aside0 (kq ≤ k1) ∧ Aside0 (Below w.heap.size w wc))
    case first =>
     have H := HC3.out
     clear HC3
     by_cases c4 : x3_1 = (l0.length : Int)
     ·rw [if_pos c4] at H
      have c4b0 : (x3_1 == (l0.length : Int)) = true := beq_iff_eq.mpr c4
      have c4b1 : (x3_1 != (l0.length : Int)) = false := bne_eq_false_iff_eq.mpr c4
      clear c4
      (first | rw [c4b0] | (simp only [i64_w, i32_w]; rw [c4b0]) | skip)
      have H' := Aside0.mk H
      clear H
      go_wp2
      go_meet
      case rel => exact ⟨_, (true), (by first | rfl | (simp; done) | (simp [*]; done) | (simp; apply Bool.eq_iff_iff.mpr; simp only [bne_iff_ne, ne_eq, beq_iff_eq]; omega)), H', ⟨by have := HK1.out; first | omega | exact Nat.le_refl _⟩, ⟨by repeat (first | (with_reducible first | exact HB.out | apply jD | apply jE | apply jF) | exact HB.out)⟩⟩
     ·rw [if_neg c4] at H
      have c4b0 : (x3_1 == (l0.length : Int)) = false := beq_eq_false_iff_ne.mpr c4
      have c4b1 : (x3_1 != (l0.length : Int)) = true := bne_iff_ne.mpr c4
      (first | rw [c4b0] | (simp only [i64_w, i32_w]; rw [c4b0]) | skip)
      have H' := Aside0.mk H
      clear H
      go_wp2
      go_meet
      case rel => exact ⟨_, ((x3_1 == 40)), (by first | rfl | (simp; done) | (simp [*]; done) | (simp; apply Bool.eq_iff_iff.mpr; simp only [bne_iff_ne, ne_eq, beq_iff_eq]; omega)), H', ⟨by have := HK1.out; first | omega | exact Nat.le_refl _⟩, ⟨by repeat (first | (with_reducible first | exact HB.out | apply jD | apply jE | apply jF) | exact HB.out)⟩⟩
    case rest =>
     clear HC3
     try clear c2
     try clear c2b0
     try clear p2
     try clear c4
     try clear c4b0
     try clear c4b1
     obtain ⟨kq, x17_2, rfl, HA, HJ2, HB⟩ := hcut
     cases kq with
     | zero => exact absurd HA.out (by simp [impl_sizeOf.j1])
     | succ kj2 =>
      have H := HA.out
      clear HA
      simp only [impl_sizeOf.j1] at H
      by_cases c5 : x17_2 = true
      ·subst c5
       have H1 : (some 0) = some r := by rw [if_pos rfl] at H; exact H
       clear H
       have H := H1
       clear H1
       obtain rfl := Option.some.inj H
       go_wp2
       go_ret
       exact ⟨by first | rfl | (simp [errW_none, errW_some] <;> rfl) | (simp [*, errW_none, errW_some] <;> rfl), by repeat (first | (with_reducible first | exact HB.out | apply jD | apply jE | apply jF) | exact HB.out)⟩
      ·replace c5 := Bool.eq_false_iff.mpr c5
       subst c5
       have H1 : (if 0 ≤ x3_1 then (if x3_1 < (l0.length : Int) then (if ((rd_T61 l0 x3_1).f1) ≥ 6 then ((impl_within.f ((rd_T61 l0 x3_1).f4) 0 40).bind fun t103 => (if t103 = true then (impl_sizeOf.l0 kj2 l0 (wrap64 (x3_1 + 1)) (wrap64 ((wrap64 (x4_1 + ((rd_T61 l0 x3_1).f4))) - 1))) else (some 0))) else (impl_sizeOf.l0 kj2 l0 (wrap64 (x3_1 + 1)) (wrap64 (x4_1 - 1)))) else (none)) else (none)) = some r := by rw [if_neg (show ¬ (false = true) by decide)] at H; exact H
       clear H
       have H := H1
       clear H1
       by_cases c6 : 0 ≤ x3_1
       ·rw [if_pos c6] at H
        have c6b0 : decide (0 ≤ x3_1) = true := decide_eq_true c6
        clear c6
        by_cases c7 : x3_1 < (l0.length : Int)
        ·rw [if_pos c7] at H
         have c7b0 : decide (x3_1 < (l0.length : Int)) = true := decide_eq_true c7
         clear c7
         by_cases c8 : ((rd_T61 l0 x3_1).f1) ≥ 6
         ·rw [if_pos c8] at H
          have c8b0 : decide (6 ≤ ((rd_T61 l0 x3_1).f1)) = true := decide_eq_true c8
          clear c8
          replace H := Option.bind_eq_some_iff.mp H
          obtain ⟨t103, A90, H⟩ := H
          replace H : (if t103 = true then (impl_sizeOf.l0 kj2 l0 (wrap64 (x3_1 + 1)) (wrap64 ((wrap64 (x4_1 + ((rd_T61 l0 x3_1).f4))) - 1))) else (some 0)) = some r := H
          have A9 := Aside0.mk A90
          clear A90
          by_cases c10 : t103 = true
          ·subst c10
           have H1 : (impl_sizeOf.l0 kj2 l0 (wrap64 (x3_1 + 1)) (wrap64 ((wrap64 (x4_1 + ((rd_T61 l0 x3_1).f4))) - 1))) = some r := by rw [if_pos rfl] at H; exact H
           clear H
           have H := H1
           clear H1
           have H' := Aside0.mk H
           clear H
           have p101 : 0 ≤ (x3_1 : Int) := of_decide_eq_true (by first | (with_reducible assumption) | assumption)
           have q101 : x3_1 < (l0.length : Int) := of_decide_eq_true (by first | (with_reducible assumption) | assumption)
           obtain ⟨ad101, e101, hx101_0, hx101_1, hx101_2, hx101_3, hx101_4⟩ := at_T61 HR0.out x3_1 p101 q101
           cases e101
           replace hx101_0 := (HB.out.cell (World.block_lt_of_cell? w _ hx101_0)).trans hx101_0
           replace hx101_1 := (HB.out.cell (World.block_lt_of_cell? w _ hx101_1)).trans hx101_1
           replace hx101_2 := (HB.out.cell (World.block_lt_of_cell? w _ hx101_2)).trans hx101_2
           replace hx101_3 := (HB.out.cell (World.block_lt_of_cell? w _ hx101_3)).trans hx101_3
           replace hx101_4 := (HB.out.cell (World.block_lt_of_cell? w _ hx101_4)).trans hx101_4
           replace p101 := eq_true p101
           replace q101 := eq_true q101
           go_wp2_with (first | ((with_reducible refine gate_dst (N := 5) rfl ?_); refine box_event ?hg (N := 5) ?hd (cs := #[.string (⟨#[]⟩ : ByteArray), .int .i64 0, .int .i64 0, .string (⟨#[]⟩ : ByteArray), .int .i64 0]) (t := 61) ?hr ?_; (case hd => rfl); (case hg => rfl); (case hr => first | (go_simp; done) | (go_simp; rfl)); intro gb102 hg w11 hbox hb; have n0_ := Aside0.mk (below_step (by repeat first | (with_reducible first | exact HB.out | apply jD | apply jE | apply jF) | exact HB.out) hb); have n1_ := Aside0.mk (hbox); have n2_ := Aside0.mk ((by rw [hg]; exact (below_size (by repeat first | (with_reducible first | exact HB.out | apply jD | apply jE | apply jF) | exact HB.out)) : w.heap.size ≤ gb102)); have n3_ := Aside0.mk ((by rw [hg]; exact (below_size (by repeat first | (with_reducible first | exact HB.out | apply jD | apply jE | apply jF) | exact HB.out)) : w.heap.size ≤ gb102)); clear HB; have HB := n0_; have BK102 := n1_; have GW102 := n2_; have GE102 := n3_; clear n0_ n1_ n2_ n3_; clear hb hbox hg; have hcz12_0 : w11.cell? ⟨gb102, 0, none⟩ = some (.string (⟨#[]⟩ : ByteArray)) := (blk_cell BK102.out 0).trans rfl; have hcz12_1 : w11.cell? ⟨gb102, 1, none⟩ = some (.int .i64 0) := (blk_cell BK102.out 1).trans rfl; have hcz12_2 : w11.cell? ⟨gb102, 2, none⟩ = some (.int .i64 0) := (blk_cell BK102.out 2).trans rfl; have hcz12_3 : w11.cell? ⟨gb102, 3, none⟩ = some (.string (⟨#[]⟩ : ByteArray)) := (blk_cell BK102.out 3).trans rfl; have hcz12_4 : w11.cell? ⟨gb102, 4, none⟩ = some (.int .i64 0) := (blk_cell BK102.out 4).trans rfl; have hfz12_0 := blk_frozen BK102.out 0; have hfz12_1 := blk_frozen BK102.out 1; have hfz12_2 := blk_frozen BK102.out 2; have hfz12_3 := blk_frozen BK102.out 3; have hfz12_4 := blk_frozen BK102.out 4) | ((with_reducible refine gate_callee (f := 70) rfl ?_); refine goesL_ (some 27) rfl rfl Tryd.func70 (by kernel_rfl) rfl #[.int .i64 ((rd_T61 l0 x3_1).f4), .int .i64 0, .int .i64 40] rfl (by (try simp only [List.map_toArray, List.map_cons, List.map_nil]); first | done | rfl | (simp only [List.length_drop, List.length_take]; rfl)) ?_; (with_reducible refine (impl_within.calls ((rd_T61 l0 x3_1).f4) 0 40 true _ A9.out).mono ?_); rintro e w' ⟨rfl, ⟨nd, rfl⟩⟩; refine ⟨_, rfl, ?_⟩))
           go_roundg kj2
           case measure => have := HK1.out; have := HJ2.out; omega
           case rel => exact ⟨(wrap64 (x3_1 + 1)), (wrap64 ((wrap64 (x4_1 + ((rd_T61 l0 x3_1).f4))) - 1)), (by first | rfl | (simp; done) | (simp [*]; done) | (simp; apply Bool.eq_iff_iff.mpr; simp only [bne_iff_ne, ne_eq, beq_iff_eq]; omega)), (by first | rfl | (simp; done) | (simp [*]; done) | (simp; apply Bool.eq_iff_iff.mpr; simp only [bne_iff_ne, ne_eq, beq_iff_eq]; omega)), H', ⟨by have := HK1.out; have := HJ2.out; omega⟩, ⟨by repeat (first | (with_reducible first | exact HB.out | apply jD | apply jE | apply jF | refine below_set ?_ GE102.out) | exact HB.out)⟩⟩
          ·replace c10 := Bool.eq_false_iff.mpr c10
           subst c10
           have H1 : (some 0) = some r := by rw [if_neg (show ¬ (false = true) by decide)] at H; exact H
           clear H
           have H := H1
           clear H1
           obtain rfl := Option.some.inj H
           have p101 : 0 ≤ (x3_1 : Int) := of_decide_eq_true (by first | (with_reducible assumption) | assumption)
           have q101 : x3_1 < (l0.length : Int) := of_decide_eq_true (by first | (with_reducible assumption) | assumption)
           obtain ⟨ad101, e101, hx101_0, hx101_1, hx101_2, hx101_3, hx101_4⟩ := at_T61 HR0.out x3_1 p101 q101
           cases e101
           replace hx101_0 := (HB.out.cell (World.block_lt_of_cell? w _ hx101_0)).trans hx101_0
           replace hx101_1 := (HB.out.cell (World.block_lt_of_cell? w _ hx101_1)).trans hx101_1
           replace hx101_2 := (HB.out.cell (World.block_lt_of_cell? w _ hx101_2)).trans hx101_2
           replace hx101_3 := (HB.out.cell (World.block_lt_of_cell? w _ hx101_3)).trans hx101_3
           replace hx101_4 := (HB.out.cell (World.block_lt_of_cell? w _ hx101_4)).trans hx101_4
           replace p101 := eq_true p101
           replace q101 := eq_true q101
           go_wp2_with (first | ((with_reducible refine gate_dst (N := 5) rfl ?_); refine box_event ?hg (N := 5) ?hd (cs := #[.string (⟨#[]⟩ : ByteArray), .int .i64 0, .int .i64 0, .string (⟨#[]⟩ : ByteArray), .int .i64 0]) (t := 61) ?hr ?_; (case hd => rfl); (case hg => rfl); (case hr => first | (go_simp; done) | (go_simp; rfl)); intro gb102 hg w13 hbox hb; have n0_ := Aside0.mk (below_step (by repeat first | (with_reducible first | exact HB.out | apply jD | apply jE | apply jF) | exact HB.out) hb); have n1_ := Aside0.mk (hbox); have n2_ := Aside0.mk ((by rw [hg]; exact (below_size (by repeat first | (with_reducible first | exact HB.out | apply jD | apply jE | apply jF) | exact HB.out)) : w.heap.size ≤ gb102)); have n3_ := Aside0.mk ((by rw [hg]; exact (below_size (by repeat first | (with_reducible first | exact HB.out | apply jD | apply jE | apply jF) | exact HB.out)) : w.heap.size ≤ gb102)); clear HB; have HB := n0_; have BK102 := n1_; have GW102 := n2_; have GE102 := n3_; clear n0_ n1_ n2_ n3_; clear hb hbox hg; have hcz14_0 : w13.cell? ⟨gb102, 0, none⟩ = some (.string (⟨#[]⟩ : ByteArray)) := (blk_cell BK102.out 0).trans rfl; have hcz14_1 : w13.cell? ⟨gb102, 1, none⟩ = some (.int .i64 0) := (blk_cell BK102.out 1).trans rfl; have hcz14_2 : w13.cell? ⟨gb102, 2, none⟩ = some (.int .i64 0) := (blk_cell BK102.out 2).trans rfl; have hcz14_3 : w13.cell? ⟨gb102, 3, none⟩ = some (.string (⟨#[]⟩ : ByteArray)) := (blk_cell BK102.out 3).trans rfl; have hcz14_4 : w13.cell? ⟨gb102, 4, none⟩ = some (.int .i64 0) := (blk_cell BK102.out 4).trans rfl; have hfz14_0 := blk_frozen BK102.out 0; have hfz14_1 := blk_frozen BK102.out 1; have hfz14_2 := blk_frozen BK102.out 2; have hfz14_3 := blk_frozen BK102.out 3; have hfz14_4 := blk_frozen BK102.out 4) | ((with_reducible refine gate_callee (f := 70) rfl ?_); refine goesL_ (some 27) rfl rfl Tryd.func70 (by kernel_rfl) rfl #[.int .i64 ((rd_T61 l0 x3_1).f4), .int .i64 0, .int .i64 40] rfl (by (try simp only [List.map_toArray, List.map_cons, List.map_nil]); first | done | rfl | (simp only [List.length_drop, List.length_take]; rfl)) ?_; (with_reducible refine (impl_within.calls ((rd_T61 l0 x3_1).f4) 0 40 false _ A9.out).mono ?_); rintro e w' ⟨rfl, ⟨nd, rfl⟩⟩; refine ⟨_, rfl, ?_⟩))
           go_ret
           exact ⟨by first | rfl | (simp [errW_none, errW_some] <;> rfl) | (simp [*, errW_none, errW_some] <;> rfl), by repeat (first | (with_reducible first | exact HB.out | apply jD | apply jE | apply jF | refine below_set ?_ GE102.out) | exact HB.out)⟩
         ·rw [if_neg c8] at H
          have c8b0 : decide (6 ≤ ((rd_T61 l0 x3_1).f1)) = false := decide_eq_false c8
          clear c8
          have H' := Aside0.mk H
          clear H
          have p101 : 0 ≤ (x3_1 : Int) := of_decide_eq_true (by first | (with_reducible assumption) | assumption)
          have q101 : x3_1 < (l0.length : Int) := of_decide_eq_true (by first | (with_reducible assumption) | assumption)
          obtain ⟨ad101, e101, hx101_0, hx101_1, hx101_2, hx101_3, hx101_4⟩ := at_T61 HR0.out x3_1 p101 q101
          cases e101
          replace hx101_0 := (HB.out.cell (World.block_lt_of_cell? w _ hx101_0)).trans hx101_0
          replace hx101_1 := (HB.out.cell (World.block_lt_of_cell? w _ hx101_1)).trans hx101_1
          replace hx101_2 := (HB.out.cell (World.block_lt_of_cell? w _ hx101_2)).trans hx101_2
          replace hx101_3 := (HB.out.cell (World.block_lt_of_cell? w _ hx101_3)).trans hx101_3
          replace hx101_4 := (HB.out.cell (World.block_lt_of_cell? w _ hx101_4)).trans hx101_4
          replace p101 := eq_true p101
          replace q101 := eq_true q101
          go_wp2_with (first | ((with_reducible refine gate_dst (N := 5) rfl ?_); refine box_event ?hg (N := 5) ?hd (cs := #[.string (⟨#[]⟩ : ByteArray), .int .i64 0, .int .i64 0, .string (⟨#[]⟩ : ByteArray), .int .i64 0]) (t := 61) ?hr ?_; (case hd => rfl); (case hg => rfl); (case hr => first | (go_simp; done) | (go_simp; rfl)); intro gb102 hg w15 hbox hb; have n0_ := Aside0.mk (below_step (by repeat first | (with_reducible first | exact HB.out | apply jD | apply jE | apply jF) | exact HB.out) hb); have n1_ := Aside0.mk (hbox); have n2_ := Aside0.mk ((by rw [hg]; exact (below_size (by repeat first | (with_reducible first | exact HB.out | apply jD | apply jE | apply jF) | exact HB.out)) : w.heap.size ≤ gb102)); have n3_ := Aside0.mk ((by rw [hg]; exact (below_size (by repeat first | (with_reducible first | exact HB.out | apply jD | apply jE | apply jF) | exact HB.out)) : w.heap.size ≤ gb102)); clear HB; have HB := n0_; have BK102 := n1_; have GW102 := n2_; have GE102 := n3_; clear n0_ n1_ n2_ n3_; clear hb hbox hg; have hcz16_0 : w15.cell? ⟨gb102, 0, none⟩ = some (.string (⟨#[]⟩ : ByteArray)) := (blk_cell BK102.out 0).trans rfl; have hcz16_1 : w15.cell? ⟨gb102, 1, none⟩ = some (.int .i64 0) := (blk_cell BK102.out 1).trans rfl; have hcz16_2 : w15.cell? ⟨gb102, 2, none⟩ = some (.int .i64 0) := (blk_cell BK102.out 2).trans rfl; have hcz16_3 : w15.cell? ⟨gb102, 3, none⟩ = some (.string (⟨#[]⟩ : ByteArray)) := (blk_cell BK102.out 3).trans rfl; have hcz16_4 : w15.cell? ⟨gb102, 4, none⟩ = some (.int .i64 0) := (blk_cell BK102.out 4).trans rfl; have hfz16_0 := blk_frozen BK102.out 0; have hfz16_1 := blk_frozen BK102.out 1; have hfz16_2 := blk_frozen BK102.out 2; have hfz16_3 := blk_frozen BK102.out 3; have hfz16_4 := blk_frozen BK102.out 4))
          go_roundg kj2
          case measure => have := HK1.out; have := HJ2.out; omega
          case rel => exact ⟨(wrap64 (x3_1 + 1)), (wrap64 (x4_1 - 1)), (by first | rfl | (simp; done) | (simp [*]; done) | (simp; apply Bool.eq_iff_iff.mpr; simp only [bne_iff_ne, ne_eq, beq_iff_eq]; omega)), (by first | rfl | (simp; done) | (simp [*]; done) | (simp; apply Bool.eq_iff_iff.mpr; simp only [bne_iff_ne, ne_eq, beq_iff_eq]; omega)), H', ⟨by have := HK1.out; have := HJ2.out; omega⟩, ⟨by repeat (first | (with_reducible first | exact HB.out | apply jD | apply jE | apply jF | refine below_set ?_ GE102.out) | exact HB.out)⟩⟩
        ·rw [if_neg c7] at H
         exact absurd H (by simp)
       ·rw [if_neg c6] at H
        exact absurd H (by simp)
   ·rw [if_neg c2] at H
    have c2b0 : decide (0 < x4_1) = false := decide_eq_false c2
    clear c2
    obtain rfl := Option.some.inj H
    go_wp2
    go_ret
    exact ⟨by first | rfl | (simp [errW_none, errW_some] <;> rfl) | (simp [*, errW_none, errW_some] <;> rfl), by repeat (first | (with_reducible first | exact HB.out | apply jD | apply jE | apply jF) | exact HB.out)⟩

/-! ### utf8_DecodeRuneInString: function 130 -/
def utf8_DecodeRuneInString.f (a0 : ByteArray) : Option (Int × Int) := some (((Lib.decodeGo a0).1 : Int), ((Lib.decodeGo a0).2 : Int))
theorem utf8_DecodeRuneInString.calls (a0 : ByteArray) (r0 r1 : Int) (w : World) (tb : TabsU.Tabs0 w) (h : utf8_DecodeRuneInString.f a0 = some (r0, r1)) :
  Calls Tryd.prog 130 #[.string a0] w fun e w' => e = .returned (.tuple #[.int .i32 r0, .int .i64 r1]) ∧ Below w.heap.size w w' := by
 unfold utf8_DecodeRuneInString.f at h
 obtain h := Option.some.inj h
 injection h with h0 h1
 subst h0
 subst h1
 exact Tryd.utf8_DecodeRuneInString a0 w tb.utf8

/-! ### impl_runeAt: function 100 -/
def impl_runeAt.f (a0 : ByteArray) (a1 : Int) : Option (Int × Int × Bool) := if 0 ≤ a1 then (if a1 ≤ (a0.size : Int) then ((utf8_DecodeRuneInString.f (a0.extract (a1 : Int).toNat a0.size)).bind fun bt104 => (if bt104.1 = 65533 then (if bt104.2 < 2 then (some (0, 0, false)) else (some (wrap64 (bt104.1), wrap64 (a1 + bt104.2), true))) else (some (wrap64 (bt104.1), wrap64 (a1 + bt104.2), true)))) else (none)) else (none)
set_option maxHeartbeats 8000000 in
set_option maxRecDepth 100000 in
theorem impl_runeAt.calls (a0 : ByteArray) (a1 : Int) (r1 : Int) (r2 : Int) (r3 : Bool) (w : World) (tb : TabsU.Tabs0 w) (h : impl_runeAt.f a0 a1 = some (r1, r2, r3)) :
  Calls Tryd.prog 100 #[.string a0, .int .i64 a1] w fun e w' => e = .returned (.tuple #[.int .i64 r1, .int .i64 r2, .bool r3]) ∧ Below w.heap.size w w' := by
 have TB := Aside0.mk tb
 clear tb
 have HB := Aside0.mk (Below.refl w.heap.size w)
 have H : (if 0 ≤ a1 then (if a1 ≤ (a0.size : Int) then ((utf8_DecodeRuneInString.f (a0.extract (a1 : Int).toNat a0.size)).bind fun bt104 => (if bt104.1 = 65533 then (if bt104.2 < 2 then (some (0, 0, false)) else (some (wrap64 (bt104.1), wrap64 (a1 + bt104.2), true))) else (some (wrap64 (bt104.1), wrap64 (a1 + bt104.2), true)))) else (none)) else (none)) = some (r1, r2, r3) := h
 clear h
 by_cases c3 : 0 ≤ a1
 ·rw [if_pos c3] at H
  have c3b0 := eq_true c3
  have c3b1 : decide (0 ≤ a1) = true := decide_eq_true c3
  clear c3
  by_cases c4 : a1 ≤ (a0.size : Int)
  ·rw [if_pos c4] at H
   have c4b0 := eq_true c4
   have c4b1 : decide (a1 ≤ (a0.size : Int)) = true := decide_eq_true c4
   clear c4
   replace H := Option.bind_eq_some_iff.mp H
   obtain ⟨⟨t104, t105⟩, A50, H⟩ := H
   replace H : (if t104 = 65533 then (if t105 < 2 then (some (0, 0, false)) else (some (wrap64 (t104), wrap64 (a1 + t105), true))) else (some (wrap64 (t104), wrap64 (a1 + t105), true))) = some (r1, r2, r3) := H
   have A5 := Aside0.mk A50
   clear A50
   by_cases c6 : t104 = 65533
   ·rw [if_pos c6] at H
    have c6b0 : (t104 == 65533) = true := beq_iff_eq.mpr c6
    have c6b1 : (t104 != 65533) = false := bne_eq_false_iff_eq.mpr c6
    clear c6
    by_cases c7 : t105 < 2
    ·rw [if_pos c7] at H
     have c7b0 : decide (t105 < 2) = true := decide_eq_true c7
     clear c7
     simp only [Option.some.injEq, Prod.mk.injEq] at H
     obtain ⟨rfl, rfl, rfl⟩ := H
     go_enter Tryd.func100, Tryd.ntmps100
     go_wp2_with (first | ((with_reducible refine gate_callee (f := 130) rfl ?_); refine goesL_ (some 13) rfl rfl Tryd.func130 (by kernel_rfl) rfl #[.string (a0.extract (a1 : Int).toNat a0.size)] rfl (by (try simp only [List.map_toArray, List.map_cons, List.map_nil]); first | done | rfl | (simp only [List.length_drop, List.length_take]; rfl)) ?_; (with_reducible refine (utf8_DecodeRuneInString.calls (a0.extract (a1 : Int).toNat a0.size) t104 t105 _ ?side1 A5.out).mono ?_); (case side1 => exact TabsU.Tabs0.of_below TB.out (by repeat first | (with_reducible first | exact HB.out | apply jD | apply jE | apply jF) | exact HB.out)); rintro e w8 ⟨rfl, hb⟩; refine ⟨_, rfl, ?_⟩; have n0_ := Aside0.mk (below_step (by repeat first | (with_reducible first | exact HB.out | apply jD | apply jE | apply jF) | exact HB.out) hb); clear HB; have HB := n0_; clear n0_; (try clear hb); (try clear hk); (try clear hi)))
     go_ret3
     exact ⟨by first | rfl | (simp [errW_none, errW_some] <;> rfl) | (simp [*, errW_none, errW_some] <;> rfl), by repeat (first | (with_reducible first | exact HB.out | apply jD | apply jE | apply jF) | exact HB.out)⟩
    ·rw [if_neg c7] at H
     have c7b0 : decide (t105 < 2) = false := decide_eq_false c7
     clear c7
     simp only [Option.some.injEq, Prod.mk.injEq] at H
     obtain ⟨rfl, rfl, rfl⟩ := H
     go_enter Tryd.func100, Tryd.ntmps100
     go_wp2_with (first | ((with_reducible refine gate_callee (f := 130) rfl ?_); refine goesL_ (some 13) rfl rfl Tryd.func130 (by kernel_rfl) rfl #[.string (a0.extract (a1 : Int).toNat a0.size)] rfl (by (try simp only [List.map_toArray, List.map_cons, List.map_nil]); first | done | rfl | (simp only [List.length_drop, List.length_take]; rfl)) ?_; (with_reducible refine (utf8_DecodeRuneInString.calls (a0.extract (a1 : Int).toNat a0.size) t104 t105 _ ?side1 A5.out).mono ?_); (case side1 => exact TabsU.Tabs0.of_below TB.out (by repeat first | (with_reducible first | exact HB.out | apply jD | apply jE | apply jF) | exact HB.out)); rintro e w9 ⟨rfl, hb⟩; refine ⟨_, rfl, ?_⟩; have n0_ := Aside0.mk (below_step (by repeat first | (with_reducible first | exact HB.out | apply jD | apply jE | apply jF) | exact HB.out) hb); clear HB; have HB := n0_; clear n0_; (try clear hb); (try clear hk); (try clear hi)))
     go_ret3
     exact ⟨by first | rfl | (simp [errW_none, errW_some] <;> rfl) | (simp [*, errW_none, errW_some] <;> rfl), by repeat (first | (with_reducible first | exact HB.out | apply jD | apply jE | apply jF) | exact HB.out)⟩
   ·rw [if_neg c6] at H
    have c6b0 : (t104 == 65533) = false := beq_eq_false_iff_ne.mpr c6
    have c6b1 : (t104 != 65533) = true := bne_iff_ne.mpr c6
    simp only [Option.some.injEq, Prod.mk.injEq] at H
    obtain ⟨rfl, rfl, rfl⟩ := H
    go_enter Tryd.func100, Tryd.ntmps100
    go_wp2_with (first | ((with_reducible refine gate_callee (f := 130) rfl ?_); refine goesL_ (some 13) rfl rfl Tryd.func130 (by kernel_rfl) rfl #[.string (a0.extract (a1 : Int).toNat a0.size)] rfl (by (try simp only [List.map_toArray, List.map_cons, List.map_nil]); first | done | rfl | (simp only [List.length_drop, List.length_take]; rfl)) ?_; (with_reducible refine (utf8_DecodeRuneInString.calls (a0.extract (a1 : Int).toNat a0.size) t104 t105 _ ?side1 A5.out).mono ?_); (case side1 => exact TabsU.Tabs0.of_below TB.out (by repeat first | (with_reducible first | exact HB.out | apply jD | apply jE | apply jF) | exact HB.out)); rintro e w10 ⟨rfl, hb⟩; refine ⟨_, rfl, ?_⟩; have n0_ := Aside0.mk (below_step (by repeat first | (with_reducible first | exact HB.out | apply jD | apply jE | apply jF) | exact HB.out) hb); clear HB; have HB := n0_; clear n0_; (try clear hb); (try clear hk); (try clear hi)))
    go_ret3
    exact ⟨by first | rfl | (simp [errW_none, errW_some] <;> rfl) | (simp [*, errW_none, errW_some] <;> rfl), by repeat (first | (with_reducible first | exact HB.out | apply jD | apply jE | apply jF) | exact HB.out)⟩
  ·rw [if_neg c4] at H
   exact absurd H (by simp)
 ·rw [if_neg c3] at H
  exact absurd H (by simp)

/-! ### impl_runesOf: function 81 -/
def impl_runesOf.l0 : Nat → ByteArray → List Int → Int → Option (List Int × Bool)
 | 0, _, _, _ => none
 | k + 1, x0, x4, x5 => if x5 < (x0.size : Int) then ((impl_runeAt.f x0 x5).bind fun bt106 => (if bt106.2.2 = true then (if (x4.length : Int) = 60 then (some (([] : List Int), false)) else (if x4.length < 17592186044416 then (impl_runesOf.l0 k x0 (x4 ++ [bt106.1]) bt106.2.1) else (none))) else (some (([] : List Int), false)))) else (some (x4, true))
def impl_runesOf.f (k : Nat) (a0 : ByteArray) : Option (List Int × Bool) := impl_runesOf.l0 k a0 ([] : List Int) 0
theorem impl_runesOf.mono_l : ∀ k, (∀ y0 y1 y2, LeO (impl_runesOf.l0 k y0 y1 y2) (impl_runesOf.l0 (k + 1) y0 y1 y2))
 | 0 => fun _ _ _ r h => by simp [impl_runesOf.l0] at h
 | k + 1 => by
  have ih0 := impl_runesOf.mono_l k
  ·intro y0 y1 y2
   unfold impl_runesOf.l0
   repeat' first
   | (with_reducible exact ih0 _ _ _)
   | (with_reducible exact LeO.refl _)
   | (with_reducible exact LeO.none _)
   | (with_reducible refine LeO.ite ?_ ?_)
   | (with_reducible refine LeO.bind ?_ (fun _ => ?_))
   | exact ih0 _ _ _
   | exact LeO.none _
   | refine LeO.ite ?_ ?_
   | refine LeO.bind ?_ (fun _ => ?_)
theorem impl_runesOf.mono : ∀ a0 k, LeO (impl_runesOf.f k a0) (impl_runesOf.f (k + 1) a0) := by
 intro a0 k
 have ih0 := impl_runesOf.mono_l k
 unfold impl_runesOf.f
 repeat' first
   | (with_reducible exact ih0 _ _ _)
   | (with_reducible exact LeO.refl _)
   | (with_reducible exact LeO.none _)
   | (with_reducible refine LeO.ite ?_ ?_)
   | (with_reducible refine LeO.bind ?_ (fun _ => ?_))
   | exact ih0 _ _ _
   | exact LeO.none _
   | refine LeO.ite ?_ ?_
   | refine LeO.bind ?_ (fun _ => ?_)
set_option maxHeartbeats 8000000 in
set_option maxRecDepth 100000 in
theorem impl_runesOf.calls (k : Nat) (a0 : ByteArray) (r1 : List Int) (r2 : Bool) (w : World) (tb : TabsU.Tabs0 w) (h : impl_runesOf.f k a0 = some (r1, r2)) :
  Calls Tryd.prog 81 #[.string a0] w fun e w' => ∃ v0_ : Value, e = .returned (.tuple #[v0_, .bool r2]) ∧ Kd.R (Kd.int .i64) 3 w' w.heap.size (fun _ => True) v0_ r1 ∧ Below w.heap.size w w' := by
 have TB := Aside0.mk tb
 clear tb
 have HB := Aside0.mk (Below.refl w.heap.size w)
 have H : (impl_runesOf.l0 k a0 ([] : List Int) 0) = some (r1, r2) := h
 clear h
 have H' := Aside0.mk H
 clear H
 go_enter Tryd.func81, Tryd.ntmps81
 go_wp2
 go_loopg [4, 5] k (fun kq v4 v5 w' => ∃ (x4_1 : List Int) (x5_1 : Int), v5 = .int .i64 x5_1 ∧ Aside0 (impl_runesOf.l0 kq a0 x4_1 x5_1 = some (r1, r2)) ∧ Aside0 (kq ≤ k) ∧ Aside0 (Kd.R (Kd.int .i64) 3 w' w.heap.size (fun _ => True) v4 x4_1) ∧ Aside0 (Below w.heap.size w w'))
 case atStart => exact ⟨(([] : List Int)), (0), (by first | rfl | (simp; done) | (simp [*]; done) | (simp; apply Bool.eq_iff_iff.mpr; simp only [bne_iff_ne, ne_eq, beq_iff_eq]; omega)), H', ⟨Nat.le_refl _⟩, ⟨by first | exact Kd.R_nil _ _ _ _ _ | exact Kd.N_nil _ _ _ _ _ | exact Kd.V_nil _ _ _ _ _ | exact Kd.Q_nil _ _ _ _ _ | exact Kd.S_nil _ _ _ _ _⟩, ⟨by repeat (first | (with_reducible first | exact HB.out | apply jD | apply jE | apply jF) | exact HB.out)⟩⟩
 case round =>
  clear H'
  obtain ⟨x4_1, x5_1, rfl, HA, HK1, HO_4, HB⟩ := hrel
  cases gk with
  | zero => exact absurd HA.out (by simp [impl_runesOf.l0])
  | succ k1 =>
   have H := HA.out
   clear HA
   simp only [impl_runesOf.l0] at H
   by_cases c2 : x5_1 < (a0.size : Int)
   ·rw [if_pos c2] at H
    have c2b0 : decide (x5_1 < (a0.size : Int)) = true := decide_eq_true c2
    clear c2
    replace H := Option.bind_eq_some_iff.mp H
    obtain ⟨⟨t106, t107, t108⟩, A30, H⟩ := H
    replace H : (if t108 = true then (if (x4_1.length : Int) = 60 then (some (([] : List Int), false)) else (if x4_1.length < 17592186044416 then (impl_runesOf.l0 k1 a0 (x4_1 ++ [t106]) t107) else (none))) else (some (([] : List Int), false))) = some (r1, r2) := H
    have A3 := Aside0.mk A30
    clear A30
    by_cases c4 : t108 = true
    ·subst c4
     have H1 : (if (x4_1.length : Int) = 60 then (some (([] : List Int), false)) else (if x4_1.length < 17592186044416 then (impl_runesOf.l0 k1 a0 (x4_1 ++ [t106]) t107) else (none))) = some (r1, r2) := by rw [if_pos rfl] at H; exact H
     clear H
     have H := H1
     clear H1
     by_cases c5 : (x4_1.length : Int) = 60
     ·rw [if_pos c5] at H
      have c5b0 : ((x4_1.length : Int) == 60) = true := beq_iff_eq.mpr c5
      have c5b1 : ((x4_1.length : Int) != 60) = false := bne_eq_false_iff_eq.mpr c5
      clear c5
      simp only [Option.some.injEq, Prod.mk.injEq] at H
      obtain ⟨rfl, rfl⟩ := H
      go_wp2_with (first | ((with_reducible refine gate_callee (f := 100) rfl ?_); refine goesL_ (some 16) rfl rfl Tryd.func100 (by kernel_rfl) rfl #[.string a0, .int .i64 x5_1] rfl (by (try simp only [List.map_toArray, List.map_cons, List.map_nil]); first | done | rfl | (simp only [List.length_drop, List.length_take]; rfl)) ?_; (with_reducible refine (impl_runeAt.calls a0 x5_1 t106 t107 true _ ?side1 A3.out).mono ?_); (case side1 => exact TabsU.Tabs0.of_below TB.out (by repeat first | (with_reducible first | exact HB.out | apply jD | apply jE | apply jF) | exact HB.out)); rintro e w6 ⟨rfl, hb⟩; refine ⟨_, rfl, ?_⟩; have n0_ := Aside0.mk (Kd.R_below (by (with_reducible repeat (first | apply Kd.R_alloc | apply Kd.R_drewN | apply Kd.R_drew)); exact HO_4.out) hb); have n1_ := Aside0.mk (below_step (by repeat first | (with_reducible first | exact HB.out | apply jD | apply jE | apply jF) | exact HB.out) hb); clear HO_4; clear HB; have HO_4 := n0_; have HB := n1_; clear n0_ n1_; (try clear hb); (try clear hk); (try clear hi); obtain ⟨Ao7, co7, eo7⟩ := Kd.R_slice HO_4.out; subst eo7))
      go_ret2
      exact ⟨_, by first | rfl | (simp [errW_none, errW_some] <;> rfl) | (simp [*, errW_none, errW_some] <;> rfl), by first | exact Kd.R_nil _ _ _ _ _ | exact Kd.N_nil _ _ _ _ _ | exact Kd.V_nil _ _ _ _ _ | exact Kd.Q_nil _ _ _ _ _ | exact Kd.S_nil _ _ _ _ _, by repeat (first | (with_reducible first | exact HB.out | apply jD | apply jE | apply jF) | exact HB.out)⟩
     ·rw [if_neg c5] at H
      have c5b0 : ((x4_1.length : Int) == 60) = false := beq_eq_false_iff_ne.mpr c5
      have c5b1 : ((x4_1.length : Int) != 60) = true := bne_iff_ne.mpr c5
      by_cases c8 : x4_1.length < 17592186044416
      ·rw [if_pos c8] at H
       have LMc8 := Aside0.mk c8
       clear c8
       obtain ⟨y109, hy109⟩ : ∃ y_ : List Int, y_ = (x4_1 ++ [t106]) := ⟨_, rfl⟩
       replace H : (impl_runesOf.l0 k1 a0 y109 t107) = some (r1, r2) := by first | (rw [hy109]; with_reducible exact H) | (have H2_ := (Option.bind_some _ _).symm.trans H; rw [hy109]; with_reducible exact H2_) | (have H2_ := (Option.bind_some _ _).symm.trans H; with_reducible exact H2_) | with_reducible exact H | (rw [hy109]; exact H) | exact H
       have Ny109 := Aside0.mk hy109
       clear hy109
       have H' := Aside0.mk H
       clear H
       go_wp2_with (first | ((with_reducible refine gate_callee (f := 100) rfl ?_); refine goesL_ (some 16) rfl rfl Tryd.func100 (by kernel_rfl) rfl #[.string a0, .int .i64 x5_1] rfl (by (try simp only [List.map_toArray, List.map_cons, List.map_nil]); first | done | rfl | (simp only [List.length_drop, List.length_take]; rfl)) ?_; (with_reducible refine (impl_runeAt.calls a0 x5_1 t106 t107 true _ ?side1 A3.out).mono ?_); (case side1 => exact TabsU.Tabs0.of_below TB.out (by repeat first | (with_reducible first | exact HB.out | apply jD | apply jE | apply jF) | exact HB.out)); rintro e w9 ⟨rfl, hb⟩; refine ⟨_, rfl, ?_⟩; have n0_ := Aside0.mk (Kd.R_below (by (with_reducible repeat (first | apply Kd.R_alloc | apply Kd.R_drewN | apply Kd.R_drew)); exact HO_4.out) hb); have n1_ := Aside0.mk (below_step (by repeat first | (with_reducible first | exact HB.out | apply jD | apply jE | apply jF) | exact HB.out) hb); clear HO_4; clear HB; have HO_4 := n0_; have HB := n1_; clear n0_ n1_; (try clear hb); (try clear hk); (try clear hi); obtain ⟨Ao10, co10, eo10⟩ := Kd.R_slice HO_4.out; subst eo10) | ((with_reducible refine gate_builtin (b := .append) (xs := #[.tmp 27, .tmp 29]) rfl ?_); (try (refine gate_guard (by rfl) ?_; dsimp only)); at_builtin; refine Kd.R_append (Kd.int .i64) (w0 := w) w.heap.size rfl (.tmp 27) (.tmp 29) 79 3 (.int .i64 0) 8 rfl Tryd.underlying79 info3 rfl (by decide) (by omega) (.slice Ao10 x4_1.length co10) x4_1 t106 [.int .i64 t106] (fun _ => True) (fun _ => False) rfl rfl ?aP (fun _ hk => hk.elim) ?aF ?aO ?aB ?aS ?aL ?_; (case aP => exact rfl); (case aB => exact (by repeat first | (with_reducible first | exact HB.out | apply jD | apply jE | apply jF) | exact HB.out)); (case aF => exact (fun _ _ => trivial)); (case aO => exact (by (with_reducible repeat (first | apply Kd.R_alloc | apply Kd.R_drewN | apply Kd.R_drew)); exact HO_4.out)); (case aS => exact (below_size (by repeat first | (with_reducible first | exact HB.out | apply jD | apply jE | apply jF) | exact HB.out))); (case aL => have := LMc8.out; omega); intro v110 w11 ho hb hg hat; rw [← Ny109.out] at ho; have n0_ := Aside0.mk (hb); have n1_ := Aside0.mk (ho); clear HB; clear HO_4; have HB := n0_; have HO111 := n1_; clear n0_ n1_; clear ho hb hg hat))
       go_roundg k1
       case measure => have := HK1.out; omega
       case rel => exact ⟨(y109), (t107), (by first | rfl | (simp; done) | (simp [*]; done) | (simp; apply Bool.eq_iff_iff.mpr; simp only [bne_iff_ne, ne_eq, beq_iff_eq]; omega)), H', ⟨by have := HK1.out; omega⟩, ⟨by (with_reducible repeat (first | apply Kd.R_alloc | apply Kd.R_drewN | apply Kd.R_drew)); exact HO111.out⟩, ⟨by repeat (first | (with_reducible first | exact HB.out | apply jD | apply jE | apply jF) | exact HB.out)⟩⟩
      ·rw [if_neg c8] at H
       exact absurd H (by simp)
    ·replace c4 := Bool.eq_false_iff.mpr c4
     subst c4
     have H1 : (some (([] : List Int), false)) = some (r1, r2) := by rw [if_neg (show ¬ (false = true) by decide)] at H; exact H
     clear H
     have H := H1
     clear H1
     simp only [Option.some.injEq, Prod.mk.injEq] at H
     obtain ⟨rfl, rfl⟩ := H
     go_wp2_with (first | ((with_reducible refine gate_callee (f := 100) rfl ?_); refine goesL_ (some 16) rfl rfl Tryd.func100 (by kernel_rfl) rfl #[.string a0, .int .i64 x5_1] rfl (by (try simp only [List.map_toArray, List.map_cons, List.map_nil]); first | done | rfl | (simp only [List.length_drop, List.length_take]; rfl)) ?_; (with_reducible refine (impl_runeAt.calls a0 x5_1 t106 t107 false _ ?side1 A3.out).mono ?_); (case side1 => exact TabsU.Tabs0.of_below TB.out (by repeat first | (with_reducible first | exact HB.out | apply jD | apply jE | apply jF) | exact HB.out)); rintro e w12 ⟨rfl, hb⟩; refine ⟨_, rfl, ?_⟩; have n0_ := Aside0.mk (Kd.R_below (by (with_reducible repeat (first | apply Kd.R_alloc | apply Kd.R_drewN | apply Kd.R_drew)); exact HO_4.out) hb); have n1_ := Aside0.mk (below_step (by repeat first | (with_reducible first | exact HB.out | apply jD | apply jE | apply jF) | exact HB.out) hb); clear HO_4; clear HB; have HO_4 := n0_; have HB := n1_; clear n0_ n1_; (try clear hb); (try clear hk); (try clear hi)))
     go_ret2
     exact ⟨_, by first | rfl | (simp [errW_none, errW_some] <;> rfl) | (simp [*, errW_none, errW_some] <;> rfl), by first | exact Kd.R_nil _ _ _ _ _ | exact Kd.N_nil _ _ _ _ _ | exact Kd.V_nil _ _ _ _ _ | exact Kd.Q_nil _ _ _ _ _ | exact Kd.S_nil _ _ _ _ _, by repeat (first | (with_reducible first | exact HB.out | apply jD | apply jE | apply jF) | exact HB.out)⟩
   ·rw [if_neg c2] at H
    have c2b0 : decide (x5_1 < (a0.size : Int)) = false := decide_eq_false c2
    clear c2
    simp only [Option.some.injEq, Prod.mk.injEq] at H
    obtain ⟨rfl, rfl⟩ := H
    go_wp2
    go_ret2
    exact ⟨_, by first | rfl | (simp [errW_none, errW_some] <;> rfl) | (simp [*, errW_none, errW_some] <;> rfl), by (with_reducible repeat (first | apply Kd.R_alloc | apply Kd.R_drewN | apply Kd.R_drew)); exact HO_4.out, by repeat (first | (with_reducible first | exact HB.out | apply jD | apply jE | apply jF) | exact HB.out)⟩

/-! ### impl_RunesOf: function 50 -/
def impl_RunesOf.f (k : Nat) (a0 : ByteArray) : Option (List Int × Bool) := if (a0.size : Int) > 240 then (some (([] : List Int), false)) else ((impl_runesOf.f k a0).bind fun bt112 => (some (bt112.1, bt112.2)))
theorem impl_RunesOf.mono : ∀ a0 k, LeO (impl_RunesOf.f k a0) (impl_RunesOf.f (k + 1) a0) := by
 intro a0 k
 unfold impl_RunesOf.f
 repeat' first
   | (with_reducible exact impl_runesOf.mono _ _)
   | (with_reducible exact LeO.refl _)
   | (with_reducible exact LeO.none _)
   | (with_reducible refine LeO.ite ?_ ?_)
   | (with_reducible refine LeO.bind ?_ (fun _ => ?_))
   | exact impl_runesOf.mono _ _
   | exact LeO.none _
   | refine LeO.ite ?_ ?_
   | refine LeO.bind ?_ (fun _ => ?_)
set_option maxHeartbeats 8000000 in
set_option maxRecDepth 100000 in
theorem impl_RunesOf.calls (k : Nat) (a0 : ByteArray) (r1 : List Int) (r2 : Bool) (w : World) (tb : TabsU.Tabs0 w) (h : impl_RunesOf.f k a0 = some (r1, r2)) :
  Calls Tryd.prog 50 #[.string a0] w fun e w' => ∃ v0_ : Value, e = .returned (.tuple #[v0_, .bool r2]) ∧ Kd.R (Kd.int .i64) 3 w' w.heap.size (fun _ => True) v0_ r1 ∧ Below w.heap.size w w' := by
 have TB := Aside0.mk tb
 clear tb
 have HB := Aside0.mk (Below.refl w.heap.size w)
 have H : (if (a0.size : Int) > 240 then (some (([] : List Int), false)) else ((impl_runesOf.f k a0).bind fun bt112 => (some (bt112.1, bt112.2)))) = some (r1, r2) := h
 clear h
 by_cases c2 : (a0.size : Int) > 240
 ·rw [if_pos c2] at H
  have c2b0 : decide (240 < (a0.size : Int)) = true := decide_eq_true c2
  have c2b1 : decide (240 < a0.size) = true := decide_eq_true (by omega)
  clear c2
  simp only [Option.some.injEq, Prod.mk.injEq] at H
  obtain ⟨rfl, rfl⟩ := H
  go_enter Tryd.func50, Tryd.ntmps50
  go_wp2
  go_ret2
  exact ⟨_, by first | rfl | (simp [errW_none, errW_some] <;> rfl) | (simp [*, errW_none, errW_some] <;> rfl), by first | exact Kd.R_nil _ _ _ _ _ | exact Kd.N_nil _ _ _ _ _ | exact Kd.V_nil _ _ _ _ _ | exact Kd.Q_nil _ _ _ _ _ | exact Kd.S_nil _ _ _ _ _, by repeat (first | (with_reducible first | exact HB.out | apply jD | apply jE | apply jF) | exact HB.out)⟩
 ·rw [if_neg c2] at H
  have c2b0 : decide (240 < (a0.size : Int)) = false := decide_eq_false c2
  have c2b1 : decide (240 < a0.size) = false := decide_eq_false (by omega)
  clear c2
  replace H := Option.bind_eq_some_iff.mp H
  obtain ⟨⟨t112, t113⟩, A30, H⟩ := H
  replace H : (some (t112, t113)) = some (r1, r2) := H
  have A3 := Aside0.mk A30
  clear A30
  simp only [Option.some.injEq, Prod.mk.injEq] at H
  obtain ⟨rfl, rfl⟩ := H
  go_enter Tryd.func50, Tryd.ntmps50
  go_wp2_with (first | ((with_reducible refine gate_callee (f := 81) rfl ?_); refine goesL_ (some 8) rfl rfl Tryd.func81 (by kernel_rfl) rfl #[.string a0] rfl (by (try simp only [List.map_toArray, List.map_cons, List.map_nil]); first | done | rfl | (simp only [List.length_drop, List.length_take]; rfl)) ?_; (with_reducible refine (impl_runesOf.calls k a0 t112 t113 _ ?side1 A3.out).mono ?_); (case side1 => exact TabsU.Tabs0.of_below TB.out (by repeat first | (with_reducible first | exact HB.out | apply jD | apply jE | apply jF) | exact HB.out)); rintro e w4 ⟨v114, rfl, ho0, hb⟩; refine ⟨_, rfl, ?_⟩; have n0_ := Aside0.mk (Kd.R_lower ho0 (below_size (by repeat first | (with_reducible first | exact HB.out | apply jD | apply jE | apply jF) | exact HB.out))); have n1_ := Aside0.mk (below_step (by repeat first | (with_reducible first | exact HB.out | apply jD | apply jE | apply jF) | exact HB.out) hb); clear HB; have HO115 := n0_; have HB := n1_; clear n0_ n1_; (try clear hb); (try clear hk); (try clear hi); (try clear ho0)))
  go_ret2
  exact ⟨_, by first | rfl | (simp [errW_none, errW_some] <;> rfl) | (simp [*, errW_none, errW_some] <;> rfl), by (with_reducible repeat (first | apply Kd.R_alloc | apply Kd.R_drewN | apply Kd.R_drew)); exact HO115.out, by repeat (first | (with_reducible first | exact HB.out | apply jD | apply jE | apply jF) | exact HB.out)⟩

/-! ### impl_isText: function 104 -/
def impl_isText.f (k : Nat) (a0 : ByteArray) : Option (Bool) := (impl_RunesOf.f k a0).bind fun bt116 => (some bt116.2)
theorem impl_isText.mono : ∀ a0 k, LeO (impl_isText.f k a0) (impl_isText.f (k + 1) a0) := by
 intro a0 k
 unfold impl_isText.f
 repeat' first
   | (with_reducible exact impl_RunesOf.mono _ _)
   | (with_reducible exact LeO.refl _)
   | (with_reducible exact LeO.none _)
   | (with_reducible refine LeO.ite ?_ ?_)
   | (with_reducible refine LeO.bind ?_ (fun _ => ?_))
   | exact impl_RunesOf.mono _ _
   | exact LeO.none _
   | refine LeO.ite ?_ ?_
   | refine LeO.bind ?_ (fun _ => ?_)
set_option maxHeartbeats 8000000 in
set_option maxRecDepth 100000 in
theorem impl_isText.calls (k : Nat) (a0 : ByteArray) (r : Bool) (w : World) (tb : TabsU.Tabs0 w) (h : impl_isText.f k a0 = some r) :
  Calls Tryd.prog 104 #[.string a0] w fun e w' => e = .returned (.bool r) ∧ Below w.heap.size w w' := by
 have TB := Aside0.mk tb
 clear tb
 have HB := Aside0.mk (Below.refl w.heap.size w)
 have H : ((impl_RunesOf.f k a0).bind fun bt116 => (some bt116.2)) = some r := h
 clear h
 replace H := Option.bind_eq_some_iff.mp H
 obtain ⟨⟨t116, t117⟩, A20, H⟩ := H
 replace H : (some t117) = some r := H
 have A2 := Aside0.mk A20
 clear A20
 obtain rfl := Option.some.inj H
 go_enter Tryd.func104, Tryd.ntmps104
 go_wp2_with (first | ((with_reducible refine gate_callee (f := 50) rfl ?_); refine goesL_ (some 7) rfl rfl Tryd.func50 (by kernel_rfl) rfl #[.string a0] rfl (by (try simp only [List.map_toArray, List.map_cons, List.map_nil]); first | done | rfl | (simp only [List.length_drop, List.length_take]; rfl)) ?_; (with_reducible refine (impl_RunesOf.calls k a0 t116 t117 _ ?side1 A2.out).mono ?_); (case side1 => exact TabsU.Tabs0.of_below TB.out (by repeat first | (with_reducible first | exact HB.out | apply jD | apply jE | apply jF) | exact HB.out)); rintro e w3 ⟨v118, rfl, ho0, hb⟩; refine ⟨_, rfl, ?_⟩; have n0_ := Aside0.mk (Kd.R_lower ho0 (below_size (by repeat first | (with_reducible first | exact HB.out | apply jD | apply jE | apply jF) | exact HB.out))); have n1_ := Aside0.mk (below_step (by repeat first | (with_reducible first | exact HB.out | apply jD | apply jE | apply jF) | exact HB.out) hb); clear HB; have HO119 := n0_; have HB := n1_; clear n0_ n1_; (try clear hb); (try clear hk); (try clear hi); (try clear ho0)))
 go_ret
 exact ⟨by first | rfl | (simp [errW_none, errW_some] <;> rfl) | (simp [*, errW_none, errW_some] <;> rfl), by repeat (first | (with_reducible first | exact HB.out | apply jD | apply jE | apply jF) | exact HB.out)⟩

/-! ### impl_isNode: function 103 -/
def impl_isNode.j0 : Nat → Int → Bool → ByteArray → Int → Int → ByteArray → Int → ByteArray → Int → Int → ByteArray → Int → Option (Bool)
 | 0, _, _, _, _, _, _, _, _, _, _, _, _ => none
 | k + 1, x8, x9, x121000, x121001, x121002, x121003, x121004, x122000, x122001, x122002, x122003, x122004 => if x9 = true then (some (x122000.toList == ([] : List UInt8) && (x122001 == 0 && (x122002 == 0 && (x122003.toList == ([] : List UInt8) && (x122004 == 0)))))) else (if x8 = 4 then (if (x122000.toList == ([] : List UInt8) && (x122001 == 0 && (x122003.toList == ([] : List UInt8) && (x122004 == 0)))) = true then ((impl_within.f x121002 (-9007199254740991) 9007199254740991).bind fun t122 => (some t122)) else (some false)) else (if x8 = 5 then (if (x122000.toList == ([] : List UInt8) && (x122001 == 0 && (x122002 == 0 && (x122004 == 0)))) = true then ((impl_isText.f k x121003).bind fun t123 => (some t123)) else (some false)) else (if x8 = 6 then (some (x122000.toList == ([] : List UInt8) && (x122001 == 0 && (x122002 == 0 && (x122003.toList == ([] : List UInt8)))))) else (if x8 = 7 then (some (x122000.toList == ([] : List UInt8) && (x122001 == 0 && (x122002 == 0 && (x122003.toList == ([] : List UInt8)))))) else (some false)))))
def impl_isNode.f (k : Nat) (a0_0 : ByteArray) (a0_1 : Int) (a0_2 : Int) (a0_3 : ByteArray) (a0_4 : Int) : Option (Bool) := if a0_1 = 1 then (impl_isNode.j0 k a0_1 (a0_1 == 1) a0_0 a0_1 a0_2 a0_3 a0_4 (⟨#[]⟩ : ByteArray) 0 a0_2 a0_3 a0_4) else (if a0_1 = 2 then (impl_isNode.j0 k a0_1 (a0_1 == 2) a0_0 a0_1 a0_2 a0_3 a0_4 (⟨#[]⟩ : ByteArray) 0 a0_2 a0_3 a0_4) else (impl_isNode.j0 k a0_1 (a0_1 == 3) a0_0 a0_1 a0_2 a0_3 a0_4 (⟨#[]⟩ : ByteArray) 0 a0_2 a0_3 a0_4))
theorem impl_isNode.mono_l : ∀ k, (∀ y0 y1 y2 y3 y4 y5 y6 y7 y8 y9 y10 y11, LeO (impl_isNode.j0 k y0 y1 y2 y3 y4 y5 y6 y7 y8 y9 y10 y11) (impl_isNode.j0 (k + 1) y0 y1 y2 y3 y4 y5 y6 y7 y8 y9 y10 y11))
 | 0 => fun _ _ _ _ _ _ _ _ _ _ _ _ r h => by simp [impl_isNode.j0] at h
 | k + 1 => by
  have ih0 := impl_isNode.mono_l k
  ·intro y0 y1 y2 y3 y4 y5 y6 y7 y8 y9 y10 y11
   unfold impl_isNode.j0
   repeat' first
   | (with_reducible exact ih0 _ _ _ _ _ _ _ _ _ _ _ _)
   | (with_reducible exact impl_isText.mono _ _)
   | (with_reducible exact LeO.refl _)
   | (with_reducible exact LeO.none _)
   | (with_reducible refine LeO.ite ?_ ?_)
   | (with_reducible refine LeO.bind ?_ (fun _ => ?_))
   | exact ih0 _ _ _ _ _ _ _ _ _ _ _ _
   | exact impl_isText.mono _ _
   | exact LeO.none _
   | refine LeO.ite ?_ ?_
   | refine LeO.bind ?_ (fun _ => ?_)
theorem impl_isNode.mono : ∀ a0 a1 a2 a3 a4 k, LeO (impl_isNode.f k a0 a1 a2 a3 a4) (impl_isNode.f (k + 1) a0 a1 a2 a3 a4) := by
 intro a0 a1 a2 a3 a4 k
 have ih0 := impl_isNode.mono_l k
 unfold impl_isNode.f
 repeat' first
   | (with_reducible exact ih0 _ _ _ _ _ _ _ _ _ _ _ _)
   | (with_reducible exact impl_isText.mono _ _)
   | (with_reducible exact LeO.refl _)
   | (with_reducible exact LeO.none _)
   | (with_reducible refine LeO.ite ?_ ?_)
   | (with_reducible refine LeO.bind ?_ (fun _ => ?_))
   | exact ih0 _ _ _ _ _ _ _ _ _ _ _ _
   | exact impl_isText.mono _ _
   | exact LeO.none _
   | refine LeO.ite ?_ ?_
   | refine LeO.bind ?_ (fun _ => ?_)
set_option maxHeartbeats 8000000 in
set_option maxRecDepth 100000 in
theorem impl_isNode.calls (k : Nat) (a0_0 : ByteArray) (a0_1 : Int) (a0_2 : Int) (a0_3 : ByteArray) (a0_4 : Int) (r : Bool) (w : World) (tb : TabsU.Tabs0 w) (h : impl_isNode.f k a0_0 a0_1 a0_2 a0_3 a0_4 = some r) :
  Calls Tryd.prog 103 #[.agg #[.string a0_0, .int .i64 a0_1, .int .i64 a0_2, .string a0_3, .int .i64 a0_4]] w fun e w' => e = .returned (.bool r) ∧ Below w.heap.size w w' := by
 have hu61 := Tryd.underlying61
 have TB := Aside0.mk tb
 clear tb
 have HB := Aside0.mk (Below.refl w.heap.size w)
 have H : (if a0_1 = 1 then (impl_isNode.j0 k a0_1 (a0_1 == 1) a0_0 a0_1 a0_2 a0_3 a0_4 (⟨#[]⟩ : ByteArray) 0 a0_2 a0_3 a0_4) else (if a0_1 = 2 then (impl_isNode.j0 k a0_1 (a0_1 == 2) a0_0 a0_1 a0_2 a0_3 a0_4 (⟨#[]⟩ : ByteArray) 0 a0_2 a0_3 a0_4) else (impl_isNode.j0 k a0_1 (a0_1 == 3) a0_0 a0_1 a0_2 a0_3 a0_4 (⟨#[]⟩ : ByteArray) 0 a0_2 a0_3 a0_4))) = some r := h
 clear h
 have HC2 := Aside0.mk H
 clear H
 go_enter Tryd.func103, Tryd.ntmps103
 go_upto_if 9 with (first | ((with_reducible refine gate_dst (N := 1) rfl ?_); refine box_event ?hg (N := 1) ?hd (cs := #[.string a0_0, .int .i64 a0_1, .int .i64 a0_2, .string a0_3, .int .i64 a0_4]) (t := 61) ?hr ?_; (case hd => rfl); (case hg => rfl); (case hr => first | (go_simp; done) | (go_simp; rfl)); intro gb120 hg w3 hbox hb; have n0_ := Aside0.mk (below_step (by repeat first | (with_reducible first | exact HB.out | apply jD | apply jE | apply jF) | exact HB.out) hb); have n1_ := Aside0.mk (hbox); have n2_ := Aside0.mk ((by rw [hg]; exact (below_size (by repeat first | (with_reducible first | exact HB.out | apply jD | apply jE | apply jF) | exact HB.out)) : w.heap.size ≤ gb120)); have n3_ := Aside0.mk ((by rw [hg]; exact (below_size (by repeat first | (with_reducible first | exact HB.out | apply jD | apply jE | apply jF) | exact HB.out)) : w.heap.size ≤ gb120)); clear HB; have HB := n0_; have BK120 := n1_; have GW120 := n2_; have GE120 := n3_; clear n0_ n1_ n2_ n3_; clear hb hbox hg; have hcz4_0 : w3.cell? ⟨gb120, 0, none⟩ = some (.string a0_0) := (blk_cell BK120.out 0).trans rfl; have hcz4_1 : w3.cell? ⟨gb120, 1, none⟩ = some (.int .i64 a0_1) := (blk_cell BK120.out 1).trans rfl; have hcz4_2 : w3.cell? ⟨gb120, 2, none⟩ = some (.int .i64 a0_2) := (blk_cell BK120.out 2).trans rfl; have hcz4_3 : w3.cell? ⟨gb120, 3, none⟩ = some (.string a0_3) := (blk_cell BK120.out 3).trans rfl; have hcz4_4 : w3.cell? ⟨gb120, 4, none⟩ = some (.int .i64 a0_4) := (blk_cell BK120.out 4).trans rfl; have hfz4_0 := blk_frozen BK120.out 0; have hfz4_1 := blk_frozen BK120.out 1; have hfz4_2 := blk_frozen BK120.out 2; have hfz4_3 := blk_frozen BK120.out 3; have hfz4_4 := blk_frozen BK120.out 4) | ((with_reducible refine gate_dst (N := 3) rfl ?_); refine box_event ?hg (N := 3) ?hd (cs := #[.string (⟨#[]⟩ : ByteArray), .int .i64 0, .int .i64 0, .string (⟨#[]⟩ : ByteArray), .int .i64 0]) (t := 61) ?hr ?_; (case hd => rfl); (case hg => rfl); (case hr => first | (go_simp; done) | (go_simp; rfl)); intro gb121 hg w5 hbox hb; have n0_ := Aside0.mk (blk_below (g := gb120) (o := .cells #[.string a0_0, .int .i64 a0_1, .int .i64 a0_2, .string a0_3, .int .i64 a0_4] 61 (0, 0)) (by (with_reducible repeat first | apply jA | apply jB | apply jC); exact BK120.out) hb); have n1_ := Aside0.mk (below_step (by repeat (first | (with_reducible first | exact HB.out | apply jD | apply jE | apply jF | refine below_set ?_ GE120.out) | exact HB.out)) hb); have n2_ := Aside0.mk (hbox); have n3_ := Aside0.mk ((by rw [hg]; exact (below_size (by repeat (first | (with_reducible first | exact HB.out | apply jD | apply jE | apply jF | refine below_set ?_ GE120.out) | exact HB.out))) : w.heap.size ≤ gb121)); have n4_ := Aside0.mk ((by rw [hg]; exact (below_size (by repeat (first | (with_reducible first | exact HB.out | apply jD | apply jE | apply jF | refine below_set ?_ GE120.out) | exact HB.out))) : w.heap.size ≤ gb121)); have n5_ := Aside0.mk ((by rw [hg]; exact Nat.ne_of_lt (blk_lt (g := gb120) (o := .cells #[.string a0_0, .int .i64 a0_1, .int .i64 a0_2, .string a0_3, .int .i64 a0_4] 61 (0, 0)) (by (with_reducible repeat first | apply jA | apply jB | apply jC); exact BK120.out)) : gb120 ≠ gb121)); have n6_ := Aside0.mk ((by rw [hg]; exact Nat.ne_of_gt (blk_lt (g := gb120) (o := .cells #[.string a0_0, .int .i64 a0_1, .int .i64 a0_2, .string a0_3, .int .i64 a0_4] 61 (0, 0)) (by (with_reducible repeat first | apply jA | apply jB | apply jC); exact BK120.out)) : gb121 ≠ gb120)); clear BK120; clear HB; have BK120 := n0_; have HB := n1_; have BK121 := n2_; have GW121 := n3_; have GE121 := n4_; have NB120_121 := n5_; have NB121_120 := n6_; clear n0_ n1_ n2_ n3_ n4_ n5_ n6_; clear hb hbox hg; have hnb6 := NB121_120.out; have hnc6 := NB120_121.out; have hcz7_0 : w5.cell? ⟨gb121, 0, none⟩ = some (.string (⟨#[]⟩ : ByteArray)) := (blk_cell BK121.out 0).trans rfl; have hcz7_1 : w5.cell? ⟨gb121, 1, none⟩ = some (.int .i64 0) := (blk_cell BK121.out 1).trans rfl; have hcz7_2 : w5.cell? ⟨gb121, 2, none⟩ = some (.int .i64 0) := (blk_cell BK121.out 2).trans rfl; have hcz7_3 : w5.cell? ⟨gb121, 3, none⟩ = some (.string (⟨#[]⟩ : ByteArray)) := (blk_cell BK121.out 3).trans rfl; have hcz7_4 : w5.cell? ⟨gb121, 4, none⟩ = some (.int .i64 0) := (blk_cell BK121.out 4).trans rfl; have hfz7_0 := blk_frozen BK121.out 0; have hfz7_1 := blk_frozen BK121.out 1; have hfz7_2 := blk_frozen BK121.out 2; have hfz7_3 := blk_frozen BK121.out 3; have hfz7_4 := blk_frozen BK121.out 4; have hcz8_0 : w5.cell? ⟨gb120, 0, none⟩ = some (.string a0_0) := (blk_cell BK120.out 0).trans rfl; have hcz8_1 : w5.cell? ⟨gb120, 1, none⟩ = some (.int .i64 a0_1) := (blk_cell BK120.out 1).trans rfl; have hcz8_2 : w5.cell? ⟨gb120, 2, none⟩ = some (.int .i64 a0_2) := (blk_cell BK120.out 2).trans rfl; have hcz8_3 : w5.cell? ⟨gb120, 3, none⟩ = some (.string a0_3) := (blk_cell BK120.out 3).trans rfl; have hcz8_4 : w5.cell? ⟨gb120, 4, none⟩ = some (.int .i64 a0_4) := (blk_cell BK120.out 4).trans rfl; have hfz8_0 := blk_frozen BK120.out 0; have hfz8_1 := blk_frozen BK120.out 1; have hfz8_2 := blk_frozen BK120.out 2; have hfz8_3 := blk_frozen BK120.out 3; have hfz8_4 := blk_frozen BK120.out 4))
 (try simp only [Act.put, List.setIfInBounds_toArray, List.set_cons_zero, List.set_cons_succ])
 go_cut [9] (fun v9 wc => ∃ (kq : Nat) (x9_1 : Bool), v9 = .bool x9_1 ∧ Aside0 (impl_isNode.j0 kq a0_1 x9_1 a0_0 a0_1 a0_2 a0_3 a0_4 (⟨#[]⟩ : ByteArray) 0 a0_2 a0_3 a0_4 = some r) ∧ Aside0 (kq ≤ k) ∧ Aside0 (wc.heap[gb120]? = some (.cells #[.string a0_0, .int .i64 a0_1, .int .i64 a0_2, .string a0_3, .int .i64 a0_4] 61 (0, 0))) ∧ Aside0 (wc.heap[gb121]? = some (.cells #[.string (⟨#[]⟩ : ByteArray), .int .i64 0, .int .i64 a0_2, .string a0_3, .int .i64 a0_4] 61 (0, 0))) ∧ Aside0 (Below w.heap.size w wc))
 case first =>
  have H := HC2.out
  clear HC2
  by_cases c9 : a0_1 = 1
  ·rw [if_pos c9] at H
   have c9b0 : (a0_1 == 1) = true := beq_iff_eq.mpr c9
   have c9b1 : (a0_1 != 1) = false := bne_eq_false_iff_eq.mpr c9
   clear c9
   (first | rw [c9b0] | (simp only [i64_w, i32_w]; rw [c9b0]) | skip)
   have H' := Aside0.mk H
   clear H
   go_wp2
   go_meet
   case rel => exact ⟨_, ((a0_1 == 1)), (by first | rfl | (simp; done) | (simp [*]; done) | (simp; apply Bool.eq_iff_iff.mpr; simp only [bne_iff_ne, ne_eq, beq_iff_eq]; omega)), H', ⟨by first | omega | exact Nat.le_refl _⟩, ⟨by (with_reducible repeat first | apply jA | apply jB | apply jC); refine blk_far ?_ NB120_121.out _; (with_reducible repeat first | apply jA | apply jB | apply jC); refine blk_far ?_ NB120_121.out _; (with_reducible repeat first | apply jA | apply jB | apply jC); refine blk_far ?_ NB120_121.out _; (with_reducible repeat first | apply jA | apply jB | apply jC); refine blk_far ?_ NB120_121.out _; (with_reducible repeat first | apply jA | apply jB | apply jC); refine blk_far ?_ NB120_121.out _; (with_reducible repeat first | apply jA | apply jB | apply jC); refine blk_far ?_ NB120_121.out _; (with_reducible repeat first | apply jA | apply jB | apply jC); refine blk_far ?_ NB120_121.out _; (with_reducible repeat first | apply jA | apply jB | apply jC); exact BK120.out⟩, ⟨by (with_reducible repeat first | apply jA | apply jB | apply jC); refine blk_put (cs := #[.string (⟨#[]⟩ : ByteArray), .int .i64 a0_1, .int .i64 a0_2, .string a0_3, .int .i64 a0_4]) ?_ 1 _ rfl; (with_reducible repeat first | apply jA | apply jB | apply jC); refine blk_put (cs := #[.string a0_0, .int .i64 a0_1, .int .i64 a0_2, .string a0_3, .int .i64 a0_4]) ?_ 0 _ rfl; (with_reducible repeat first | apply jA | apply jB | apply jC); refine blk_put (cs := #[.string a0_0, .int .i64 a0_1, .int .i64 a0_2, .string a0_3, .int .i64 0]) ?_ 4 _ rfl; (with_reducible repeat first | apply jA | apply jB | apply jC); refine blk_put (cs := #[.string a0_0, .int .i64 a0_1, .int .i64 a0_2, .string (⟨#[]⟩ : ByteArray), .int .i64 0]) ?_ 3 _ rfl; (with_reducible repeat first | apply jA | apply jB | apply jC); refine blk_put (cs := #[.string a0_0, .int .i64 a0_1, .int .i64 0, .string (⟨#[]⟩ : ByteArray), .int .i64 0]) ?_ 2 _ rfl; (with_reducible repeat first | apply jA | apply jB | apply jC); refine blk_put (cs := #[.string a0_0, .int .i64 0, .int .i64 0, .string (⟨#[]⟩ : ByteArray), .int .i64 0]) ?_ 1 _ rfl; (with_reducible repeat first | apply jA | apply jB | apply jC); refine blk_put (cs := #[.string (⟨#[]⟩ : ByteArray), .int .i64 0, .int .i64 0, .string (⟨#[]⟩ : ByteArray), .int .i64 0]) ?_ 0 _ rfl; (with_reducible repeat first | apply jA | apply jB | apply jC); exact BK121.out⟩, ⟨by repeat (first | (with_reducible first | exact HB.out | apply jD | apply jE | apply jF | refine below_set ?_ GE120.out | refine below_set ?_ GE121.out) | exact HB.out)⟩⟩
  ·rw [if_neg c9] at H
   have c9b0 : (a0_1 == 1) = false := beq_eq_false_iff_ne.mpr c9
   have c9b1 : (a0_1 != 1) = true := bne_iff_ne.mpr c9
   (first | rw [c9b0] | (simp only [i64_w, i32_w]; rw [c9b0]) | skip)
   by_cases c10 : a0_1 = 2
   ·rw [if_pos c10] at H
    have c10b0 : (a0_1 == 2) = true := beq_iff_eq.mpr c10
    have c10b1 : (a0_1 != 2) = false := bne_eq_false_iff_eq.mpr c10
    clear c10
    have H' := Aside0.mk H
    clear H
    go_wp2
    go_meet
    case rel => exact ⟨_, ((a0_1 == 2)), (by first | rfl | (simp; done) | (simp [*]; done) | (simp; apply Bool.eq_iff_iff.mpr; simp only [bne_iff_ne, ne_eq, beq_iff_eq]; omega)), H', ⟨by first | omega | exact Nat.le_refl _⟩, ⟨by (with_reducible repeat first | apply jA | apply jB | apply jC); refine blk_far ?_ NB120_121.out _; (with_reducible repeat first | apply jA | apply jB | apply jC); refine blk_far ?_ NB120_121.out _; (with_reducible repeat first | apply jA | apply jB | apply jC); refine blk_far ?_ NB120_121.out _; (with_reducible repeat first | apply jA | apply jB | apply jC); refine blk_far ?_ NB120_121.out _; (with_reducible repeat first | apply jA | apply jB | apply jC); refine blk_far ?_ NB120_121.out _; (with_reducible repeat first | apply jA | apply jB | apply jC); refine blk_far ?_ NB120_121.out _; (with_reducible repeat first | apply jA | apply jB | apply jC); refine blk_far ?_ NB120_121.out _; (with_reducible repeat first | apply jA | apply jB | apply jC); exact BK120.out⟩, ⟨by (with_reducible repeat first | apply jA | apply jB | apply jC); refine blk_put (cs := #[.string (⟨#[]⟩ : ByteArray), .int .i64 a0_1, .int .i64 a0_2, .string a0_3, .int .i64 a0_4]) ?_ 1 _ rfl; (with_reducible repeat first | apply jA | apply jB | apply jC); refine blk_put (cs := #[.string a0_0, .int .i64 a0_1, .int .i64 a0_2, .string a0_3, .int .i64 a0_4]) ?_ 0 _ rfl; (with_reducible repeat first | apply jA | apply jB | apply jC); refine blk_put (cs := #[.string a0_0, .int .i64 a0_1, .int .i64 a0_2, .string a0_3, .int .i64 0]) ?_ 4 _ rfl; (with_reducible repeat first | apply jA | apply jB | apply jC); refine blk_put (cs := #[.string a0_0, .int .i64 a0_1, .int .i64 a0_2, .string (⟨#[]⟩ : ByteArray), .int .i64 0]) ?_ 3 _ rfl; (with_reducible repeat first | apply jA | apply jB | apply jC); refine blk_put (cs := #[.string a0_0, .int .i64 a0_1, .int .i64 0, .string (⟨#[]⟩ : ByteArray), .int .i64 0]) ?_ 2 _ rfl; (with_reducible repeat first | apply jA | apply jB | apply jC); refine blk_put (cs := #[.string a0_0, .int .i64 0, .int .i64 0, .string (⟨#[]⟩ : ByteArray), .int .i64 0]) ?_ 1 _ rfl; (with_reducible repeat first | apply jA | apply jB | apply jC); refine blk_put (cs := #[.string (⟨#[]⟩ : ByteArray), .int .i64 0, .int .i64 0, .string (⟨#[]⟩ : ByteArray), .int .i64 0]) ?_ 0 _ rfl; (with_reducible repeat first | apply jA | apply jB | apply jC); exact BK121.out⟩, ⟨by repeat (first | (with_reducible first | exact HB.out | apply jD | apply jE | apply jF | refine below_set ?_ GE120.out | refine below_set ?_ GE121.out) | exact HB.out)⟩⟩
   ·rw [if_neg c10] at H
    have c10b0 : (a0_1 == 2) = false := beq_eq_false_iff_ne.mpr c10
    have c10b1 : (a0_1 != 2) = true := bne_iff_ne.mpr c10
    have H' := Aside0.mk H
    clear H
    go_wp2
    go_meet
    case rel => exact ⟨_, ((a0_1 == 3)), (by first | rfl | (simp; done) | (simp [*]; done) | (simp; apply Bool.eq_iff_iff.mpr; simp only [bne_iff_ne, ne_eq, beq_iff_eq]; omega)), H', ⟨by first | omega | exact Nat.le_refl _⟩, ⟨by (with_reducible repeat first | apply jA | apply jB | apply jC); refine blk_far ?_ NB120_121.out _; (with_reducible repeat first | apply jA | apply jB | apply jC); refine blk_far ?_ NB120_121.out _; (with_reducible repeat first | apply jA | apply jB | apply jC); refine blk_far ?_ NB120_121.out _; (with_reducible repeat first | apply jA | apply jB | apply jC); refine blk_far ?_ NB120_121.out _; (with_reducible repeat first | apply jA | apply jB | apply jC); refine blk_far ?_ NB120_121.out _; (with_reducible repeat first | apply jA | apply jB | apply jC); refine blk_far ?_ NB120_121.out _; (with_reducible repeat first | apply jA | apply jB | apply jC); refine blk_far ?_ NB120_121.out _; (with_reducible repeat first | apply jA | apply jB | apply jC); exact BK120.out⟩, ⟨by (with_reducible repeat first | apply jA | apply jB | apply jC); refine blk_put (cs := #[.string (⟨#[]⟩ : ByteArray), .int .i64 a0_1, .int .i64 a0_2, .string a0_3, .int .i64 a0_4]) ?_ 1 _ rfl; (with_reducible repeat first | apply jA | apply jB | apply jC); refine blk_put (cs := #[.string a0_0, .int .i64 a0_1, .int .i64 a0_2, .string a0_3, .int .i64 a0_4]) ?_ 0 _ rfl; (with_reducible repeat first | apply jA | apply jB | apply jC); refine blk_put (cs := #[.string a0_0, .int .i64 a0_1, .int .i64 a0_2, .string a0_3, .int .i64 0]) ?_ 4 _ rfl; (with_reducible repeat first | apply jA | apply jB | apply jC); refine blk_put (cs := #[.string a0_0, .int .i64 a0_1, .int .i64 a0_2, .string (⟨#[]⟩ : ByteArray), .int .i64 0]) ?_ 3 _ rfl; (with_reducible repeat first | apply jA | apply jB | apply jC); refine blk_put (cs := #[.string a0_0, .int .i64 a0_1, .int .i64 0, .string (⟨#[]⟩ : ByteArray), .int .i64 0]) ?_ 2 _ rfl; (with_reducible repeat first | apply jA | apply jB | apply jC); refine blk_put (cs := #[.string a0_0, .int .i64 0, .int .i64 0, .string (⟨#[]⟩ : ByteArray), .int .i64 0]) ?_ 1 _ rfl; (with_reducible repeat first | apply jA | apply jB | apply jC); refine blk_put (cs := #[.string (⟨#[]⟩ : ByteArray), .int .i64 0, .int .i64 0, .string (⟨#[]⟩ : ByteArray), .int .i64 0]) ?_ 0 _ rfl; (with_reducible repeat first | apply jA | apply jB | apply jC); exact BK121.out⟩, ⟨by repeat (first | (with_reducible first | exact HB.out | apply jD | apply jE | apply jF | refine below_set ?_ GE120.out | refine below_set ?_ GE121.out) | exact HB.out)⟩⟩
 case rest =>
  clear HC2
  try clear c1
  try clear p2
  try clear c6
  try clear c9
  try clear c9b0
  try clear c9b1
  try clear c10
  try clear c10b0
  try clear c10b1
  try clear hcz4_0
  try clear hcz4_1
  try clear hcz4_2
  try clear hcz4_3
  try clear hcz4_4
  try clear hcz7_0
  try clear hcz7_1
  try clear hcz7_2
  try clear hcz7_3
  try clear hcz7_4
  try clear hcz8_0
  try clear hcz8_1
  try clear hcz8_2
  try clear hcz8_3
  try clear hcz8_4
  try clear hfz4_0
  try clear hfz4_1
  try clear hfz4_2
  try clear hfz4_3
  try clear hfz4_4
  try clear hfz7_0
  try clear hfz7_1
  try clear hfz7_2
  try clear hfz7_3
  try clear hfz7_4
  try clear hfz8_0
  try clear hfz8_1
  try clear hfz8_2
  try clear hfz8_3
  try clear hfz8_4
  obtain ⟨kq, x9_1, rfl, HA, HJ1, BK120, BK121, HB⟩ := hcut
  cases kq with
  | zero => exact absurd HA.out (by simp [impl_isNode.j0])
  | succ kj1 =>
   have H := HA.out
   clear HA
   simp only [impl_isNode.j0] at H
   by_cases c11 : x9_1 = true
   ·subst c11
    have H1 : (some ((⟨#[]⟩ : ByteArray).toList == ([] : List UInt8) && (0 == 0 && (a0_2 == 0 && (a0_3.toList == ([] : List UInt8) && (a0_4 == 0)))))) = some r := by rw [if_pos rfl] at H; exact H
    clear H
    have H := H1
    clear H1
    obtain rfl := Option.some.inj H
    have hnb12 := NB121_120.out
    have hnc12 := NB120_121.out
    have hcz13_0 : wc.cell? ⟨gb121, 0, none⟩ = some (.string (⟨#[]⟩ : ByteArray)) := (blk_cell BK121.out 0).trans rfl
    have hcz13_1 : wc.cell? ⟨gb121, 1, none⟩ = some (.int .i64 0) := (blk_cell BK121.out 1).trans rfl
    have hcz13_2 : wc.cell? ⟨gb121, 2, none⟩ = some (.int .i64 a0_2) := (blk_cell BK121.out 2).trans rfl
    have hcz13_3 : wc.cell? ⟨gb121, 3, none⟩ = some (.string a0_3) := (blk_cell BK121.out 3).trans rfl
    have hcz13_4 : wc.cell? ⟨gb121, 4, none⟩ = some (.int .i64 a0_4) := (blk_cell BK121.out 4).trans rfl
    have hfz13_0 := blk_frozen BK121.out 0
    have hfz13_1 := blk_frozen BK121.out 1
    have hfz13_2 := blk_frozen BK121.out 2
    have hfz13_3 := blk_frozen BK121.out 3
    have hfz13_4 := blk_frozen BK121.out 4
    go_wp2
    go_ret
    exact ⟨by first | rfl | (simp [errW_none, errW_some] <;> rfl) | (simp [*, errW_none, errW_some] <;> rfl), by repeat (first | (with_reducible first | exact HB.out | apply jD | apply jE | apply jF | refine below_set ?_ GE120.out | refine below_set ?_ GE121.out) | exact HB.out)⟩
   ·replace c11 := Bool.eq_false_iff.mpr c11
    subst c11
    have H1 : (if a0_1 = 4 then (if ((⟨#[]⟩ : ByteArray).toList == ([] : List UInt8) && (0 == 0 && (a0_3.toList == ([] : List UInt8) && (a0_4 == 0)))) = true then ((impl_within.f a0_2 (-9007199254740991) 9007199254740991).bind fun t122 => (some t122)) else (some false)) else (if a0_1 = 5 then (if ((⟨#[]⟩ : ByteArray).toList == ([] : List UInt8) && (0 == 0 && (a0_2 == 0 && (a0_4 == 0)))) = true then ((impl_isText.f kj1 a0_3).bind fun t123 => (some t123)) else (some false)) else (if a0_1 = 6 then (some ((⟨#[]⟩ : ByteArray).toList == ([] : List UInt8) && (0 == 0 && (a0_2 == 0 && (a0_3.toList == ([] : List UInt8)))))) else (if a0_1 = 7 then (some ((⟨#[]⟩ : ByteArray).toList == ([] : List UInt8) && (0 == 0 && (a0_2 == 0 && (a0_3.toList == ([] : List UInt8)))))) else (some false))))) = some r := by rw [if_neg (show ¬ (false = true) by decide)] at H; exact H
    clear H
    have H := H1
    clear H1
    by_cases c14 : a0_1 = 4
    ·rw [if_pos c14] at H
     have c14b0 : (a0_1 == 4) = true := beq_iff_eq.mpr c14
     have c14b1 : (a0_1 != 4) = false := bne_eq_false_iff_eq.mpr c14
     clear c14
     by_cases c15 : ((⟨#[]⟩ : ByteArray).toList == ([] : List UInt8) && (0 == 0 && (a0_3.toList == ([] : List UInt8) && (a0_4 == 0)))) = true
     ·rw [if_pos c15] at H
      have c15b0 : ((⟨#[]⟩ : ByteArray).toList == ([] : List UInt8) && (0 == 0 && (a0_3.toList == ([] : List UInt8) && (a0_4 == 0)))) = true := c15
      (try (have c15b9 : (a0_3.toList.isEmpty && a0_4 == 0) = true := by simpa using c15b0))
      (try (have c15b1 : decide ((⟨#[]⟩ : ByteArray).toList = ([] : List UInt8) && (0 == 0 && (a0_3.toList == ([] : List UInt8) && (a0_4 == 0)))) = true := by simpa using c15))
      (try (have c15b2 : ((⟨#[]⟩ : ByteArray).toList == ([] : List UInt8) && (0 == 0 && (a0_3.toList == ([] : List UInt8) && (a0_4 == 0)))) = true := by simpa using c15))
      clear c15
      replace H := Option.bind_eq_some_iff.mp H
      obtain ⟨t122, A160, H⟩ := H
      replace H : (some t122) = some r := H
      have A16 := Aside0.mk A160
      clear A160
      obtain rfl := Option.some.inj H
      have hnb17 := NB121_120.out
      have hnc17 := NB120_121.out
      have hcz18_0 : wc.cell? ⟨gb121, 0, none⟩ = some (.string (⟨#[]⟩ : ByteArray)) := (blk_cell BK121.out 0).trans rfl
      have hcz18_1 : wc.cell? ⟨gb121, 1, none⟩ = some (.int .i64 0) := (blk_cell BK121.out 1).trans rfl
      have hcz18_2 : wc.cell? ⟨gb121, 2, none⟩ = some (.int .i64 a0_2) := (blk_cell BK121.out 2).trans rfl
      have hcz18_3 : wc.cell? ⟨gb121, 3, none⟩ = some (.string a0_3) := (blk_cell BK121.out 3).trans rfl
      have hcz18_4 : wc.cell? ⟨gb121, 4, none⟩ = some (.int .i64 a0_4) := (blk_cell BK121.out 4).trans rfl
      have hfz18_0 := blk_frozen BK121.out 0
      have hfz18_1 := blk_frozen BK121.out 1
      have hfz18_2 := blk_frozen BK121.out 2
      have hfz18_3 := blk_frozen BK121.out 3
      have hfz18_4 := blk_frozen BK121.out 4
      have hcz19_0 : wc.cell? ⟨gb120, 0, none⟩ = some (.string a0_0) := (blk_cell BK120.out 0).trans rfl
      have hcz19_1 : wc.cell? ⟨gb120, 1, none⟩ = some (.int .i64 a0_1) := (blk_cell BK120.out 1).trans rfl
      have hcz19_2 : wc.cell? ⟨gb120, 2, none⟩ = some (.int .i64 a0_2) := (blk_cell BK120.out 2).trans rfl
      have hcz19_3 : wc.cell? ⟨gb120, 3, none⟩ = some (.string a0_3) := (blk_cell BK120.out 3).trans rfl
      have hcz19_4 : wc.cell? ⟨gb120, 4, none⟩ = some (.int .i64 a0_4) := (blk_cell BK120.out 4).trans rfl
      have hfz19_0 := blk_frozen BK120.out 0
      have hfz19_1 := blk_frozen BK120.out 1
      have hfz19_2 := blk_frozen BK120.out 2
      have hfz19_3 := blk_frozen BK120.out 3
      have hfz19_4 := blk_frozen BK120.out 4
      go_wp2_with (first | (go_at_call 70; (with_reducible refine (impl_within.calls a0_2 (-9007199254740991) 9007199254740991 t122 _ A16.out).mono ?_); rintro e w' ⟨rfl, ⟨nd, rfl⟩⟩))
      go_ret
      exact ⟨by first | rfl | (simp [errW_none, errW_some] <;> rfl) | (simp [*, errW_none, errW_some] <;> rfl), by repeat (first | (with_reducible first | exact HB.out | apply jD | apply jE | apply jF | refine below_set ?_ GE120.out | refine below_set ?_ GE121.out) | exact HB.out)⟩
     ·rw [if_neg c15] at H
      have c15b0 : ((⟨#[]⟩ : ByteArray).toList == ([] : List UInt8) && (0 == 0 && (a0_3.toList == ([] : List UInt8) && (a0_4 == 0)))) = false := by simpa using c15
      (try (have c15b9 : (a0_3.toList.isEmpty && a0_4 == 0) = false := by simpa using c15b0))
      (try (have c15b1 : decide ((⟨#[]⟩ : ByteArray).toList = ([] : List UInt8) && (0 == 0 && (a0_3.toList == ([] : List UInt8) && (a0_4 == 0)))) = false := by simpa using c15))
      (try (have c15b2 : ((⟨#[]⟩ : ByteArray).toList == ([] : List UInt8) && (0 == 0 && (a0_3.toList == ([] : List UInt8) && (a0_4 == 0)))) = false := by simpa using c15))
      (try (have c15b3 : ¬ ((⟨#[]⟩ : ByteArray).toList = ([] : List UInt8) && (0 == 0 && (a0_3.toList == ([] : List UInt8) && (a0_4 == 0)))) := by simpa using c15))
      clear c15
      obtain rfl := Option.some.inj H
      have hnb20 := NB121_120.out
      have hnc20 := NB120_121.out
      have hcz21_0 : wc.cell? ⟨gb121, 0, none⟩ = some (.string (⟨#[]⟩ : ByteArray)) := (blk_cell BK121.out 0).trans rfl
      have hcz21_1 : wc.cell? ⟨gb121, 1, none⟩ = some (.int .i64 0) := (blk_cell BK121.out 1).trans rfl
      have hcz21_2 : wc.cell? ⟨gb121, 2, none⟩ = some (.int .i64 a0_2) := (blk_cell BK121.out 2).trans rfl
      have hcz21_3 : wc.cell? ⟨gb121, 3, none⟩ = some (.string a0_3) := (blk_cell BK121.out 3).trans rfl
      have hcz21_4 : wc.cell? ⟨gb121, 4, none⟩ = some (.int .i64 a0_4) := (blk_cell BK121.out 4).trans rfl
      have hfz21_0 := blk_frozen BK121.out 0
      have hfz21_1 := blk_frozen BK121.out 1
      have hfz21_2 := blk_frozen BK121.out 2
      have hfz21_3 := blk_frozen BK121.out 3
      have hfz21_4 := blk_frozen BK121.out 4
      go_wp2
      go_ret
      exact ⟨by first | rfl | (simp [errW_none, errW_some] <;> rfl) | (simp [*, errW_none, errW_some] <;> rfl), by repeat (first | (with_reducible first | exact HB.out | apply jD | apply jE | apply jF | refine below_set ?_ GE120.out | refine below_set ?_ GE121.out) | exact HB.out)⟩
    ·rw [if_neg c14] at H
     have c14b0 : (a0_1 == 4) = false := beq_eq_false_iff_ne.mpr c14
     have c14b1 : (a0_1 != 4) = true := bne_iff_ne.mpr c14
     by_cases c22 : a0_1 = 5
     ·rw [if_pos c22] at H
      have c22b0 : (a0_1 == 5) = true := beq_iff_eq.mpr c22
      have c22b1 : (a0_1 != 5) = false := bne_eq_false_iff_eq.mpr c22
      clear c22
      by_cases c23 : ((⟨#[]⟩ : ByteArray).toList == ([] : List UInt8) && (0 == 0 && (a0_2 == 0 && (a0_4 == 0)))) = true
      ·rw [if_pos c23] at H
       have c23b0 : ((⟨#[]⟩ : ByteArray).toList == ([] : List UInt8) && (0 == 0 && (a0_2 == 0 && (a0_4 == 0)))) = true := c23
       (try (have c23b9 : (a0_2 == 0 && a0_4 == 0) = true := by simpa using c23b0))
       (try (have c23b1 : decide ((⟨#[]⟩ : ByteArray).toList = ([] : List UInt8) && (0 == 0 && (a0_2 == 0 && (a0_4 == 0)))) = true := by simpa using c23))
       (try (have c23b2 : ((⟨#[]⟩ : ByteArray).toList == ([] : List UInt8) && (0 == 0 && (a0_2 == 0 && (a0_4 == 0)))) = true := by simpa using c23))
       clear c23
       replace H := Option.bind_eq_some_iff.mp H
       obtain ⟨t123, A240, H⟩ := H
       replace H : (some t123) = some r := H
       have A24 := Aside0.mk A240
       clear A240
       obtain rfl := Option.some.inj H
       have hnb25 := NB121_120.out
       have hnc25 := NB120_121.out
       have hcz26_0 : wc.cell? ⟨gb121, 0, none⟩ = some (.string (⟨#[]⟩ : ByteArray)) := (blk_cell BK121.out 0).trans rfl
       have hcz26_1 : wc.cell? ⟨gb121, 1, none⟩ = some (.int .i64 0) := (blk_cell BK121.out 1).trans rfl
       have hcz26_2 : wc.cell? ⟨gb121, 2, none⟩ = some (.int .i64 a0_2) := (blk_cell BK121.out 2).trans rfl
       have hcz26_3 : wc.cell? ⟨gb121, 3, none⟩ = some (.string a0_3) := (blk_cell BK121.out 3).trans rfl
       have hcz26_4 : wc.cell? ⟨gb121, 4, none⟩ = some (.int .i64 a0_4) := (blk_cell BK121.out 4).trans rfl
       have hfz26_0 := blk_frozen BK121.out 0
       have hfz26_1 := blk_frozen BK121.out 1
       have hfz26_2 := blk_frozen BK121.out 2
       have hfz26_3 := blk_frozen BK121.out 3
       have hfz26_4 := blk_frozen BK121.out 4
       have hcz27_0 : wc.cell? ⟨gb120, 0, none⟩ = some (.string a0_0) := (blk_cell BK120.out 0).trans rfl
       have hcz27_1 : wc.cell? ⟨gb120, 1, none⟩ = some (.int .i64 a0_1) := (blk_cell BK120.out 1).trans rfl
       have hcz27_2 : wc.cell? ⟨gb120, 2, none⟩ = some (.int .i64 a0_2) := (blk_cell BK120.out 2).trans rfl
       have hcz27_3 : wc.cell? ⟨gb120, 3, none⟩ = some (.string a0_3) := (blk_cell BK120.out 3).trans rfl
       have hcz27_4 : wc.cell? ⟨gb120, 4, none⟩ = some (.int .i64 a0_4) := (blk_cell BK120.out 4).trans rfl
       have hfz27_0 := blk_frozen BK120.out 0
       have hfz27_1 := blk_frozen BK120.out 1
       have hfz27_2 := blk_frozen BK120.out 2
       have hfz27_3 := blk_frozen BK120.out 3
       have hfz27_4 := blk_frozen BK120.out 4
       go_wp2_with (first | (go_at_call 104; (with_reducible refine (impl_isText.calls kj1 a0_3 t123 _ ?side1 A24.out).mono ?_); (case side1 => exact TabsU.Tabs0.of_below TB.out (by repeat (first | (with_reducible first | exact HB.out | apply jD | apply jE | apply jF | refine below_set ?_ GE120.out | refine below_set ?_ GE121.out) | exact HB.out))); rintro e w28 ⟨rfl, hb⟩; have n0_ := Aside0.mk (blk_below (g := gb120) (o := .cells #[.string a0_0, .int .i64 a0_1, .int .i64 a0_2, .string a0_3, .int .i64 a0_4] 61 (0, 0)) (by (with_reducible repeat first | apply jA | apply jB | apply jC); refine blk_far ?_ NB120_121.out _; (with_reducible repeat first | apply jA | apply jB | apply jC); exact BK120.out) hb); have n1_ := Aside0.mk (blk_below (g := gb121) (o := .cells #[.string (⟨#[]⟩ : ByteArray), .int .i64 0, .int .i64 a0_2, .string (⟨#[]⟩ : ByteArray), .int .i64 a0_4] 61 (0, 0)) (by (with_reducible repeat first | apply jA | apply jB | apply jC); refine blk_put (cs := #[.string (⟨#[]⟩ : ByteArray), .int .i64 0, .int .i64 a0_2, .string a0_3, .int .i64 a0_4]) ?_ 3 _ rfl; (with_reducible repeat first | apply jA | apply jB | apply jC); exact BK121.out) hb); have n2_ := Aside0.mk (below_step (by repeat (first | (with_reducible first | exact HB.out | apply jD | apply jE | apply jF | refine below_set ?_ GE120.out | refine below_set ?_ GE121.out) | exact HB.out)) hb); clear BK120; clear BK121; clear HB; have BK120 := n0_; have BK121 := n1_; have HB := n2_; clear n0_ n1_ n2_; (try clear hb); (try clear hk); (try clear hi)))
       go_ret
       exact ⟨by first | rfl | (simp [errW_none, errW_some] <;> rfl) | (simp [*, errW_none, errW_some] <;> rfl), by repeat (first | (with_reducible first | exact HB.out | apply jD | apply jE | apply jF | refine below_set ?_ GE120.out | refine below_set ?_ GE121.out) | exact HB.out)⟩
      ·rw [if_neg c23] at H
       have c23b0 : ((⟨#[]⟩ : ByteArray).toList == ([] : List UInt8) && (0 == 0 && (a0_2 == 0 && (a0_4 == 0)))) = false := by simpa using c23
       (try (have c23b9 : (a0_2 == 0 && a0_4 == 0) = false := by simpa using c23b0))
       (try (have c23b1 : decide ((⟨#[]⟩ : ByteArray).toList = ([] : List UInt8) && (0 == 0 && (a0_2 == 0 && (a0_4 == 0)))) = false := by simpa using c23))
       (try (have c23b2 : ((⟨#[]⟩ : ByteArray).toList == ([] : List UInt8) && (0 == 0 && (a0_2 == 0 && (a0_4 == 0)))) = false := by simpa using c23))
       (try (have c23b3 : ¬ ((⟨#[]⟩ : ByteArray).toList = ([] : List UInt8) && (0 == 0 && (a0_2 == 0 && (a0_4 == 0)))) := by simpa using c23))
       clear c23
       obtain rfl := Option.some.inj H
       have hnb29 := NB121_120.out
       have hnc29 := NB120_121.out
       have hcz30_0 : wc.cell? ⟨gb121, 0, none⟩ = some (.string (⟨#[]⟩ : ByteArray)) := (blk_cell BK121.out 0).trans rfl
       have hcz30_1 : wc.cell? ⟨gb121, 1, none⟩ = some (.int .i64 0) := (blk_cell BK121.out 1).trans rfl
       have hcz30_2 : wc.cell? ⟨gb121, 2, none⟩ = some (.int .i64 a0_2) := (blk_cell BK121.out 2).trans rfl
       have hcz30_3 : wc.cell? ⟨gb121, 3, none⟩ = some (.string a0_3) := (blk_cell BK121.out 3).trans rfl
       have hcz30_4 : wc.cell? ⟨gb121, 4, none⟩ = some (.int .i64 a0_4) := (blk_cell BK121.out 4).trans rfl
       have hfz30_0 := blk_frozen BK121.out 0
       have hfz30_1 := blk_frozen BK121.out 1
       have hfz30_2 := blk_frozen BK121.out 2
       have hfz30_3 := blk_frozen BK121.out 3
       have hfz30_4 := blk_frozen BK121.out 4
       go_wp2
       go_ret
       exact ⟨by first | rfl | (simp [errW_none, errW_some] <;> rfl) | (simp [*, errW_none, errW_some] <;> rfl), by repeat (first | (with_reducible first | exact HB.out | apply jD | apply jE | apply jF | refine below_set ?_ GE120.out | refine below_set ?_ GE121.out) | exact HB.out)⟩
     ·rw [if_neg c22] at H
      have c22b0 : (a0_1 == 5) = false := beq_eq_false_iff_ne.mpr c22
      have c22b1 : (a0_1 != 5) = true := bne_iff_ne.mpr c22
      by_cases c31 : a0_1 = 6
      ·rw [if_pos c31] at H
       have c31b0 : (a0_1 == 6) = true := beq_iff_eq.mpr c31
       have c31b1 : (a0_1 != 6) = false := bne_eq_false_iff_eq.mpr c31
       clear c31
       obtain rfl := Option.some.inj H
       have hnb32 := NB121_120.out
       have hnc32 := NB120_121.out
       have hcz33_0 : wc.cell? ⟨gb121, 0, none⟩ = some (.string (⟨#[]⟩ : ByteArray)) := (blk_cell BK121.out 0).trans rfl
       have hcz33_1 : wc.cell? ⟨gb121, 1, none⟩ = some (.int .i64 0) := (blk_cell BK121.out 1).trans rfl
       have hcz33_2 : wc.cell? ⟨gb121, 2, none⟩ = some (.int .i64 a0_2) := (blk_cell BK121.out 2).trans rfl
       have hcz33_3 : wc.cell? ⟨gb121, 3, none⟩ = some (.string a0_3) := (blk_cell BK121.out 3).trans rfl
       have hcz33_4 : wc.cell? ⟨gb121, 4, none⟩ = some (.int .i64 a0_4) := (blk_cell BK121.out 4).trans rfl
       have hfz33_0 := blk_frozen BK121.out 0
       have hfz33_1 := blk_frozen BK121.out 1
       have hfz33_2 := blk_frozen BK121.out 2
       have hfz33_3 := blk_frozen BK121.out 3
       have hfz33_4 := blk_frozen BK121.out 4
       go_wp2
       go_ret
       exact ⟨by first | rfl | (simp [errW_none, errW_some] <;> rfl) | (simp [*, errW_none, errW_some] <;> rfl), by repeat (first | (with_reducible first | exact HB.out | apply jD | apply jE | apply jF | refine below_set ?_ GE120.out | refine below_set ?_ GE121.out) | exact HB.out)⟩
      ·rw [if_neg c31] at H
       have c31b0 : (a0_1 == 6) = false := beq_eq_false_iff_ne.mpr c31
       have c31b1 : (a0_1 != 6) = true := bne_iff_ne.mpr c31
       by_cases c34 : a0_1 = 7
       ·rw [if_pos c34] at H
        have c34b0 : (a0_1 == 7) = true := beq_iff_eq.mpr c34
        have c34b1 : (a0_1 != 7) = false := bne_eq_false_iff_eq.mpr c34
        clear c34
        obtain rfl := Option.some.inj H
        have hnb35 := NB121_120.out
        have hnc35 := NB120_121.out
        have hcz36_0 : wc.cell? ⟨gb121, 0, none⟩ = some (.string (⟨#[]⟩ : ByteArray)) := (blk_cell BK121.out 0).trans rfl
        have hcz36_1 : wc.cell? ⟨gb121, 1, none⟩ = some (.int .i64 0) := (blk_cell BK121.out 1).trans rfl
        have hcz36_2 : wc.cell? ⟨gb121, 2, none⟩ = some (.int .i64 a0_2) := (blk_cell BK121.out 2).trans rfl
        have hcz36_3 : wc.cell? ⟨gb121, 3, none⟩ = some (.string a0_3) := (blk_cell BK121.out 3).trans rfl
        have hcz36_4 : wc.cell? ⟨gb121, 4, none⟩ = some (.int .i64 a0_4) := (blk_cell BK121.out 4).trans rfl
        have hfz36_0 := blk_frozen BK121.out 0
        have hfz36_1 := blk_frozen BK121.out 1
        have hfz36_2 := blk_frozen BK121.out 2
        have hfz36_3 := blk_frozen BK121.out 3
        have hfz36_4 := blk_frozen BK121.out 4
        go_wp2
        go_ret
        exact ⟨by first | rfl | (simp [errW_none, errW_some] <;> rfl) | (simp [*, errW_none, errW_some] <;> rfl), by repeat (first | (with_reducible first | exact HB.out | apply jD | apply jE | apply jF | refine below_set ?_ GE120.out | refine below_set ?_ GE121.out) | exact HB.out)⟩
       ·rw [if_neg c34] at H
        have c34b0 : (a0_1 == 7) = false := beq_eq_false_iff_ne.mpr c34
        have c34b1 : (a0_1 != 7) = true := bne_iff_ne.mpr c34
        obtain rfl := Option.some.inj H
        go_wp2
        go_ret
        exact ⟨by first | rfl | (simp [errW_none, errW_some] <;> rfl) | (simp [*, errW_none, errW_some] <;> rfl), by repeat (first | (with_reducible first | exact HB.out | apply jD | apply jE | apply jF | refine below_set ?_ GE120.out | refine below_set ?_ GE121.out) | exact HB.out)⟩

end
end Go.Proofs.YtkfbdopfeacnfaaDoor.PFnFields
