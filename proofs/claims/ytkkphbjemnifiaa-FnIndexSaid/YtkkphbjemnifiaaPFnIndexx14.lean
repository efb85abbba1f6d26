-- Printed for this claim by a changed copy of the kit's printing program (wip/tools/patch_print.py); Lean checks it.
import Derived.Test.YtkkphbjemnifiaaPFnIndexx0
import Derived.Test.YtkkphbjemnifiaaPFnIndexx7
import Derived.Test.YtkkphbjemnifiaaPFnIndexx9
import Derived.Test.YtkkphbjemnifiaaPFnIndexx12
import Derived.Test.YtkkphbjemnifiaaPFnIndexx13
namespace Go.Proofs.Ytkkphbjemnifiaa.PFnIndex
open Go.RowKit Go.Proofs.YtkkphbjemnifiaaW.PrintWords Go.Proofs.YtkkphbjemnifiaaW.PrintLast Go.Proofs.YtkkphbjemnifiaaW.PrintMore
attribute [local go_sem] max2_int min2_int max_two min_two max_three min_three max_four min_four   -- for this text's walks alone
set_option linter.unusedVariables false
set_option linter.unusedSimpArgs false

noncomputable section
/-! ### laws_sameForks: function 39 -/
def laws_sameForks.l0 : Nat → List (S74) → List (S74) → Int → Int → Option (Bool)
 | 0, _, _, _, _ => none
 | k + 1, x1, x13, x14, x15 => if x15 < x14 then (if 0 ≤ x15 then (if x15 < (x13.length : Int) then (if x15 < (x1.length : Int) then (if ((rd_T74 x13 x15).f0).toList = ((rd_T74 x1 x15).f0).toList then (if ((rd_T74 x13 x15).f2) = ((rd_T74 x1 x15).f2) then (if ((rd_T74 x13 x15).f3) = ((rd_T74 x1 x15).f3) then (if ((rd_T74 x13 x15).f4) = ((rd_T74 x1 x15).f4) then ((laws_sameInts.f k ((rd_T74 x13 x15).f1) ((rd_T74 x1 x15).f1)).bind fun t392 => (if t392 = true then (laws_sameForks.l0 k x1 x13 x14 (wrap64 (x15 + 1))) else none)) else none) else none) else none) else none) else (none)) else (none)) else (none)) else (some true)
def laws_sameForks.f (k : Nat) (l0 : List (S74)) (l1 : List (S74)) : Option (Bool) := if (l0.length : Int) = (l1.length : Int) then (laws_sameForks.l0 k l1 l0 (l0.length : Int) 0) else none
theorem laws_sameForks.mono_l : ∀ k, (∀ y0 y1 y2 y3, LeO (laws_sameForks.l0 k y0 y1 y2 y3) (laws_sameForks.l0 (k + 1) y0 y1 y2 y3))
 | 0 => fun _ _ _ _ r h => by simp [laws_sameForks.l0] at h
 | k + 1 => by
  have ih0 := laws_sameForks.mono_l k
  ·intro y0 y1 y2 y3
   unfold laws_sameForks.l0
   repeat' first
   | (with_reducible exact ih0 _ _ _ _)
   | (with_reducible exact laws_sameInts.mono _ _ _)
   | (with_reducible exact LeO.refl _)
   | (with_reducible exact LeO.none _)
   | (with_reducible refine LeO.ite ?_ ?_)
   | (with_reducible refine LeO.bind ?_ (fun _ => ?_))
   | exact LeO.none _
   | refine LeO.ite ?_ ?_
   | refine LeO.bind ?_ (fun _ => ?_)
theorem laws_sameForks.mono : ∀ a0 a1 k, LeO (laws_sameForks.f k a0 a1) (laws_sameForks.f (k + 1) a0 a1) := by
 intro a0 a1 k
 have ih0 := laws_sameForks.mono_l k
 unfold laws_sameForks.f
 repeat' first
   | (with_reducible exact ih0 _ _ _ _)
   | (with_reducible exact laws_sameInts.mono _ _ _)
   | (with_reducible exact LeO.refl _)
   | (with_reducible exact LeO.none _)
   | (with_reducible refine LeO.ite ?_ ?_)
   | (with_reducible refine LeO.bind ?_ (fun _ => ?_))
   | exact LeO.none _
   | refine LeO.ite ?_ ?_
   | refine LeO.bind ?_ (fun _ => ?_)
set_option maxHeartbeats 8000000 in
set_option maxRecDepth 100000 in
theorem laws_sameForks.calls (k : Nat) (A0 : Option Addr) (c0 : Nat) (l0 : List (S74)) (A1 : Option Addr) (c1 : Nat) (l1 : List (S74)) (r : Bool) (w : World) (hr0 : Kd.C k74 w A0 l0.length l0) (hc0 : l0.length ≤ c0) (hr1 : Kd.C k74 w A1 l1.length l1) (hc1 : l1.length ≤ c1) (h : laws_sameForks.f k l0 l1 = some r) :
  Calls Try.prog 39 #[.slice A0 l0.length c0, .slice A1 l1.length c1] w fun e w' => e = .returned (.bool r) ∧ Below w.heap.size w w' := by
 have hu74 := Try.underlying74
 have HR0 := Aside0.mk hr0
 have HC0 := Aside0.mk hc0
 clear hr0 hc0
 have HR1 := Aside0.mk hr1
 have HC1 := Aside0.mk hc1
 clear hr1 hc1
 have HB := Aside0.mk (Below.refl w.heap.size w)
 have H : (if (l0.length : Int) = (l1.length : Int) then (laws_sameForks.l0 k l1 l0 (l0.length : Int) 0) else none) = some r := h
 clear h
 by_cases c3 : (l0.length : Int) = (l1.length : Int)
 ·rw [if_pos c3] at H
  have c3b0 : ((l0.length : Int) == (l1.length : Int)) = true := beq_iff_eq.mpr c3
  have c3b1 : ((l0.length : Int) != (l1.length : Int)) = false := bne_eq_false_iff_eq.mpr c3
  have c3b2 : (l0.length == l1.length) = true := by first | simpa using c3 | (simp at c3 ⊢; omega)
  clear c3
  have H' := Aside0.mk H
  clear H
  go_enter Try.func39, Try.ntmps39
  go_wp2
  go_loopg [15] k (fun kq v15 w' => ∃ (x15_1 : Int), v15 = .int .i64 x15_1 ∧ Aside0 (laws_sameForks.l0 kq l1 l0 (l0.length : Int) x15_1 = some r) ∧ Aside0 (kq ≤ k) ∧ Aside0 (Below w.heap.size w w'))
  case atStart => exact ⟨(0), (by first | rfl | (simp; done) | (simp [*]; done) | (simp; apply Bool.eq_iff_iff.mpr; simp only [bne_iff_ne, ne_eq, beq_iff_eq]; omega)), H', ⟨Nat.le_refl _⟩, ⟨by repeat (first | (with_reducible first | exact HB.out | apply q4_ | apply q5_ | apply q6_) | exact HB.out)⟩⟩
  case round =>
   clear H'
   try clear c1
   try clear p2
   try clear c3
   try clear c3b0
   try clear c3b1
   try clear c3b2
   obtain ⟨x15_1, rfl, HA, HK1, HB⟩ := hrel
   cases gk with
   | zero => exact absurd HA.out (by simp [laws_sameForks.l0])
   | succ k1 =>
    have H := HA.out
    clear HA
    simp only [laws_sameForks.l0] at H
    by_cases c4 : x15_1 < (l0.length : Int)
    ·rw [if_pos c4] at H
     have c4b0 : decide (x15_1 < (l0.length : Int)) = true := decide_eq_true c4
     clear c4
     by_cases c5 : 0 ≤ x15_1
     ·rw [if_pos c5] at H
      have c5b0 : decide (0 ≤ x15_1) = true := decide_eq_true c5
      clear c5
      by_cases c6 : x15_1 < (l0.length : Int)
      ·rw [if_pos c6] at H
       have c6b0 : decide (x15_1 < (l0.length : Int)) = true := decide_eq_true c6
       clear c6
       by_cases c7 : x15_1 < (l1.length : Int)
       ·rw [if_pos c7] at H
        have c7b0 : decide (x15_1 < (l1.length : Int)) = true := decide_eq_true c7
        clear c7
        by_cases c8 : ((rd_T74 l0 x15_1).f0).toList = ((rd_T74 l1 x15_1).f0).toList
        ·rw [if_pos c8] at H
         have c8b0 : (((rd_T74 l0 x15_1).f0).toList == ((rd_T74 l1 x15_1).f0).toList) = true := beq_iff_eq.mpr c8
         have c8b1 : (((rd_T74 l0 x15_1).f0).toList != ((rd_T74 l1 x15_1).f0).toList) = false := bne_eq_false_iff_eq.mpr c8
         clear c8
         by_cases c9 : ((rd_T74 l0 x15_1).f2) = ((rd_T74 l1 x15_1).f2)
         ·rw [if_pos c9] at H
          have c9b0 : (((rd_T74 l0 x15_1).f2) == ((rd_T74 l1 x15_1).f2)) = true := beq_iff_eq.mpr c9
          have c9b1 : (((rd_T74 l0 x15_1).f2) != ((rd_T74 l1 x15_1).f2)) = false := bne_eq_false_iff_eq.mpr c9
          clear c9
          by_cases c10 : ((rd_T74 l0 x15_1).f3) = ((rd_T74 l1 x15_1).f3)
          ·rw [if_pos c10] at H
           have c10b0 : (((rd_T74 l0 x15_1).f3) == ((rd_T74 l1 x15_1).f3)) = true := beq_iff_eq.mpr c10
           have c10b1 : (((rd_T74 l0 x15_1).f3) != ((rd_T74 l1 x15_1).f3)) = false := bne_eq_false_iff_eq.mpr c10
           clear c10
           by_cases c11 : ((rd_T74 l0 x15_1).f4) = ((rd_T74 l1 x15_1).f4)
           ·rw [if_pos c11] at H
            have c11b0 : (((rd_T74 l0 x15_1).f4) == ((rd_T74 l1 x15_1).f4)) = true := beq_iff_eq.mpr c11
            have c11b1 : (((rd_T74 l0 x15_1).f4) != ((rd_T74 l1 x15_1).f4)) = false := bne_eq_false_iff_eq.mpr c11
            clear c11
            replace H := Option.bind_eq_some_iff.mp H
            obtain ⟨t392, A120, H⟩ := H
            replace H : (if t392 = true then (laws_sameForks.l0 k1 l1 l0 (l0.length : Int) (wrap64 (x15_1 + 1))) else none) = some r := H
            have A12 := Aside0.mk A120
            clear A120
            by_cases c13 : t392 = true
            ·subst c13
             have H1 : (laws_sameForks.l0 k1 l1 l0 (l0.length : Int) (wrap64 (x15_1 + 1))) = some r := by rw [if_pos rfl] at H; exact H
             clear H
             have H := H1
             clear H1
             have H' := Aside0.mk H
             clear H
             have p388 : 0 ≤ (x15_1 : Int) := of_decide_eq_true (by first | (with_reducible assumption) | assumption)
             have q388 : x15_1 < (l0.length : Int) := of_decide_eq_true (by first | (with_reducible assumption) | assumption)
             obtain ⟨ad388, A388_1, c388_1, e388, hx388_0, hx388_1, hx388_2, hx388_3, hx388_4, hl388_1, hi388_1⟩ := at_T74 HR0.out x15_1 p388 q388
             cases e388
             replace hx388_0 := (HB.out.cell (World.block_lt_of_cell? w _ hx388_0)).trans hx388_0
             replace hx388_1 := (HB.out.cell (World.block_lt_of_cell? w _ hx388_1)).trans hx388_1
             replace hx388_2 := (HB.out.cell (World.block_lt_of_cell? w _ hx388_2)).trans hx388_2
             replace hx388_3 := (HB.out.cell (World.block_lt_of_cell? w _ hx388_3)).trans hx388_3
             replace hx388_4 := (HB.out.cell (World.block_lt_of_cell? w _ hx388_4)).trans hx388_4
             have HR388_1 := Aside0.mk hi388_1
             have HC388_1 := Aside0.mk hl388_1
             clear hi388_1 hl388_1
             replace p388 := eq_true p388
             replace q388 := eq_true q388
             go_wp2_with (first | ((with_reducible refine gate_dst (N := 6) rfl ?_); refine box_event ?hg (N := 6) ?hd (cs := #[.string (⟨#[]⟩ : ByteArray), .slice none 0 0, .int .i64 0, .int .i64 0, .int .i64 0]) (t := 74) ?hr ?_; (case hd => rfl); (case hg => rfl); (case hr => first | (go_simp; done) | (go_simp; rfl)); intro gb389 hg w14 hbox hb; have n0_ := Aside0.mk (below_step (by repeat first | (with_reducible first | exact HB.out | apply q4_ | apply q5_ | apply q6_) | exact HB.out) hb); have n1_ := Aside0.mk (hbox); have n2_ := Aside0.mk ((by rw [hg]; exact (below_size (by repeat first | (with_reducible first | exact HB.out | apply q4_ | apply q5_ | apply q6_) | exact HB.out)) : w.heap.size ≤ gb389)); have n3_ := Aside0.mk ((by rw [hg]; exact (below_size (by repeat first | (with_reducible first | exact HB.out | apply q4_ | apply q5_ | apply q6_) | exact HB.out)) : w.heap.size ≤ gb389)); clear HB; have HB := n0_; have BK389 := n1_; have GW389 := n2_; have GE389 := n3_; clear n0_ n1_ n2_ n3_; clear hb hbox hg; have hcz15_0 : w14.cell? ⟨gb389, 0, none⟩ = some (.string (⟨#[]⟩ : ByteArray)) := (blk_cell BK389.out 0).trans rfl; have hcz15_1 : w14.cell? ⟨gb389, 1, none⟩ = some (.slice none 0 0) := (blk_cell BK389.out 1).trans rfl; have hcz15_2 : w14.cell? ⟨gb389, 2, none⟩ = some (.int .i64 0) := (blk_cell BK389.out 2).trans rfl; have hcz15_3 : w14.cell? ⟨gb389, 3, none⟩ = some (.int .i64 0) := (blk_cell BK389.out 3).trans rfl; have hcz15_4 : w14.cell? ⟨gb389, 4, none⟩ = some (.int .i64 0) := (blk_cell BK389.out 4).trans rfl; have hfz15_0 := blk_frozen BK389.out 0; have hfz15_1 := blk_frozen BK389.out 1; have hfz15_2 := blk_frozen BK389.out 2; have hfz15_3 := blk_frozen BK389.out 3; have hfz15_4 := blk_frozen BK389.out 4; have p390 : 0 ≤ (x15_1 : Int) := of_decide_eq_true (by first | (with_reducible assumption) | assumption); have q390 : x15_1 < (l1.length : Int) := of_decide_eq_true (by first | (with_reducible assumption) | assumption); obtain ⟨ad390, A390_1, c390_1, e390, hx390_0, hx390_1, hx390_2, hx390_3, hx390_4, hl390_1, hi390_1⟩ := at_T74 HR1.out x15_1 p390 q390; cases e390; have hn390_0 : ad390.block ≠ gb389 := Nat.ne_of_lt (Nat.lt_of_lt_of_le (by have := World.block_lt_of_cell? _ _ hx390_0; first | rwa [add_block] at this | exact this) GW389.out); have hn390_1 : ad390.block ≠ gb389 := Nat.ne_of_lt (Nat.lt_of_lt_of_le (by have := World.block_lt_of_cell? _ _ hx390_0; first | rwa [add_block] at this | exact this) GW389.out); have hn390_2 : ad390.block ≠ gb389 := Nat.ne_of_lt (Nat.lt_of_lt_of_le (by have := World.block_lt_of_cell? _ _ hx390_0; first | rwa [add_block] at this | exact this) GW389.out); have hn390_3 : ad390.block ≠ gb389 := Nat.ne_of_lt (Nat.lt_of_lt_of_le (by have := World.block_lt_of_cell? _ _ hx390_0; first | rwa [add_block] at this | exact this) GW389.out); have hn390_4 : ad390.block ≠ gb389 := Nat.ne_of_lt (Nat.lt_of_lt_of_le (by have := World.block_lt_of_cell? _ _ hx390_0; first | rwa [add_block] at this | exact this) GW389.out); replace hx390_0 := (HB.out.cell (World.block_lt_of_cell? w _ hx390_0)).trans hx390_0; replace hx390_1 := (HB.out.cell (World.block_lt_of_cell? w _ hx390_1)).trans hx390_1; replace hx390_2 := (HB.out.cell (World.block_lt_of_cell? w _ hx390_2)).trans hx390_2; replace hx390_3 := (HB.out.cell (World.block_lt_of_cell? w _ hx390_3)).trans hx390_3; replace hx390_4 := (HB.out.cell (World.block_lt_of_cell? w _ hx390_4)).trans hx390_4; have HR390_1 := Aside0.mk hi390_1; have HC390_1 := Aside0.mk hl390_1; clear hi390_1 hl390_1; replace hx390_0 := (cell_far (p := ⟨gb389, 0, none⟩) (by rw [add_block]; exact hn390_0) (.string ((rd_T74 l0 x15_1).f0))).trans hx390_0; replace hx390_1 := (cell_far (p := ⟨gb389, 0, none⟩) (by rw [add_block]; exact hn390_0) (.string ((rd_T74 l0 x15_1).f0))).trans hx390_1; replace hx390_2 := (cell_far (p := ⟨gb389, 0, none⟩) (by rw [add_block]; exact hn390_0) (.string ((rd_T74 l0 x15_1).f0))).trans hx390_2; replace hx390_3 := (cell_far (p := ⟨gb389, 0, none⟩) (by rw [add_block]; exact hn390_0) (.string ((rd_T74 l0 x15_1).f0))).trans hx390_3; replace hx390_4 := (cell_far (p := ⟨gb389, 0, none⟩) (by rw [add_block]; exact hn390_0) (.string ((rd_T74 l0 x15_1).f0))).trans hx390_4; replace hx390_0 := (cell_far (p := ⟨gb389, 1, none⟩) (by rw [add_block]; exact hn390_1) (.slice A388_1 ((rd_T74 l0 x15_1).f1).length c388_1)).trans hx390_0; replace hx390_1 := (cell_far (p := ⟨gb389, 1, none⟩) (by rw [add_block]; exact hn390_1) (.slice A388_1 ((rd_T74 l0 x15_1).f1).length c388_1)).trans hx390_1; replace hx390_2 := (cell_far (p := ⟨gb389, 1, none⟩) (by rw [add_block]; exact hn390_1) (.slice A388_1 ((rd_T74 l0 x15_1).f1).length c388_1)).trans hx390_2; replace hx390_3 := (cell_far (p := ⟨gb389, 1, none⟩) (by rw [add_block]; exact hn390_1) (.slice A388_1 ((rd_T74 l0 x15_1).f1).length c388_1)).trans hx390_3; replace hx390_4 := (cell_far (p := ⟨gb389, 1, none⟩) (by rw [add_block]; exact hn390_1) (.slice A388_1 ((rd_T74 l0 x15_1).f1).length c388_1)).trans hx390_4; replace hx390_0 := (cell_far (p := ⟨gb389, 2, none⟩) (by rw [add_block]; exact hn390_2) (.int .i64 ((rd_T74 l0 x15_1).f2))).trans hx390_0; replace hx390_1 := (cell_far (p := ⟨gb389, 2, none⟩) (by rw [add_block]; exact hn390_2) (.int .i64 ((rd_T74 l0 x15_1).f2))).trans hx390_1; replace hx390_2 := (cell_far (p := ⟨gb389, 2, none⟩) (by rw [add_block]; exact hn390_2) (.int .i64 ((rd_T74 l0 x15_1).f2))).trans hx390_2; replace hx390_3 := (cell_far (p := ⟨gb389, 2, none⟩) (by rw [add_block]; exact hn390_2) (.int .i64 ((rd_T74 l0 x15_1).f2))).trans hx390_3; replace hx390_4 := (cell_far (p := ⟨gb389, 2, none⟩) (by rw [add_block]; exact hn390_2) (.int .i64 ((rd_T74 l0 x15_1).f2))).trans hx390_4; replace hx390_0 := (cell_far (p := ⟨gb389, 3, none⟩) (by rw [add_block]; exact hn390_3) (.int .i64 ((rd_T74 l0 x15_1).f3))).trans hx390_0; replace hx390_1 := (cell_far (p := ⟨gb389, 3, none⟩) (by rw [add_block]; exact hn390_3) (.int .i64 ((rd_T74 l0 x15_1).f3))).trans hx390_1; replace hx390_2 := (cell_far (p := ⟨gb389, 3, none⟩) (by rw [add_block]; exact hn390_3) (.int .i64 ((rd_T74 l0 x15_1).f3))).trans hx390_2; replace hx390_3 := (cell_far (p := ⟨gb389, 3, none⟩) (by rw [add_block]; exact hn390_3) (.int .i64 ((rd_T74 l0 x15_1).f3))).trans hx390_3; replace hx390_4 := (cell_far (p := ⟨gb389, 3, none⟩) (by rw [add_block]; exact hn390_3) (.int .i64 ((rd_T74 l0 x15_1).f3))).trans hx390_4; replace hx390_0 := (cell_far (p := ⟨gb389, 4, none⟩) (by rw [add_block]; exact hn390_4) (.int .i64 ((rd_T74 l0 x15_1).f4))).trans hx390_0; replace hx390_1 := (cell_far (p := ⟨gb389, 4, none⟩) (by rw [add_block]; exact hn390_4) (.int .i64 ((rd_T74 l0 x15_1).f4))).trans hx390_1; replace hx390_2 := (cell_far (p := ⟨gb389, 4, none⟩) (by rw [add_block]; exact hn390_4) (.int .i64 ((rd_T74 l0 x15_1).f4))).trans hx390_2; replace hx390_3 := (cell_far (p := ⟨gb389, 4, none⟩) (by rw [add_block]; exact hn390_4) (.int .i64 ((rd_T74 l0 x15_1).f4))).trans hx390_3; replace hx390_4 := (cell_far (p := ⟨gb389, 4, none⟩) (by rw [add_block]; exact hn390_4) (.int .i64 ((rd_T74 l0 x15_1).f4))).trans hx390_4; clear hn390_0; clear hn390_1; clear hn390_2; clear hn390_3; clear hn390_4; replace p390 := eq_true p390; replace q390 := eq_true q390) | ((with_reducible refine gate_dst (N := 7) rfl ?_); refine box_event ?hg (N := 7) ?hd (cs := #[.string (⟨#[]⟩ : ByteArray), .slice none 0 0, .int .i64 0, .int .i64 0, .int .i64 0]) (t := 74) ?hr ?_; (case hd => rfl); (case hg => rfl); (case hr => first | (go_simp; done) | (go_simp; rfl)); intro gb391 hg w16 hbox hb; have n0_ := Aside0.mk (blk_below (g := gb389) (o := .cells #[.string ((rd_T74 l0 x15_1).f0), .slice A388_1 ((rd_T74 l0 x15_1).f1).length c388_1, .int .i64 ((rd_T74 l0 x15_1).f2), .int .i64 ((rd_T74 l0 x15_1).f3), .int .i64 ((rd_T74 l0 x15_1).f4)] 74 (0, 0)) (by (with_reducible repeat first | apply q1_ | apply q2_ | apply q3_); refine blk_put (cs := #[.string ((rd_T74 l0 x15_1).f0), .slice A388_1 ((rd_T74 l0 x15_1).f1).length c388_1, .int .i64 ((rd_T74 l0 x15_1).f2), .int .i64 ((rd_T74 l0 x15_1).f3), .int .i64 0]) ?_ 4 _ rfl; (with_reducible repeat first | apply q1_ | apply q2_ | apply q3_); refine blk_put (cs := #[.string ((rd_T74 l0 x15_1).f0), .slice A388_1 ((rd_T74 l0 x15_1).f1).length c388_1, .int .i64 ((rd_T74 l0 x15_1).f2), .int .i64 0, .int .i64 0]) ?_ 3 _ rfl; (with_reducible repeat first | apply q1_ | apply q2_ | apply q3_); refine blk_put (cs := #[.string ((rd_T74 l0 x15_1).f0), .slice A388_1 ((rd_T74 l0 x15_1).f1).length c388_1, .int .i64 0, .int .i64 0, .int .i64 0]) ?_ 2 _ rfl; (with_reducible repeat first | apply q1_ | apply q2_ | apply q3_); refine blk_put (cs := #[.string ((rd_T74 l0 x15_1).f0), .slice none 0 0, .int .i64 0, .int .i64 0, .int .i64 0]) ?_ 1 _ rfl; (with_reducible repeat first | apply q1_ | apply q2_ | apply q3_); refine blk_put (cs := #[.string (⟨#[]⟩ : ByteArray), .slice none 0 0, .int .i64 0, .int .i64 0, .int .i64 0]) ?_ 0 _ rfl; (with_reducible repeat first | apply q1_ | apply q2_ | apply q3_); exact BK389.out) hb); have n1_ := Aside0.mk (below_step (by repeat (first | (with_reducible first | exact HB.out | apply q4_ | apply q5_ | apply q6_ | refine below_set ?_ GE389.out) | exact HB.out)) hb); have n2_ := Aside0.mk (hbox); have n3_ := Aside0.mk ((by rw [hg]; exact (below_size (by repeat (first | (with_reducible first | exact HB.out | apply q4_ | apply q5_ | apply q6_ | refine below_set ?_ GE389.out) | exact HB.out))) : w.heap.size ≤ gb391)); have n4_ := Aside0.mk ((by rw [hg]; exact (below_size (by repeat (first | (with_reducible first | exact HB.out | apply q4_ | apply q5_ | apply q6_ | refine below_set ?_ GE389.out) | exact HB.out))) : w.heap.size ≤ gb391)); have n5_ := Aside0.mk ((by rw [hg]; exact Nat.ne_of_lt (blk_lt (g := gb389) (o := .cells #[.string ((rd_T74 l0 x15_1).f0), .slice A388_1 ((rd_T74 l0 x15_1).f1).length c388_1, .int .i64 ((rd_T74 l0 x15_1).f2), .int .i64 ((rd_T74 l0 x15_1).f3), .int .i64 ((rd_T74 l0 x15_1).f4)] 74 (0, 0)) (by (with_reducible repeat first | apply q1_ | apply q2_ | apply q3_); refine blk_put (cs := #[.string ((rd_T74 l0 x15_1).f0), .slice A388_1 ((rd_T74 l0 x15_1).f1).length c388_1, .int .i64 ((rd_T74 l0 x15_1).f2), .int .i64 ((rd_T74 l0 x15_1).f3), .int .i64 0]) ?_ 4 _ rfl; (with_reducible repeat first | apply q1_ | apply q2_ | apply q3_); refine blk_put (cs := #[.string ((rd_T74 l0 x15_1).f0), .slice A388_1 ((rd_T74 l0 x15_1).f1).length c388_1, .int .i64 ((rd_T74 l0 x15_1).f2), .int .i64 0, .int .i64 0]) ?_ 3 _ rfl; (with_reducible repeat first | apply q1_ | apply q2_ | apply q3_); refine blk_put (cs := #[.string ((rd_T74 l0 x15_1).f0), .slice A388_1 ((rd_T74 l0 x15_1).f1).length c388_1, .int .i64 0, .int .i64 0, .int .i64 0]) ?_ 2 _ rfl; (with_reducible repeat first | apply q1_ | apply q2_ | apply q3_); refine blk_put (cs := #[.string ((rd_T74 l0 x15_1).f0), .slice none 0 0, .int .i64 0, .int .i64 0, .int .i64 0]) ?_ 1 _ rfl; (with_reducible repeat first | apply q1_ | apply q2_ | apply q3_); refine blk_put (cs := #[.string (⟨#[]⟩ : ByteArray), .slice none 0 0, .int .i64 0, .int .i64 0, .int .i64 0]) ?_ 0 _ rfl; (with_reducible repeat first | apply q1_ | apply q2_ | apply q3_); exact BK389.out)) : gb389 ≠ gb391)); have n6_ := Aside0.mk ((by rw [hg]; exact Nat.ne_of_gt (blk_lt (g := gb389) (o := .cells #[.string ((rd_T74 l0 x15_1).f0), .slice A388_1 ((rd_T74 l0 x15_1).f1).length c388_1, .int .i64 ((rd_T74 l0 x15_1).f2), .int .i64 ((rd_T74 l0 x15_1).f3), .int .i64 ((rd_T74 l0 x15_1).f4)] 74 (0, 0)) (by (with_reducible repeat first | apply q1_ | apply q2_ | apply q3_); refine blk_put (cs := #[.string ((rd_T74 l0 x15_1).f0), .slice A388_1 ((rd_T74 l0 x15_1).f1).length c388_1, .int .i64 ((rd_T74 l0 x15_1).f2), .int .i64 ((rd_T74 l0 x15_1).f3), .int .i64 0]) ?_ 4 _ rfl; (with_reducible repeat first | apply q1_ | apply q2_ | apply q3_); refine blk_put (cs := #[.string ((rd_T74 l0 x15_1).f0), .slice A388_1 ((rd_T74 l0 x15_1).f1).length c388_1, .int .i64 ((rd_T74 l0 x15_1).f2), .int .i64 0, .int .i64 0]) ?_ 3 _ rfl; (with_reducible repeat first | apply q1_ | apply q2_ | apply q3_); refine blk_put (cs := #[.string ((rd_T74 l0 x15_1).f0), .slice A388_1 ((rd_T74 l0 x15_1).f1).length c388_1, .int .i64 0, .int .i64 0, .int .i64 0]) ?_ 2 _ rfl; (with_reducible repeat first | apply q1_ | apply q2_ | apply q3_); refine blk_put (cs := #[.string ((rd_T74 l0 x15_1).f0), .slice none 0 0, .int .i64 0, .int .i64 0, .int .i64 0]) ?_ 1 _ rfl; (with_reducible repeat first | apply q1_ | apply q2_ | apply q3_); refine blk_put (cs := #[.string (⟨#[]⟩ : ByteArray), .slice none 0 0, .int .i64 0, .int .i64 0, .int .i64 0]) ?_ 0 _ rfl; (with_reducible repeat first | apply q1_ | apply q2_ | apply q3_); exact BK389.out)) : gb391 ≠ gb389)); clear BK389; clear HB; have BK389 := n0_; have HB := n1_; have BK391 := n2_; have GW391 := n3_; have GE391 := n4_; have NB389_391 := n5_; have NB391_389 := n6_; clear n0_ n1_ n2_ n3_ n4_ n5_ n6_; clear hb hbox hg; have hnb17 := NB391_389.out; have hnc17 := NB389_391.out; have hcz18_0 : w16.cell? ⟨gb391, 0, none⟩ = some (.string (⟨#[]⟩ : ByteArray)) := (blk_cell BK391.out 0).trans rfl; have hcz18_1 : w16.cell? ⟨gb391, 1, none⟩ = some (.slice none 0 0) := (blk_cell BK391.out 1).trans rfl; have hcz18_2 : w16.cell? ⟨gb391, 2, none⟩ = some (.int .i64 0) := (blk_cell BK391.out 2).trans rfl; have hcz18_3 : w16.cell? ⟨gb391, 3, none⟩ = some (.int .i64 0) := (blk_cell BK391.out 3).trans rfl; have hcz18_4 : w16.cell? ⟨gb391, 4, none⟩ = some (.int .i64 0) := (blk_cell BK391.out 4).trans rfl; have hfz18_0 := blk_frozen BK391.out 0; have hfz18_1 := blk_frozen BK391.out 1; have hfz18_2 := blk_frozen BK391.out 2; have hfz18_3 := blk_frozen BK391.out 3; have hfz18_4 := blk_frozen BK391.out 4; have hcz19_0 : w16.cell? ⟨gb389, 0, none⟩ = some (.string ((rd_T74 l0 x15_1).f0)) := (blk_cell BK389.out 0).trans rfl; have hcz19_1 : w16.cell? ⟨gb389, 1, none⟩ = some (.slice A388_1 ((rd_T74 l0 x15_1).f1).length c388_1) := (blk_cell BK389.out 1).trans rfl; have hcz19_2 : w16.cell? ⟨gb389, 2, none⟩ = some (.int .i64 ((rd_T74 l0 x15_1).f2)) := (blk_cell BK389.out 2).trans rfl; have hcz19_3 : w16.cell? ⟨gb389, 3, none⟩ = some (.int .i64 ((rd_T74 l0 x15_1).f3)) := (blk_cell BK389.out 3).trans rfl; have hcz19_4 : w16.cell? ⟨gb389, 4, none⟩ = some (.int .i64 ((rd_T74 l0 x15_1).f4)) := (blk_cell BK389.out 4).trans rfl; have hfz19_0 := blk_frozen BK389.out 0; have hfz19_1 := blk_frozen BK389.out 1; have hfz19_2 := blk_frozen BK389.out 2; have hfz19_3 := blk_frozen BK389.out 3; have hfz19_4 := blk_frozen BK389.out 4) | (go_at_call 44; (with_reducible refine (laws_sameInts.calls k1 _ _ ((rd_T74 l0 x15_1).f1) _ _ ((rd_T74 l1 x15_1).f1) true _ ?side1 ?side2 ?side3 ?side4 A12.out).mono ?_); (case side1 => exact Kd.C_below HR388_1.out (by repeat (first | (with_reducible first | exact HB.out | apply q4_ | apply q5_ | apply q6_ | refine below_set ?_ GE389.out | refine below_set ?_ GE391.out) | exact HB.out))); (case side2 => exact HC388_1.out); (case side3 => exact Kd.C_below HR390_1.out (by repeat (first | (with_reducible first | exact HB.out | apply q4_ | apply q5_ | apply q6_ | refine below_set ?_ GE389.out | refine below_set ?_ GE391.out) | exact HB.out))); (case side4 => exact HC390_1.out); rintro e w' ⟨rfl, ⟨nd, rfl⟩⟩))
             go_roundg k1
             case measure => have := HK1.out; omega
             case rel => exact ⟨(wrap64 (x15_1 + 1)), (by first | rfl | (simp; done) | (simp [*]; done) | (simp; apply Bool.eq_iff_iff.mpr; simp only [bne_iff_ne, ne_eq, beq_iff_eq]; omega)), H', ⟨by have := HK1.out; omega⟩, ⟨by repeat (first | (with_reducible first | exact HB.out | apply q4_ | apply q5_ | apply q6_ | refine below_set ?_ GE389.out | refine below_set ?_ GE391.out) | exact HB.out)⟩⟩
            ·rw [if_neg c13] at H; cases H
           ·rw [if_neg c11] at H; cases H
          ·rw [if_neg c10] at H; cases H
         ·rw [if_neg c9] at H; cases H
        ·rw [if_neg c8] at H; cases H
       ·rw [if_neg c7] at H
        exact absurd H (by simp)
      ·rw [if_neg c6] at H
       exact absurd H (by simp)
     ·rw [if_neg c5] at H
      exact absurd H (by simp)
    ·rw [if_neg c4] at H
     have c4b0 : decide (x15_1 < (l0.length : Int)) = false := decide_eq_false c4
     clear c4
     obtain rfl := Option.some.inj H
     go_wp2
     go_ret
     exact ⟨by first | rfl | (simp [errW_none, errW_some] <;> rfl) | (simp [*, errW_none, errW_some] <;> rfl), by repeat (first | (with_reducible first | exact HB.out | apply q4_ | apply q5_ | apply q6_) | exact HB.out)⟩
 ·rw [if_neg c3] at H; cases H
/-! ### impl_GoodPairs: function 40 -/
def impl_GoodPairs.f (k : Nat) (l0 : List (S51)) : Option (Bool) := (impl_arePairs.f k l0).bind fun t393 => (some t393)
theorem impl_GoodPairs.mono : ∀ a0 k, LeO (impl_GoodPairs.f k a0) (impl_GoodPairs.f (k + 1) a0) := by
 intro a0 k
 unfold impl_GoodPairs.f
 repeat' first
   | (with_reducible exact impl_arePairs.mono _ _)
   | (with_reducible exact LeO.refl _)
   | (with_reducible exact LeO.none _)
   | (with_reducible refine LeO.ite ?_ ?_)
   | (with_reducible refine LeO.bind ?_ (fun _ => ?_))
   | exact LeO.none _
   | refine LeO.ite ?_ ?_
   | refine LeO.bind ?_ (fun _ => ?_)
set_option maxHeartbeats 8000000 in
set_option maxRecDepth 100000 in
theorem impl_GoodPairs.calls (k : Nat) (A0 : Option Addr) (c0 : Nat) (l0 : List (S51)) (r : Bool) (w : World) (hr0 : Kd.C k51 w A0 l0.length l0) (hc0 : l0.length ≤ c0) (h : impl_GoodPairs.f k l0 = some r) :
  Calls Try.prog 40 #[.slice A0 l0.length c0] w fun e w' => e = .returned (.bool r) ∧ Below w.heap.size w w' := by
 have HR0 := Aside0.mk hr0
 have HC0 := Aside0.mk hc0
 clear hr0 hc0
 have HB := Aside0.mk (Below.refl w.heap.size w)
 have H : ((impl_arePairs.f k l0).bind fun t393 => (some t393)) = some r := h
 clear h
 replace H := Option.bind_eq_some_iff.mp H
 obtain ⟨t393, A20, H⟩ := H
 replace H : (some t393) = some r := H
 have A2 := Aside0.mk A20
 clear A20
 obtain rfl := Option.some.inj H
 go_enter Try.func40, Try.ntmps40
 go_wp2_with (first | ((with_reducible refine gate_callee (f := 57) rfl ?_); refine goesL_ (some 4) rfl rfl Try.func57 (by kernel_rfl) rfl #[.slice A0 l0.length c0] rfl (by simp only [List.map_toArray, List.map_cons, List.map_nil] <;> rfl) ?_; (with_reducible refine (impl_arePairs.calls k _ _ l0 t393 _ ?side1 ?side2 A2.out).mono ?_); (case side1 => repeat (first | exact HR0.out | (with_reducible refine Kd.C_alloc ?_ _) | (with_reducible refine Kd.C_drewN ?_ _) | (with_reducible refine Kd.C_drew ?_))); (case side2 => exact HC0.out); rintro e w3 ⟨rfl, hb⟩; refine ⟨_, rfl, ?_⟩; have n0_ := Aside0.mk (below_step (by repeat first | (with_reducible first | exact HB.out | apply q4_ | apply q5_ | apply q6_) | exact HB.out) hb); clear HB; have HB := n0_; clear n0_; (try clear hb); (try clear hk); (try clear hi)))
 go_ret
 exact ⟨by first | rfl | (simp [errW_none, errW_some] <;> rfl) | (simp [*, errW_none, errW_some] <;> rfl), by repeat (first | (with_reducible first | exact HB.out | apply q4_ | apply q5_ | apply q6_) | exact HB.out)⟩
/-! ### laws_has: function 41 -/
def laws_has.l0 : Nat → Int → List Int → Int → Int → Option (Bool)
 | 0, _, _, _, _ => none
 | k + 1, x1, x7, x8, x9 => if x9 < x8 then (if 0 ≤ x9 then (if x9 < (x7.length : Int) then (if (rd x7 x9) = x1 then (some true) else (laws_has.l0 k x1 x7 x8 (wrap64 (x9 + 1)))) else (none)) else (none)) else (some false)
def laws_has.f (k : Nat) (l0 : List Int) (a1 : Int) : Option (Bool) := laws_has.l0 k a1 l0 (l0.length : Int) 0
theorem laws_has.mono_l : ∀ k, (∀ y0 y1 y2 y3, LeO (laws_has.l0 k y0 y1 y2 y3) (laws_has.l0 (k + 1) y0 y1 y2 y3))
 | 0 => fun _ _ _ _ r h => by simp [laws_has.l0] at h
 | k + 1 => by
  have ih0 := laws_has.mono_l k
  ·intro y0 y1 y2 y3
   unfold laws_has.l0
   repeat' first
   | (with_reducible exact ih0 _ _ _ _)
   | (with_reducible exact LeO.refl _)
   | (with_reducible exact LeO.none _)
   | (with_reducible refine LeO.ite ?_ ?_)
   | (with_reducible refine LeO.bind ?_ (fun _ => ?_))
   | exact LeO.none _
   | refine LeO.ite ?_ ?_
   | refine LeO.bind ?_ (fun _ => ?_)
theorem laws_has.mono : ∀ a0 a1 k, LeO (laws_has.f k a0 a1) (laws_has.f (k + 1) a0 a1) := by
 intro a0 a1 k
 have ih0 := laws_has.mono_l k
 unfold laws_has.f
 repeat' first
   | (with_reducible exact ih0 _ _ _ _)
   | (with_reducible exact LeO.refl _)
   | (with_reducible exact LeO.none _)
   | (with_reducible refine LeO.ite ?_ ?_)
   | (with_reducible refine LeO.bind ?_ (fun _ => ?_))
   | exact LeO.none _
   | refine LeO.ite ?_ ?_
   | refine LeO.bind ?_ (fun _ => ?_)
set_option maxHeartbeats 8000000 in
set_option maxRecDepth 100000 in
theorem laws_has.calls (k : Nat) (A0 : Option Addr) (c0 : Nat) (l0 : List Int) (a1 : Int) (r : Bool) (w : World) (hr0 : Kd.C (Kd.int .i64) w A0 l0.length l0) (hc0 : l0.length ≤ c0) (h : laws_has.f k l0 a1 = some r) :
  Calls Try.prog 41 #[.slice A0 l0.length c0, .int .i64 a1] w fun e w' => e = .returned (.bool r) ∧ Drawn0 w w' := by
 have HR0 := Aside0.mk hr0
 have HC0 := Aside0.mk hc0
 clear hr0 hc0
 have H : (laws_has.l0 k a1 l0 (l0.length : Int) 0) = some r := h
 clear h
 have H' := Aside0.mk H
 clear H
 go_enter Try.func41, Try.ntmps41
 go_wp2
 go_loopg [9] k (fun kq v9 w' => ∃ (x9_1 : Int), v9 = .int .i64 x9_1 ∧ Aside0 (laws_has.l0 kq a1 l0 (l0.length : Int) x9_1 = some r) ∧ Aside0 (kq ≤ k) ∧ Drawn0 w w')
 case atStart => exact ⟨(0), (by first | rfl | (simp; done) | (simp [*]; done) | (simp; apply Bool.eq_iff_iff.mpr; simp only [bne_iff_ne, ne_eq, beq_iff_eq]; omega)), H', ⟨Nat.le_refl _⟩, by repeat (first | exact Drawn0.refl _ | apply Drawn0.step)⟩
 case round =>
  clear H'
  try clear p2
  obtain ⟨x9_1, rfl, HA, HK1, ⟨m1, rfl⟩⟩ := hrel
  cases gk with
  | zero => exact absurd HA.out (by simp [laws_has.l0])
  | succ k1 =>
   have H := HA.out
   clear HA
   simp only [laws_has.l0] at H
   by_cases c3 : x9_1 < (l0.length : Int)
   ·rw [if_pos c3] at H
    have c3b0 : decide (x9_1 < (l0.length : Int)) = true := decide_eq_true c3
    clear c3
    by_cases c4 : 0 ≤ x9_1
    ·rw [if_pos c4] at H
     have c4b0 : decide (0 ≤ x9_1) = true := decide_eq_true c4
     clear c4
     by_cases c5 : x9_1 < (l0.length : Int)
     ·rw [if_pos c5] at H
      have c5b0 : decide (x9_1 < (l0.length : Int)) = true := decide_eq_true c5
      clear c5
      by_cases c6 : (rd l0 x9_1) = a1
      ·rw [if_pos c6] at H
       have c6b0 : ((rd l0 x9_1) == a1) = true := beq_iff_eq.mpr c6
       have c6b1 : ((rd l0 x9_1) != a1) = false := bne_eq_false_iff_eq.mpr c6
       clear c6
       obtain rfl := Option.some.inj H
       have p394 : 0 ≤ (x9_1 : Int) := of_decide_eq_true (by first | (with_reducible assumption) | assumption)
       have q394 : x9_1 < (l0.length : Int) := of_decide_eq_true (by first | (with_reducible assumption) | assumption)
       obtain ⟨ad394, e394, hx394_0⟩ := Kd.at_int HR0.out x9_1 p394 q394
       cases e394
       replace p394 := eq_true p394
       replace q394 := eq_true q394
       go_wp2
       go_ret
       exact ⟨by first | rfl | (simp; done) | (simp [*]; done), by repeat (first | exact Drawn0.refl _ | apply Drawn0.step)⟩
      ·rw [if_neg c6] at H
       have c6b0 : ((rd l0 x9_1) == a1) = false := beq_eq_false_iff_ne.mpr c6
       have c6b1 : ((rd l0 x9_1) != a1) = true := bne_iff_ne.mpr c6
       have H' := Aside0.mk H
       clear H
       have p394 : 0 ≤ (x9_1 : Int) := of_decide_eq_true (by first | (with_reducible assumption) | assumption)
       have q394 : x9_1 < (l0.length : Int) := of_decide_eq_true (by first | (with_reducible assumption) | assumption)
       obtain ⟨ad394, e394, hx394_0⟩ := Kd.at_int HR0.out x9_1 p394 q394
       cases e394
       replace p394 := eq_true p394
       replace q394 := eq_true q394
       go_wp2
       go_roundg k1
       case measure => have := HK1.out; omega
       case rel => exact ⟨(wrap64 (x9_1 + 1)), (by first | rfl | (simp; done) | (simp [*]; done) | (simp; apply Bool.eq_iff_iff.mpr; simp only [bne_iff_ne, ne_eq, beq_iff_eq]; omega)), H', ⟨by have := HK1.out; omega⟩, by repeat (first | exact Drawn0.refl _ | apply Drawn0.step)⟩
     ·rw [if_neg c5] at H
      exact absurd H (by simp)
    ·rw [if_neg c4] at H
     exact absurd H (by simp)
   ·rw [if_neg c3] at H
    have c3b0 : decide (x9_1 < (l0.length : Int)) = false := decide_eq_false c3
    clear c3
    obtain rfl := Option.some.inj H
    go_wp2
    go_ret
    exact ⟨by first | rfl | (simp; done) | (simp [*]; done), by repeat (first | exact Drawn0.refl _ | apply Drawn0.step)⟩
/-! ### spec_l1Cur_index10: function 70 -/
def spec_l1Cur_index10.f (k : Nat) (s0_0 : List Int) (s0_1 : Int) (s0_2 : Int) : Option ((List (S74)) × Int × Int) := (spec_l1Cur_pairs10.f k s0_0 s0_1 s0_2).bind fun bt395 => ((spec_IndexOf.f k bt395.1).bind fun bt400 => (if (bt400.1.length : Int) > 0 then ((spec_l1Cur_one.f s0_0 bt395.2.1 bt395.2.2 20).bind fun bt404 => (if bt404.1 = true then ((spec_l1Cur_pick.f s0_0 bt404.2.1 bt404.2.2 (bt400.1.length : Int)).bind fun bt407 => (if 0 ≤ bt407.1 then (if bt407.1 < (bt400.1.length : Int) then (some ((bt400.1.set (bt407.1 : Int).toNat (⟨(rd_T74 bt400.1 bt407.1).f0, (rd_T74 bt400.1 bt407.1).f1, wrap64 (((rd_T74 bt400.1 bt407.1).f2) + 1), (rd_T74 bt400.1 bt407.1).f3, (rd_T74 bt400.1 bt407.1).f4⟩ : S74)), bt407.2.1, bt407.2.2)) else (none)) else (none))) else (some (bt400.1, bt404.2.1, bt404.2.2)))) else (some (bt400.1, bt395.2.1, bt395.2.2))))
theorem spec_l1Cur_index10.mono : ∀ a0 a1 a2 k, LeO (spec_l1Cur_index10.f k a0 a1 a2) (spec_l1Cur_index10.f (k + 1) a0 a1 a2) := by
 intro a0 a1 a2 k
 unfold spec_l1Cur_index10.f
 repeat' first
   | (with_reducible exact spec_IndexOf.mono _ _)
   | (with_reducible exact spec_l1Cur_pairs10.mono _ _ _ _)
   | (with_reducible exact LeO.refl _)
   | (with_reducible exact LeO.none _)
   | (with_reducible refine LeO.ite ?_ ?_)
   | (with_reducible refine LeO.bind ?_ (fun _ => ?_))
   | exact LeO.none _
   | refine LeO.ite ?_ ?_
   | refine LeO.bind ?_ (fun _ => ?_)
set_option maxHeartbeats 8000000 in
set_option maxRecDepth 100000 in
theorem spec_l1Cur_index10.calls (k : Nat) (g : Nat) (s0_0 : List Int) (s0_1 : Int) (s0_2 : Int) (r1 : List (S74)) (r2 : Int) (r3 : Int) (w0 w : World) (hI : IsS87 w0 w g s0_0 s0_1 s0_2) (hB : Below w0.heap.size w0 w) (h : spec_l1Cur_index10.f k s0_0 s0_1 s0_2 = some (r1, r2, r3)) :
  Calls Try.prog 70 #[.pointer (some ⟨g, 0, none⟩)] w fun e w' => ∃ v0_ : Value, e = .returned (v0_) ∧ Kd.S k74 74 w' w.heap.size (fun _ => True) v0_ r1 ∧ IsS87 w0 w' g s0_0 r2 r3 ∧ Below w0.heap.size w0 w' ∧ KeepBut w w' g none := by
 have HI0 := Aside0.mk hI
 have HK := Aside0.mk (KeepBut.refl w g none)
 have HL := Aside0.mk hB.size
 clear hI
 have HW0 := Aside0.mk hB.size
 have HB := Aside0.mk hB
 clear hB
 have H : ((spec_l1Cur_pairs10.f k s0_0 s0_1 s0_2).bind fun bt395 => ((spec_IndexOf.f k bt395.1).bind fun bt400 => (if (bt400.1.length : Int) > 0 then ((spec_l1Cur_one.f s0_0 bt395.2.1 bt395.2.2 20).bind fun bt404 => (if bt404.1 = true then ((spec_l1Cur_pick.f s0_0 bt404.2.1 bt404.2.2 (bt400.1.length : Int)).bind fun bt407 => (if 0 ≤ bt407.1 then (if bt407.1 < (bt400.1.length : Int) then (some ((bt400.1.set (bt407.1 : Int).toNat (⟨(rd_T74 bt400.1 bt407.1).f0, (rd_T74 bt400.1 bt407.1).f1, wrap64 (((rd_T74 bt400.1 bt407.1).f2) + 1), (rd_T74 bt400.1 bt407.1).f3, (rd_T74 bt400.1 bt407.1).f4⟩ : S74)), bt407.2.1, bt407.2.2)) else (none)) else (none))) else (some (bt400.1, bt404.2.1, bt404.2.2)))) else (some (bt400.1, bt395.2.1, bt395.2.2))))) = some (r1, r2, r3) := h
 clear h
 replace H := Option.bind_eq_some_iff.mp H
 obtain ⟨⟨t395, t398, t399⟩, A20, H⟩ := H
 replace H : ((spec_IndexOf.f k t395).bind fun bt400 => (if (bt400.1.length : Int) > 0 then ((spec_l1Cur_one.f s0_0 t398 t399 20).bind fun bt404 => (if bt404.1 = true then ((spec_l1Cur_pick.f s0_0 bt404.2.1 bt404.2.2 (bt400.1.length : Int)).bind fun bt407 => (if 0 ≤ bt407.1 then (if bt407.1 < (bt400.1.length : Int) then (some ((bt400.1.set (bt407.1 : Int).toNat (⟨(rd_T74 bt400.1 bt407.1).f0, (rd_T74 bt400.1 bt407.1).f1, wrap64 (((rd_T74 bt400.1 bt407.1).f2) + 1), (rd_T74 bt400.1 bt407.1).f3, (rd_T74 bt400.1 bt407.1).f4⟩ : S74)), bt407.2.1, bt407.2.2)) else (none)) else (none))) else (some (bt400.1, bt404.2.1, bt404.2.2)))) else (some (bt400.1, t398, t399)))) = some (r1, r2, r3) := H
 have A2 := Aside0.mk A20
 clear A20
 replace H := Option.bind_eq_some_iff.mp H
 obtain ⟨⟨t400, t401⟩, A30, H⟩ := H
 replace H : (if (t400.length : Int) > 0 then ((spec_l1Cur_one.f s0_0 t398 t399 20).bind fun bt404 => (if bt404.1 = true then ((spec_l1Cur_pick.f s0_0 bt404.2.1 bt404.2.2 (t400.length : Int)).bind fun bt407 => (if 0 ≤ bt407.1 then (if bt407.1 < (t400.length : Int) then (some ((t400.set (bt407.1 : Int).toNat (⟨(rd_T74 t400 bt407.1).f0, (rd_T74 t400 bt407.1).f1, wrap64 (((rd_T74 t400 bt407.1).f2) + 1), (rd_T74 t400 bt407.1).f3, (rd_T74 t400 bt407.1).f4⟩ : S74)), bt407.2.1, bt407.2.2)) else (none)) else (none))) else (some (t400, bt404.2.1, bt404.2.2)))) else (some (t400, t398, t399))) = some (r1, r2, r3) := H
 have A3 := Aside0.mk A30
 clear A30
 by_cases c4 : (t400.length : Int) > 0
 ·rw [if_pos c4] at H
  have c4b0 : decide (0 < (t400.length : Int)) = true := decide_eq_true c4
  have c4b1 : decide (0 < t400.length) = true := decide_eq_true (by omega)
  clear c4
  replace H := Option.bind_eq_some_iff.mp H
  obtain ⟨⟨t404, t405, t406⟩, A50, H⟩ := H
  replace H : (if t404 = true then ((spec_l1Cur_pick.f s0_0 t405 t406 (t400.length : Int)).bind fun bt407 => (if 0 ≤ bt407.1 then (if bt407.1 < (t400.length : Int) then (some ((t400.set (bt407.1 : Int).toNat (⟨(rd_T74 t400 bt407.1).f0, (rd_T74 t400 bt407.1).f1, wrap64 (((rd_T74 t400 bt407.1).f2) + 1), (rd_T74 t400 bt407.1).f3, (rd_T74 t400 bt407.1).f4⟩ : S74)), bt407.2.1, bt407.2.2)) else (none)) else (none))) else (some (t400, t405, t406))) = some (r1, r2, r3) := H
  have A5 := Aside0.mk A50
  clear A50
  by_cases c6 : t404 = true
  ·subst c6
   have H1 : ((spec_l1Cur_pick.f s0_0 t405 t406 (t400.length : Int)).bind fun bt407 => (if 0 ≤ bt407.1 then (if bt407.1 < (t400.length : Int) then (some ((t400.set (bt407.1 : Int).toNat (⟨(rd_T74 t400 bt407.1).f0, (rd_T74 t400 bt407.1).f1, wrap64 (((rd_T74 t400 bt407.1).f2) + 1), (rd_T74 t400 bt407.1).f3, (rd_T74 t400 bt407.1).f4⟩ : S74)), bt407.2.1, bt407.2.2)) else (none)) else (none))) = some (r1, r2, r3) := by rw [if_pos rfl] at H; exact H
   clear H
   have H := H1
   clear H1
   replace H := Option.bind_eq_some_iff.mp H
   obtain ⟨⟨t407, t408, t409⟩, A70, H⟩ := H
   replace H : (if 0 ≤ t407 then (if t407 < (t400.length : Int) then (some ((t400.set (t407 : Int).toNat (⟨(rd_T74 t400 t407).f0, (rd_T74 t400 t407).f1, wrap64 (((rd_T74 t400 t407).f2) + 1), (rd_T74 t400 t407).f3, (rd_T74 t400 t407).f4⟩ : S74)), t408, t409)) else (none)) else (none)) = some (r1, r2, r3) := H
   have A7 := Aside0.mk A70
   clear A70
   by_cases c8 : 0 ≤ t407
   ·rw [if_pos c8] at H
    have c8b0 : decide (0 ≤ t407) = true := decide_eq_true c8
    clear c8
    by_cases c9 : t407 < (t400.length : Int)
    ·rw [if_pos c9] at H
     have c9b0 : decide (t407 < (t400.length : Int)) = true := decide_eq_true c9
     clear c9
     obtain ⟨y411, hy411⟩ : ∃ y_ : List (S74), y_ = (t400.set (t407 : Int).toNat (⟨(rd_T74 t400 t407).f0, (rd_T74 t400 t407).f1, wrap64 (((rd_T74 t400 t407).f2) + 1), (rd_T74 t400 t407).f3, (rd_T74 t400 t407).f4⟩ : S74)) := ⟨_, rfl⟩
     replace H : (some (y411, t408, t409)) = some (r1, r2, r3) := by first | (rw [hy411]; with_reducible exact H) | (have H2_ := (Option.bind_some _ _).symm.trans H; rw [hy411]; with_reducible exact H2_) | (have H2_ := (Option.bind_some _ _).symm.trans H; with_reducible exact H2_) | with_reducible exact H | (rw [hy411]; exact H) | exact H
     have Ny411 := Aside0.mk hy411
     clear hy411
     simp only [Option.some.injEq, Prod.mk.injEq] at H
     obtain ⟨rfl, rfl, rfl⟩ := H
     go_enter Try.func70, Try.ntmps70
     go_wp2_with (first | ((with_reducible refine gate_callee (f := 96) rfl ?_); refine goesL_ (some 8) rfl rfl Try.func96 (by kernel_rfl) rfl #[.pointer (some ⟨g, 0, none⟩)] rfl (by simp only [List.map_toArray, List.map_cons, List.map_nil] <;> rfl) ?_; (with_reducible refine (spec_l1Cur_pairs10.calls k g s0_0 s0_1 s0_2 t395 t398 t399 w0 _ ?side1 ?side2 A2.out).mono ?_); (case side1 => repeat (first | (with_reducible first | exact HI0.out | apply IsS87.alloc | apply IsS87.drewN | apply IsS87.drew | apply IsS87.set_1 | apply IsS87.set_2) | exact HI0.out)); (case side2 => repeat (first | (with_reducible first | exact HB.out | apply q4_ | apply q5_ | apply q6_ | refine below_set ?_ (IsS87.ge HI0.out)) | exact HB.out)); rintro e w11 ⟨v396, rfl, ho0, hi, hb, hk⟩; refine ⟨_, rfl, ?_⟩; have n0_ := Aside0.mk (Kd.R_lower ho0 (keep_size (w := w) (g := g) (row := none) (by repeat (first | (with_reducible first | exact HK.out | apply KeepBut.set_ | apply keep_drewN | apply keep_drew | apply keep_alloc) | exact HK.out)))); have n1_ := Aside0.mk (KeepBut.trans (by repeat (first | (with_reducible first | exact HK.out | apply KeepBut.set_ | apply keep_drewN | apply keep_drew | apply keep_alloc) | exact HK.out)) hk (.inl rfl)); have n2_ := Aside0.mk (hb); have n3_ := Aside0.mk (hi); clear HK; clear HB; clear HI0; have HO397 := n0_; have HK := n1_; have HB := n2_; have HI0 := n3_; clear n0_ n1_ n2_ n3_; (try clear hb); (try clear hk); (try clear hi); (try clear ho0); obtain ⟨Ao12, co12, eo12⟩ := Kd.R_slice HO397.out; subst eo12) | ((with_reducible refine gate_callee (f := 17) rfl ?_); refine goesL_ (some 9) rfl rfl Try.func17 (by kernel_rfl) rfl #[.slice Ao12 t395.length co12] rfl (by simp only [List.map_toArray, List.map_cons, List.map_nil] <;> rfl) ?_; (with_reducible refine (spec_IndexOf.calls k _ _ t395 t400 t401 _ ?side1 ?side2 A3.out).mono ?_); (case side1 => repeat (first | exact (Kd.R_reads' HO397.out).2.2 | (with_reducible refine Kd.C_alloc ?_ _) | (with_reducible refine Kd.C_drewN ?_ _) | (with_reducible refine Kd.C_drew ?_))); (case side2 => exact (Kd.R_reads' HO397.out).2.1); rintro e w13 ⟨v402, rfl, ho0, hb⟩; refine ⟨_, rfl, ?_⟩; have n0_ := Aside0.mk (Kd.R_below (by (with_reducible repeat (first | apply Kd.R_alloc | apply Kd.R_drewN | apply Kd.R_drew)); exact HO397.out) hb); have n1_ := Aside0.mk (Kd.S_lower ho0 (keep_size (w := w) (g := g) (row := none) (by repeat (first | (with_reducible first | exact HK.out | apply KeepBut.set_ | apply keep_drewN | apply keep_drew | apply keep_alloc) | exact HK.out)))); have n2_ := Aside0.mk (IsS87.below (by repeat (first | (with_reducible first | exact HI0.out | apply IsS87.alloc | apply IsS87.drewN | apply IsS87.drew | apply IsS87.set_1 | apply IsS87.set_2) | exact HI0.out)) hb); have n3_ := Aside0.mk (KeepBut.trans (by repeat (first | (with_reducible first | exact HK.out | apply KeepBut.set_ | apply keep_drewN | apply keep_drew | apply keep_alloc) | exact HK.out)) (KeepBut.of_below hb g none) (.inl rfl)); have n4_ := Aside0.mk (below_step (by repeat (first | (with_reducible first | exact HB.out | apply q4_ | apply q5_ | apply q6_ | refine below_set ?_ (IsS87.ge HI0.out)) | exact HB.out)) hb); clear HO397; clear HI0; clear HK; clear HB; have HO397 := n0_; have HO403 := n1_; have HI0 := n2_; have HK := n3_; have HB := n4_; clear n0_ n1_ n2_ n3_ n4_; (try clear hb); (try clear hk); (try clear hi); (try clear ho0); obtain ⟨Ao14, co14, eo14⟩ := Kd.S_slice HO403.out; subst eo14) | (go_at_call 74; (with_reducible refine (spec_l1Cur_one.calls g s0_0 t398 t399 20 true t405 t406 w0 _ ?side1 ?side2 A5.out).mono ?_); (case side1 => repeat (first | (with_reducible first | exact HI0.out | apply IsS87.alloc | apply IsS87.drewN | apply IsS87.drew | apply IsS87.set_1 | apply IsS87.set_2) | exact HI0.out)); (case side2 => repeat (first | (with_reducible first | exact HB.out | apply q4_ | apply q5_ | apply q6_ | refine below_set ?_ (IsS87.ge HI0.out)) | exact HB.out)); rintro e w15 ⟨rfl, hi, hb, hk⟩; have n0_ := Aside0.mk (Kd.R_mono (Kd.R_keep (IsS87.apart (show IsS87 w0 _ g s0_0 t398 t399 from by repeat (first | (with_reducible first | exact HI0.out | apply IsS87.alloc | apply IsS87.drewN | apply IsS87.drew | apply IsS87.set_1 | apply IsS87.set_2) | exact HI0.out)) (by (with_reducible repeat (first | apply Kd.R_alloc | apply Kd.R_drewN | apply Kd.R_drew)); exact HO397.out) (by decide)) hk (fun _ h => h.2)) (fun _ h => h.1)); have n1_ := Aside0.mk (Kd.S_mono (Kd.S_keep (IsS87.apartS (show IsS87 w0 _ g s0_0 t398 t399 from by repeat (first | (with_reducible first | exact HI0.out | apply IsS87.alloc | apply IsS87.drewN | apply IsS87.drew | apply IsS87.set_1 | apply IsS87.set_2) | exact HI0.out)) (by (with_reducible repeat (first | apply Kd.S_alloc | apply Kd.S_drewN | apply Kd.S_drew)); exact HO403.out) (by decide)) hk (fun _ h => h.2)) (fun _ h => h.1)); have n2_ := Aside0.mk (KeepBut.trans (by repeat (first | (with_reducible first | exact HK.out | apply KeepBut.set_ | apply keep_drewN | apply keep_drew | apply keep_alloc) | exact HK.out)) hk (.inl rfl)); have n3_ := Aside0.mk (hb); have n4_ := Aside0.mk (hi); clear HO397; clear HO403; clear HK; clear HB; clear HI0; have HO397 := n0_; have HO403 := n1_; have HK := n2_; have HB := n3_; have HI0 := n4_; clear n0_ n1_ n2_ n3_ n4_; (try clear hb); (try clear hk); (try clear hi)) | ((with_reducible refine gate_callee (f := 72) rfl ?_); refine goesL_ (some 22) rfl rfl Try.func72 (by kernel_rfl) rfl #[.pointer (some ⟨g, 0, none⟩), .int .i64 (t400.length : Int)] rfl (by simp only [List.map_toArray, List.map_cons, List.map_nil] <;> rfl) ?_; (with_reducible refine (spec_l1Cur_pick.calls g s0_0 t405 t406 (t400.length : Int) t407 t408 t409 w0 _ ?side1 ?side2 A7.out).mono ?_); (case side1 => repeat (first | (with_reducible first | exact HI0.out | apply IsS87.alloc | apply IsS87.drewN | apply IsS87.drew | apply IsS87.set_1 | apply IsS87.set_2) | exact HI0.out)); (case side2 => repeat (first | (with_reducible first | exact HB.out | apply q4_ | apply q5_ | apply q6_ | refine below_set ?_ (IsS87.ge HI0.out)) | exact HB.out)); rintro e w16 ⟨rfl, hi, hb, hk⟩; refine ⟨_, rfl, ?_⟩; have n0_ := Aside0.mk (Kd.R_mono (Kd.R_keep (IsS87.apart (show IsS87 w0 _ g s0_0 t405 t406 from by repeat (first | (with_reducible first | exact HI0.out | apply IsS87.alloc | apply IsS87.drewN | apply IsS87.drew | apply IsS87.set_1 | apply IsS87.set_2) | exact HI0.out)) (by (with_reducible repeat (first | apply Kd.R_alloc | apply Kd.R_drewN | apply Kd.R_drew)); exact HO397.out) (by decide)) hk (fun _ h => h.2)) (fun _ h => h.1)); have n1_ := Aside0.mk (Kd.S_mono (Kd.S_keep (IsS87.apartS (show IsS87 w0 _ g s0_0 t405 t406 from by repeat (first | (with_reducible first | exact HI0.out | apply IsS87.alloc | apply IsS87.drewN | apply IsS87.drew | apply IsS87.set_1 | apply IsS87.set_2) | exact HI0.out)) (by (with_reducible repeat (first | apply Kd.S_alloc | apply Kd.S_drewN | apply Kd.S_drew)); exact HO403.out) (by decide)) hk (fun _ h => h.2)) (fun _ h => h.1)); have n2_ := Aside0.mk (KeepBut.trans (by repeat (first | (with_reducible first | exact HK.out | apply KeepBut.set_ | apply keep_drewN | apply keep_drew | apply keep_alloc) | exact HK.out)) hk (.inl rfl)); have n3_ := Aside0.mk (hb); have n4_ := Aside0.mk (hi); clear HO397; clear HO403; clear HK; clear HB; clear HI0; have HO397 := n0_; have HO403 := n1_; have HK := n2_; have HB := n3_; have HI0 := n4_; clear n0_ n1_ n2_ n3_ n4_; (try clear hb); (try clear hk); (try clear hi); have p410 : 0 ≤ (t407 : Int) := of_decide_eq_true (by first | (with_reducible assumption) | assumption); have q410 : t407 < (t400.length : Int) := of_decide_eq_true (by first | (with_reducible assumption) | assumption); obtain ⟨ad410, A410_1, c410_1, e410, hx410_0, hx410_1, hx410_2, hx410_3, hx410_4, hl410_1, hi410_1⟩ := at_T74 (Kd.S_reads' HO403.out).2.2 t407 p410 q410; cases e410; obtain ⟨ce410, hce410, hMe410, hcc410⟩ := Kd.S_get HO403.out z74 t407 p410 (by first | exact q410 | exact of_decide_eq_true (by first | (with_reducible assumption) | assumption) | (have e_ := (Kd.S_reads' HO403.out).1; omega)); obtain ⟨ve410_1, rfl, ge410_1⟩ := k74_openM hMe410; have hv410_1 := hcc410 1 _ rfl; rw [add_field _ _ 1 (by omega)] at hv410_1; replace hv410_1 := Option.some.inj (hv410_1.symm.trans hx410_1); rw [hv410_1] at ge410_1; have HL410_1 := Aside0.mk (show Kd.R (Kd.int .i64) 3 _ _ _ _ ((rd_T74 t400 t407).f1) from ge410_1); clear hv410_1 ge410_1; clear hcc410 hce410; have HR410_1 := Aside0.mk hi410_1; have HC410_1 := Aside0.mk hl410_1; clear hi410_1 hl410_1; replace p410 := eq_true p410; replace q410 := eq_true q410; have p10 : 0 ≤ (t407 : Int) := of_decide_eq_true (by first | (with_reducible assumption) | assumption); have q10 : (t407 : Int) < ((t400.length : Int) : Int) := of_decide_eq_true (by first | (with_reducible assumption) | assumption); obtain ⟨go10, co10, eo10, gb10, gl10, cl10, HG10⟩ := Kd.S_form HO403.out (by omega); (first | cases eo10 | (injection eo10 with ea_ en_ ec_; (first | subst ea_ | (injection ea_ with ea_; subst ea_)); subst ec_; clear en_)); have GB10 := Aside0.mk gb10; have GG10 := Aside0.mk HG10; clear gb10 gl10 HG10; (first | simp only [add_plain] at hx410_0 | skip); (first | simp only [add_plain] at hx410_1 | skip); (first | simp only [add_plain] at hx410_2 | skip); (first | simp only [add_plain] at hx410_3 | skip); (first | simp only [add_plain] at hx410_4 | skip); obtain ⟨_, ce10, hcl10, hM10, hcc10, hfr10, _, _⟩ := Kd.S_elem HO403.out z74 (t407 : Int) p10 q10; obtain ⟨ve10_1, rfl, ge10_1⟩ := k74_openM hM10; have hx10_0 : w16.cell? ⟨go10, (t407 : Int).toNat * 5, none⟩ = some (.string ((rd_T74 t400 t407).f0)) := hcc10 0 _ rfl; have hx10_1 : w16.cell? ⟨go10, (t407 : Int).toNat * 5 + 1, none⟩ = some (ve10_1) := hcc10 1 _ rfl; have hx10_2 : w16.cell? ⟨go10, (t407 : Int).toNat * 5 + 2, none⟩ = some (.int .i64 ((rd_T74 t400 t407).f2)) := hcc10 2 _ rfl; have hx10_3 : w16.cell? ⟨go10, (t407 : Int).toNat * 5 + 3, none⟩ = some (.int .i64 ((rd_T74 t400 t407).f3)) := hcc10 3 _ rfl; have hx10_4 : w16.cell? ⟨go10, (t407 : Int).toNat * 5 + 4, none⟩ = some (.int .i64 ((rd_T74 t400 t407).f4)) := hcc10 4 _ rfl; have hf10_0 : w16.frozen? ⟨go10, (t407 : Int).toNat * 5, none⟩ = false := hfr10 0; have hf10_1 : w16.frozen? ⟨go10, (t407 : Int).toNat * 5 + 1, none⟩ = false := hfr10 1; have hf10_2 : w16.frozen? ⟨go10, (t407 : Int).toNat * 5 + 2, none⟩ = false := hfr10 2; have hf10_3 : w16.frozen? ⟨go10, (t407 : Int).toNat * 5 + 3, none⟩ = false := hfr10 3; have hf10_4 : w16.frozen? ⟨go10, (t407 : Int).toNat * 5 + 4, none⟩ = false := hfr10 4; clear hcl10 hcc10 hfr10 hM10; replace p10 := eq_true p10; replace q10 := eq_true q10; have HX17 := Aside0.mk (show Kd.S k74 74 w16 w.heap.size (fun k_ => ((fun _ => True)) k_ ∧ ¬ ((fun _ => False)) k_) (.slice (some ⟨go10, 0, none⟩) t400.length co14) t400 from (by (with_reducible repeat (first | apply Kd.S_alloc | apply Kd.S_drewN | apply Kd.S_drew)); exact Kd.S_mono HO403.out (fun k_ hk => ⟨trivial, fun e_ => e_⟩))); obtain ⟨oki17, ce17, hcl17, hM17, hcc17, hfr17, hoki17, hH17⟩ := Kd.S_elem HX17.out z74 (t407 : Int) (of_decide_eq_true (by first | (with_reducible assumption) | assumption)) (by have h_ : (t407 : Int) < ((t400.length : Int) : Int) := of_decide_eq_true (by first | (with_reducible assumption) | assumption); first | exact h_ | (have e_ := (Kd.S_reads' HO403.out).1; omega) | simpa using h_); obtain ⟨ve17_1, rfl, ge17_1⟩ := k74_openM hM17; have HP17 := Kd.S_seg hH17 (of_decide_eq_true (by first | (with_reducible assumption) | assumption)) (by have h_ : (t407 : Int) < ((t400.length : Int) : Int) := of_decide_eq_true (by first | (with_reducible assumption) | assumption); first | exact h_ | (have e_ := (Kd.S_reads' HO403.out).1; omega) | simpa using h_) (seg := [.int .i64 (wrap64 (((rd_T74 t400 t407).f2) + 1))]) (j := 2) (show 3 ≤ 5 from by decide) (x' := (⟨(rd_T74 t400 t407).f0, (rd_T74 t400 t407).f1, wrap64 (((rd_T74 t400 t407).f2) + 1), (rd_T74 t400 t407).f3, (rd_T74 t400 t407).f4⟩ : S74)) (k74_mkM _ _ _ (⟨(rd_T74 t400 t407).f0, (rd_T74 t400 t407).f1, wrap64 (((rd_T74 t400 t407).f2) + 1), (rd_T74 t400 t407).f3, (rd_T74 t400 t407).f4⟩ : S74) (Kd.R_mono ge17_1 (fun _ h_ => Or.inl h_))) (fun _ hk => hk) (fun k_ hk_ => hk_.elim); have hx17_2 := hcc17 2 _ rfl; (try simp only [show (k74).sz = 5 from rfl, Nat.mul_one, Nat.add_zero] at hx17_2); have hf17_2 := hfr17 2; (try simp only [show (k74).sz = 5 from rfl, Nat.mul_one, Nat.add_zero] at hf17_2); clear hcl17 hcc17 hfr17 hM17 hoki17 hH17) | ((with_reducible refine gate_store (t := 3) (p := 30) rfl ?_); refine store_event (t := 3) (p := 30) (v := ?vo_w18) (w1 := (w16.setCell ⟨go10, (t407 : Int).toNat * 5 + 2, none⟩ (.int .i64 (wrap64 (((rd_T74 t400 t407).f2) + 1))))) ?hg ?ho ?hn ?hr ?_; (case ho => rfl); (case hg => rfl); (case hn => rfl); (case hr => first | (go_simp; done) | (go_simp; rfl)); intro w18 hw; have hg : w16.grownBy w18 (some go10) := (by rw [hw]; exact HP17.2); have hp_ : Kd.S k74 74 w18 w.heap.size (fun _ => True) (.slice (some ⟨go10, 0, none⟩) t400.length co14) y411 := (by rw [hw, Ny411.out]; exact HP17.1); clear HP17; have n0_ := Aside0.mk (IsS87.grown (by repeat (first | (with_reducible first | exact HI0.out | apply IsS87.alloc | apply IsS87.drewN | apply IsS87.drew | apply IsS87.set_1 | apply IsS87.set_2) | exact HI0.out)) hg (IsS87.own_neS HI0.out HO403.out (by decide))); have n1_ := Aside0.mk (Kd.R_over' (v := (.slice (some ⟨go10, 0, none⟩) t400.length co14)) (by (with_reducible repeat (first | apply Kd.R_alloc | apply Kd.R_drewN | apply Kd.R_drew)); exact HO397.out) (Kd.S_typed HO403.out) (by decide) hg); have n2_ := Aside0.mk (hp_); have n3_ := Aside0.mk (Kd.R_after (v := (.slice (some ⟨go10, 0, none⟩) t400.length co14)) (v1 := (.slice (some ⟨go10, 0, none⟩) t400.length co14)) (ok := (fun _ => True)) (by (with_reducible repeat (first | apply Kd.R_alloc | apply Kd.R_drewN | apply Kd.R_drew)); exact HL410_1.out) hg (.inl rfl)); have n4_ := Aside0.mk ((by rw [hw]; exact below_set (HB.out) (Nat.le_trans HL.out GB10.out) : Below w0.heap.size w0 w18)); have n5_ := Aside0.mk (KeepBut.trans (by repeat (first | (with_reducible first | exact HK.out | apply KeepBut.set_ | apply keep_drewN | apply keep_drew | apply keep_alloc) | exact HK.out)) (KeepBut.of_grown hg g) (Kd.S_base2 HO403.out)); clear HI0; clear HO397; clear HO403; clear HL410_1; clear HB; clear HK; have HI0 := n0_; have HO397 := n1_; have HO403 := n2_; have HL410_1 := n3_; have HB := n4_; have HK := n5_; clear n0_ n1_ n2_ n3_ n4_ n5_; clear hg hw hp_))
     go_ret
     exact ⟨_, by first | rfl | (simp [errW_none, errW_some] <;> rfl) | (simp [*, errW_none, errW_some] <;> rfl), by (with_reducible repeat (first | apply Kd.S_alloc | apply Kd.S_drewN | apply Kd.S_drew)); exact HO403.out, by repeat (first | (with_reducible first | exact HI0.out | apply IsS87.alloc | apply IsS87.drewN | apply IsS87.drew | apply IsS87.set_1 | apply IsS87.set_2) | exact HI0.out), by repeat (first | (with_reducible first | exact HB.out | apply q4_ | apply q5_ | apply q6_ | refine below_set ?_ (IsS87.ge HI0.out)) | exact HB.out), by repeat (first | (with_reducible first | exact HK.out | apply KeepBut.set_ | apply keep_drewN | apply keep_drew | apply keep_alloc) | exact HK.out)⟩
    ·rw [if_neg c9] at H
     exact absurd H (by simp)
   ·rw [if_neg c8] at H
    exact absurd H (by simp)
  ·replace c6 := Bool.eq_false_iff.mpr c6
   subst c6
   have H1 : (some (t400, t405, t406)) = some (r1, r2, r3) := by rw [if_neg (show ¬ (false = true) by decide)] at H; exact H
   clear H
   have H := H1
   clear H1
   simp only [Option.some.injEq, Prod.mk.injEq] at H
   obtain ⟨rfl, rfl, rfl⟩ := H
   go_enter Try.func70, Try.ntmps70
   go_wp2_with (first | ((with_reducible refine gate_callee (f := 96) rfl ?_); refine goesL_ (some 8) rfl rfl Try.func96 (by kernel_rfl) rfl #[.pointer (some ⟨g, 0, none⟩)] rfl (by simp only [List.map_toArray, List.map_cons, List.map_nil] <;> rfl) ?_; (with_reducible refine (spec_l1Cur_pairs10.calls k g s0_0 s0_1 s0_2 t395 t398 t399 w0 _ ?side1 ?side2 A2.out).mono ?_); (case side1 => repeat (first | (with_reducible first | exact HI0.out | apply IsS87.alloc | apply IsS87.drewN | apply IsS87.drew | apply IsS87.set_1 | apply IsS87.set_2) | exact HI0.out)); (case side2 => repeat (first | (with_reducible first | exact HB.out | apply q4_ | apply q5_ | apply q6_ | refine below_set ?_ (IsS87.ge HI0.out)) | exact HB.out)); rintro e w19 ⟨v396, rfl, ho0, hi, hb, hk⟩; refine ⟨_, rfl, ?_⟩; have n0_ := Aside0.mk (Kd.R_lower ho0 (keep_size (w := w) (g := g) (row := none) (by repeat (first | (with_reducible first | exact HK.out | apply KeepBut.set_ | apply keep_drewN | apply keep_drew | apply keep_alloc) | exact HK.out)))); have n1_ := Aside0.mk (KeepBut.trans (by repeat (first | (with_reducible first | exact HK.out | apply KeepBut.set_ | apply keep_drewN | apply keep_drew | apply keep_alloc) | exact HK.out)) hk (.inl rfl)); have n2_ := Aside0.mk (hb); have n3_ := Aside0.mk (hi); clear HK; clear HB; clear HI0; have HO397 := n0_; have HK := n1_; have HB := n2_; have HI0 := n3_; clear n0_ n1_ n2_ n3_; (try clear hb); (try clear hk); (try clear hi); (try clear ho0); obtain ⟨Ao20, co20, eo20⟩ := Kd.R_slice HO397.out; subst eo20) | ((with_reducible refine gate_callee (f := 17) rfl ?_); refine goesL_ (some 9) rfl rfl Try.func17 (by kernel_rfl) rfl #[.slice Ao20 t395.length co20] rfl (by simp only [List.map_toArray, List.map_cons, List.map_nil] <;> rfl) ?_; (with_reducible refine (spec_IndexOf.calls k _ _ t395 t400 t401 _ ?side1 ?side2 A3.out).mono ?_); (case side1 => repeat (first | exact (Kd.R_reads' HO397.out).2.2 | (with_reducible refine Kd.C_alloc ?_ _) | (with_reducible refine Kd.C_drewN ?_ _) | (with_reducible refine Kd.C_drew ?_))); (case side2 => exact (Kd.R_reads' HO397.out).2.1); rintro e w21 ⟨v402, rfl, ho0, hb⟩; refine ⟨_, rfl, ?_⟩; have n0_ := Aside0.mk (Kd.R_below (by (with_reducible repeat (first | apply Kd.R_alloc | apply Kd.R_drewN | apply Kd.R_drew)); exact HO397.out) hb); have n1_ := Aside0.mk (Kd.S_lower ho0 (keep_size (w := w) (g := g) (row := none) (by repeat (first | (with_reducible first | exact HK.out | apply KeepBut.set_ | apply keep_drewN | apply keep_drew | apply keep_alloc) | exact HK.out)))); have n2_ := Aside0.mk (IsS87.below (by repeat (first | (with_reducible first | exact HI0.out | apply IsS87.alloc | apply IsS87.drewN | apply IsS87.drew | apply IsS87.set_1 | apply IsS87.set_2) | exact HI0.out)) hb); have n3_ := Aside0.mk (KeepBut.trans (by repeat (first | (with_reducible first | exact HK.out | apply KeepBut.set_ | apply keep_drewN | apply keep_drew | apply keep_alloc) | exact HK.out)) (KeepBut.of_below hb g none) (.inl rfl)); have n4_ := Aside0.mk (below_step (by repeat (first | (with_reducible first | exact HB.out | apply q4_ | apply q5_ | apply q6_ | refine below_set ?_ (IsS87.ge HI0.out)) | exact HB.out)) hb); clear HO397; clear HI0; clear HK; clear HB; have HO397 := n0_; have HO403 := n1_; have HI0 := n2_; have HK := n3_; have HB := n4_; clear n0_ n1_ n2_ n3_ n4_; (try clear hb); (try clear hk); (try clear hi); (try clear ho0); obtain ⟨Ao22, co22, eo22⟩ := Kd.S_slice HO403.out; subst eo22) | (go_at_call 74; (with_reducible refine (spec_l1Cur_one.calls g s0_0 t398 t399 20 false t405 t406 w0 _ ?side1 ?side2 A5.out).mono ?_); (case side1 => repeat (first | (with_reducible first | exact HI0.out | apply IsS87.alloc | apply IsS87.drewN | apply IsS87.drew | apply IsS87.set_1 | apply IsS87.set_2) | exact HI0.out)); (case side2 => repeat (first | (with_reducible first | exact HB.out | apply q4_ | apply q5_ | apply q6_ | refine below_set ?_ (IsS87.ge HI0.out)) | exact HB.out)); rintro e w23 ⟨rfl, hi, hb, hk⟩; have n0_ := Aside0.mk (Kd.R_mono (Kd.R_keep (IsS87.apart (show IsS87 w0 _ g s0_0 t398 t399 from by repeat (first | (with_reducible first | exact HI0.out | apply IsS87.alloc | apply IsS87.drewN | apply IsS87.drew | apply IsS87.set_1 | apply IsS87.set_2) | exact HI0.out)) (by (with_reducible repeat (first | apply Kd.R_alloc | apply Kd.R_drewN | apply Kd.R_drew)); exact HO397.out) (by decide)) hk (fun _ h => h.2)) (fun _ h => h.1)); have n1_ := Aside0.mk (Kd.S_mono (Kd.S_keep (IsS87.apartS (show IsS87 w0 _ g s0_0 t398 t399 from by repeat (first | (with_reducible first | exact HI0.out | apply IsS87.alloc | apply IsS87.drewN | apply IsS87.drew | apply IsS87.set_1 | apply IsS87.set_2) | exact HI0.out)) (by (with_reducible repeat (first | apply Kd.S_alloc | apply Kd.S_drewN | apply Kd.S_drew)); exact HO403.out) (by decide)) hk (fun _ h => h.2)) (fun _ h => h.1)); have n2_ := Aside0.mk (KeepBut.trans (by repeat (first | (with_reducible first | exact HK.out | apply KeepBut.set_ | apply keep_drewN | apply keep_drew | apply keep_alloc) | exact HK.out)) hk (.inl rfl)); have n3_ := Aside0.mk (hb); have n4_ := Aside0.mk (hi); clear HO397; clear HO403; clear HK; clear HB; clear HI0; have HO397 := n0_; have HO403 := n1_; have HK := n2_; have HB := n3_; have HI0 := n4_; clear n0_ n1_ n2_ n3_ n4_; (try clear hb); (try clear hk); (try clear hi)))
   go_ret
   exact ⟨_, by first | rfl | (simp [errW_none, errW_some] <;> rfl) | (simp [*, errW_none, errW_some] <;> rfl), by (with_reducible repeat (first | apply Kd.S_alloc | apply Kd.S_drewN | apply Kd.S_drew)); exact HO403.out, by repeat (first | (with_reducible first | exact HI0.out | apply IsS87.alloc | apply IsS87.drewN | apply IsS87.drew | apply IsS87.set_1 | apply IsS87.set_2) | exact HI0.out), by repeat (first | (with_reducible first | exact HB.out | apply q4_ | apply q5_ | apply q6_ | refine below_set ?_ (IsS87.ge HI0.out)) | exact HB.out), by repeat (first | (with_reducible first | exact HK.out | apply KeepBut.set_ | apply keep_drewN | apply keep_drew | apply keep_alloc) | exact HK.out)⟩
 ·rw [if_neg c4] at H
  have c4b0 : decide (0 < (t400.length : Int)) = false := decide_eq_false c4
  have c4b1 : decide (0 < t400.length) = false := decide_eq_false (by omega)
  clear c4
  simp only [Option.some.injEq, Prod.mk.injEq] at H
  obtain ⟨rfl, rfl, rfl⟩ := H
  go_enter Try.func70, Try.ntmps70
  go_wp2_with (first | ((with_reducible refine gate_callee (f := 96) rfl ?_); refine goesL_ (some 8) rfl rfl Try.func96 (by kernel_rfl) rfl #[.pointer (some ⟨g, 0, none⟩)] rfl (by simp only [List.map_toArray, List.map_cons, List.map_nil] <;> rfl) ?_; (with_reducible refine (spec_l1Cur_pairs10.calls k g s0_0 s0_1 s0_2 t395 t398 t399 w0 _ ?side1 ?side2 A2.out).mono ?_); (case side1 => repeat (first | (with_reducible first | exact HI0.out | apply IsS87.alloc | apply IsS87.drewN | apply IsS87.drew | apply IsS87.set_1 | apply IsS87.set_2) | exact HI0.out)); (case side2 => repeat (first | (with_reducible first | exact HB.out | apply q4_ | apply q5_ | apply q6_ | refine below_set ?_ (IsS87.ge HI0.out)) | exact HB.out)); rintro e w24 ⟨v396, rfl, ho0, hi, hb, hk⟩; refine ⟨_, rfl, ?_⟩; have n0_ := Aside0.mk (Kd.R_lower ho0 (keep_size (w := w) (g := g) (row := none) (by repeat (first | (with_reducible first | exact HK.out | apply KeepBut.set_ | apply keep_drewN | apply keep_drew | apply keep_alloc) | exact HK.out)))); have n1_ := Aside0.mk (KeepBut.trans (by repeat (first | (with_reducible first | exact HK.out | apply KeepBut.set_ | apply keep_drewN | apply keep_drew | apply keep_alloc) | exact HK.out)) hk (.inl rfl)); have n2_ := Aside0.mk (hb); have n3_ := Aside0.mk (hi); clear HK; clear HB; clear HI0; have HO397 := n0_; have HK := n1_; have HB := n2_; have HI0 := n3_; clear n0_ n1_ n2_ n3_; (try clear hb); (try clear hk); (try clear hi); (try clear ho0); obtain ⟨Ao25, co25, eo25⟩ := Kd.R_slice HO397.out; subst eo25) | ((with_reducible refine gate_callee (f := 17) rfl ?_); refine goesL_ (some 9) rfl rfl Try.func17 (by kernel_rfl) rfl #[.slice Ao25 t395.length co25] rfl (by simp only [List.map_toArray, List.map_cons, List.map_nil] <;> rfl) ?_; (with_reducible refine (spec_IndexOf.calls k _ _ t395 t400 t401 _ ?side1 ?side2 A3.out).mono ?_); (case side1 => repeat (first | exact (Kd.R_reads' HO397.out).2.2 | (with_reducible refine Kd.C_alloc ?_ _) | (with_reducible refine Kd.C_drewN ?_ _) | (with_reducible refine Kd.C_drew ?_))); (case side2 => exact (Kd.R_reads' HO397.out).2.1); rintro e w26 ⟨v402, rfl, ho0, hb⟩; refine ⟨_, rfl, ?_⟩; have n0_ := Aside0.mk (Kd.R_below (by (with_reducible repeat (first | apply Kd.R_alloc | apply Kd.R_drewN | apply Kd.R_drew)); exact HO397.out) hb); have n1_ := Aside0.mk (Kd.S_lower ho0 (keep_size (w := w) (g := g) (row := none) (by repeat (first | (with_reducible first | exact HK.out | apply KeepBut.set_ | apply keep_drewN | apply keep_drew | apply keep_alloc) | exact HK.out)))); have n2_ := Aside0.mk (IsS87.below (by repeat (first | (with_reducible first | exact HI0.out | apply IsS87.alloc | apply IsS87.drewN | apply IsS87.drew | apply IsS87.set_1 | apply IsS87.set_2) | exact HI0.out)) hb); have n3_ := Aside0.mk (KeepBut.trans (by repeat (first | (with_reducible first | exact HK.out | apply KeepBut.set_ | apply keep_drewN | apply keep_drew | apply keep_alloc) | exact HK.out)) (KeepBut.of_below hb g none) (.inl rfl)); have n4_ := Aside0.mk (below_step (by repeat (first | (with_reducible first | exact HB.out | apply q4_ | apply q5_ | apply q6_ | refine below_set ?_ (IsS87.ge HI0.out)) | exact HB.out)) hb); clear HO397; clear HI0; clear HK; clear HB; have HO397 := n0_; have HO403 := n1_; have HI0 := n2_; have HK := n3_; have HB := n4_; clear n0_ n1_ n2_ n3_ n4_; (try clear hb); (try clear hk); (try clear hi); (try clear ho0); obtain ⟨Ao27, co27, eo27⟩ := Kd.S_slice HO403.out; subst eo27))
  go_ret
  exact ⟨_, by first | rfl | (simp [errW_none, errW_some] <;> rfl) | (simp [*, errW_none, errW_some] <;> rfl), by (with_reducible repeat (first | apply Kd.S_alloc | apply Kd.S_drewN | apply Kd.S_drew)); exact HO403.out, by repeat (first | (with_reducible first | exact HI0.out | apply IsS87.alloc | apply IsS87.drewN | apply IsS87.drew | apply IsS87.set_1 | apply IsS87.set_2) | exact HI0.out), by repeat (first | (with_reducible first | exact HB.out | apply q4_ | apply q5_ | apply q6_ | refine below_set ?_ (IsS87.ge HI0.out)) | exact HB.out), by repeat (first | (with_reducible first | exact HK.out | apply KeepBut.set_ | apply keep_drewN | apply keep_drew | apply keep_alloc) | exact HK.out)⟩
/-! ### spec_DrawPutPair: function 42 -/
def spec_DrawPutPair.f (k : Nat) (l0 : List Int) : Option ((List (S74)) × ByteArray × Int) := (spec_l1Cur_index10.f k l0 0 0).bind fun bt414 => ((spec_l1Cur_key10.f l0 bt414.2.1 bt414.2.2).bind fun bt419 => ((spec_l1Cur_pick.f l0 bt419.2.1 bt419.2.2 12).bind fun bt422 => (some (bt414.1, bt419.1, bt422.1))))
theorem spec_DrawPutPair.mono : ∀ a0 k, LeO (spec_DrawPutPair.f k a0) (spec_DrawPutPair.f (k + 1) a0) := by
 intro a0 k
 unfold spec_DrawPutPair.f
 repeat' first
   | (with_reducible exact spec_l1Cur_index10.mono _ _ _ _)
   | (with_reducible exact LeO.refl _)
   | (with_reducible exact LeO.none _)
   | (with_reducible refine LeO.ite ?_ ?_)
   | (with_reducible refine LeO.bind ?_ (fun _ => ?_))
   | exact LeO.none _
   | refine LeO.ite ?_ ?_
   | refine LeO.bind ?_ (fun _ => ?_)
set_option maxHeartbeats 8000000 in
set_option maxRecDepth 100000 in
theorem spec_DrawPutPair.calls (k : Nat) (A0 : Option Addr) (c0 : Nat) (l0 : List Int) (r1 : List (S74)) (r2 : ByteArray) (r3 : Int) (w : World) (hr0 : Kd.C (Kd.int .u8) w A0 l0.length l0) (hc0 : l0.length ≤ c0) (h : spec_DrawPutPair.f k l0 = some (r1, r2, r3)) :
  Calls Try.prog 42 #[.slice A0 l0.length c0] w fun e w' => ∃ v0_ : Value, e = .returned (.tuple #[v0_, .agg #[.string r2, .int .i64 r3]]) ∧ Kd.S k74 74 w' w.heap.size (fun _ => True) v0_ r1 ∧ Below w.heap.size w w' := by
 have hu51 := Try.underlying51
 have hu87 := Try.underlying87
 have HR0 := Aside0.mk hr0
 have HC0 := Aside0.mk hc0
 clear hr0 hc0
 have HB := Aside0.mk (Below.refl w.heap.size w)
 have H : ((spec_l1Cur_index10.f k l0 0 0).bind fun bt414 => ((spec_l1Cur_key10.f l0 bt414.2.1 bt414.2.2).bind fun bt419 => ((spec_l1Cur_pick.f l0 bt419.2.1 bt419.2.2 12).bind fun bt422 => (some (bt414.1, bt419.1, bt422.1))))) = some (r1, r2, r3) := h
 clear h
 replace H := Option.bind_eq_some_iff.mp H
 obtain ⟨⟨t414, t417, t418⟩, A20, H⟩ := H
 replace H : ((spec_l1Cur_key10.f l0 t417 t418).bind fun bt419 => ((spec_l1Cur_pick.f l0 bt419.2.1 bt419.2.2 12).bind fun bt422 => (some (t414, bt419.1, bt422.1)))) = some (r1, r2, r3) := H
 have A2 := Aside0.mk A20
 clear A20
 replace H := Option.bind_eq_some_iff.mp H
 obtain ⟨⟨t419, t420, t421⟩, A30, H⟩ := H
 replace H : ((spec_l1Cur_pick.f l0 t420 t421 12).bind fun bt422 => (some (t414, t419, bt422.1))) = some (r1, r2, r3) := H
 have A3 := Aside0.mk A30
 clear A30
 replace H := Option.bind_eq_some_iff.mp H
 obtain ⟨⟨t422, t423, t424⟩, A40, H⟩ := H
 replace H : (some (t414, t419, t422)) = some (r1, r2, r3) := H
 have A4 := Aside0.mk A40
 clear A40
 simp only [Option.some.injEq, Prod.mk.injEq] at H
 obtain ⟨rfl, rfl, rfl⟩ := H
 go_enter Try.func42, Try.ntmps42
 go_wp2_with (first | ((with_reducible refine gate_dst (N := 3) rfl ?_); refine box_event ?hg (N := 3) ?hd (cs := #[.string (⟨#[]⟩ : ByteArray), .int .i64 0]) (t := 51) ?hr ?_; (case hd => rfl); (case hg => rfl); (case hr => first | (go_simp; done) | (go_simp; rfl)); intro gb412 hg w5 hbox hb; have n0_ := Aside0.mk (below_step (by repeat first | (with_reducible first | exact HB.out | apply q4_ | apply q5_ | apply q6_) | exact HB.out) hb); have n1_ := Aside0.mk (hbox); have n2_ := Aside0.mk ((by rw [hg]; exact (below_size (by repeat first | (with_reducible first | exact HB.out | apply q4_ | apply q5_ | apply q6_) | exact HB.out)) : w.heap.size ≤ gb412)); have n3_ := Aside0.mk ((by rw [hg]; exact (below_size (by repeat first | (with_reducible first | exact HB.out | apply q4_ | apply q5_ | apply q6_) | exact HB.out)) : w.heap.size ≤ gb412)); clear HB; have HB := n0_; have BK412 := n1_; have GW412 := n2_; have GE412 := n3_; clear n0_ n1_ n2_ n3_; clear hb hbox hg) | ((with_reducible refine gate_dst (N := 7) rfl ?_); refine box_event ?hg (N := 7) ?hd (cs := #[.slice A0 l0.length c0, .int .i64 0, .int .u64 0]) (t := 87) ?hr ?_; (case hd => rfl); (case hg => rfl); (case hr => first | (go_simp; done) | (go_simp; rfl)); intro gb413 hg w6 hbox hb; have n0_ := Aside0.mk (blk_below (g := gb412) (o := .cells #[.string (⟨#[]⟩ : ByteArray), .int .i64 0] 51 (0, 0)) (by (with_reducible repeat first | apply q1_ | apply q2_ | apply q3_); exact BK412.out) hb); have n1_ := Aside0.mk (below_step (by repeat (first | (with_reducible first | exact HB.out | apply q4_ | apply q5_ | apply q6_ | refine below_set ?_ GE412.out) | exact HB.out)) hb); have n2_ := Aside0.mk (hbox); have n3_ := Aside0.mk ((by rw [hg]; exact (below_size (by repeat (first | (with_reducible first | exact HB.out | apply q4_ | apply q5_ | apply q6_ | refine below_set ?_ GE412.out) | exact HB.out))) : w.heap.size ≤ gb413)); have n4_ := Aside0.mk ((by rw [hg]; exact (below_size (by repeat (first | (with_reducible first | exact HB.out | apply q4_ | apply q5_ | apply q6_ | refine below_set ?_ GE412.out) | exact HB.out))) : w.heap.size ≤ gb413)); have n5_ := Aside0.mk ((by rw [hg]; exact Nat.ne_of_lt (blk_lt (g := gb412) (o := .cells #[.string (⟨#[]⟩ : ByteArray), .int .i64 0] 51 (0, 0)) (by (with_reducible repeat first | apply q1_ | apply q2_ | apply q3_); exact BK412.out)) : gb412 ≠ gb413)); have n6_ := Aside0.mk ((by rw [hg]; exact Nat.ne_of_gt (blk_lt (g := gb412) (o := .cells #[.string (⟨#[]⟩ : ByteArray), .int .i64 0] 51 (0, 0)) (by (with_reducible repeat first | apply q1_ | apply q2_ | apply q3_); exact BK412.out)) : gb413 ≠ gb412)); clear BK412; clear HB; have BK412 := n0_; have HB := n1_; have BK413 := n2_; have GW413 := n3_; have GE413 := n4_; have NB412_413 := n5_; have NB413_412 := n6_; clear n0_ n1_ n2_ n3_ n4_ n5_ n6_; clear hb hbox hg; have HI413 := Aside0.mk (show IsS87 w w6 gb413 l0 0 0 from ⟨_, _, by (with_reducible repeat first | apply q1_ | apply q2_ | apply q3_); exact BK413.out, GE413.out, HR0.out⟩); clear BK413) | ((with_reducible refine gate_callee (f := 70) rfl ?_); refine goesL_ (some 9) rfl rfl Try.func70 (by kernel_rfl) rfl #[.pointer (some ⟨gb413, 0, none⟩)] rfl (by simp only [List.map_toArray, List.map_cons, List.map_nil] <;> rfl) ?_; (with_reducible refine (spec_l1Cur_index10.calls k gb413 l0 0 0 t414 t417 t418 w _ ?side1 ?side2 A2.out).mono ?_); (case side1 => repeat (first | (with_reducible first | exact HI413.out | apply IsS87.alloc | apply IsS87.drewN | apply IsS87.drew | apply IsS87.set_1 | apply IsS87.set_2 | refine IsS87.far ?_ NB413_412.out _) | exact HI413.out)); (case side2 => repeat (first | (with_reducible first | exact HB.out | apply q4_ | apply q5_ | apply q6_ | refine below_set ?_ (IsS87.ge HI413.out) | refine below_set ?_ GE412.out) | exact HB.out)); rintro e w7 ⟨v415, rfl, ho0, hi, hb, hk⟩; refine ⟨_, rfl, ?_⟩; have n0_ := Aside0.mk (KeepBut.blk hk (g' := gb412) (o := .cells #[.string (⟨#[]⟩ : ByteArray), .int .i64 0] 51 (0, 0)) (by (with_reducible repeat first | apply q1_ | apply q2_ | apply q3_); exact BK412.out) NB412_413.out (by simp)); have n1_ := Aside0.mk (Kd.S_lower ho0 (below_size (by repeat (first | (with_reducible first | exact HB.out | apply q4_ | apply q5_ | apply q6_ | refine below_set ?_ (IsS87.ge HI413.out) | refine below_set ?_ GE412.out) | exact HB.out)))); have n2_ := Aside0.mk (hb); have n3_ := Aside0.mk (hi); clear BK412; clear HB; clear HI413; have BK412 := n0_; have HO416 := n1_; have HB := n2_; have HI413 := n3_; clear n0_ n1_ n2_ n3_; (try clear hb); (try clear hk); (try clear hi); (try clear ho0)) | ((with_reducible refine gate_callee (f := 71) rfl ?_); refine goesL_ (some 11) rfl rfl Try.func71 (by kernel_rfl) rfl #[.pointer (some ⟨gb413, 0, none⟩)] rfl (by simp only [List.map_toArray, List.map_cons, List.map_nil] <;> rfl) ?_; (with_reducible refine (spec_l1Cur_key10.calls gb413 l0 t417 t418 t419 t420 t421 w _ ?side1 ?side2 A3.out).mono ?_); (case side1 => repeat (first | (with_reducible first | exact HI413.out | apply IsS87.alloc | apply IsS87.drewN | apply IsS87.drew | apply IsS87.set_1 | apply IsS87.set_2 | refine IsS87.far ?_ NB413_412.out _) | exact HI413.out)); (case side2 => repeat (first | (with_reducible first | exact HB.out | apply q4_ | apply q5_ | apply q6_ | refine below_set ?_ (IsS87.ge HI413.out) | refine below_set ?_ GE412.out) | exact HB.out)); rintro e w8 ⟨rfl, hi, hb, hk⟩; refine ⟨_, rfl, ?_⟩; have n0_ := Aside0.mk (KeepBut.blk hk (g' := gb412) (o := .cells #[.string (⟨#[]⟩ : ByteArray), .int .i64 0] 51 (0, 0)) (by (with_reducible repeat first | apply q1_ | apply q2_ | apply q3_); exact BK412.out) NB412_413.out (by simp)); have n1_ := Aside0.mk (Kd.S_mono (Kd.S_keep (IsS87.apartS (show IsS87 w _ gb413 l0 t417 t418 from by repeat (first | (with_reducible first | exact HI413.out | apply IsS87.alloc | apply IsS87.drewN | apply IsS87.drew | apply IsS87.set_1 | apply IsS87.set_2 | refine IsS87.far ?_ NB413_412.out _) | exact HI413.out)) (by (with_reducible repeat (first | apply Kd.S_alloc | apply Kd.S_drewN | apply Kd.S_drew)); exact HO416.out) (by decide)) hk (fun _ h => h.2)) (fun _ h => h.1)); have n2_ := Aside0.mk (hb); have n3_ := Aside0.mk (hi); clear BK412; clear HO416; clear HB; clear HI413; have BK412 := n0_; have HO416 := n1_; have HB := n2_; have HI413 := n3_; clear n0_ n1_ n2_ n3_; (try clear hb); (try clear hk); (try clear hi)) | ((with_reducible refine gate_callee (f := 72) rfl ?_); refine goesL_ (some 13) rfl rfl Try.func72 (by kernel_rfl) rfl #[.pointer (some ⟨gb413, 0, none⟩), .int .i64 12] rfl (by simp only [List.map_toArray, List.map_cons, List.map_nil] <;> rfl) ?_; (with_reducible refine (spec_l1Cur_pick.calls gb413 l0 t420 t421 12 t422 t423 t424 w _ ?side1 ?side2 A4.out).mono ?_); (case side1 => repeat (first | (with_reducible first | exact HI413.out | apply IsS87.alloc | apply IsS87.drewN | apply IsS87.drew | apply IsS87.set_1 | apply IsS87.set_2 | refine IsS87.far ?_ NB413_412.out _) | exact HI413.out)); (case side2 => repeat (first | (with_reducible first | exact HB.out | apply q4_ | apply q5_ | apply q6_ | refine below_set ?_ (IsS87.ge HI413.out) | refine below_set ?_ GE412.out) | exact HB.out)); rintro e w9 ⟨rfl, hi, hb, hk⟩; refine ⟨_, rfl, ?_⟩; have n0_ := Aside0.mk (KeepBut.blk hk (g' := gb412) (o := .cells #[.string (⟨#[]⟩ : ByteArray), .int .i64 0] 51 (0, 0)) (by (with_reducible repeat first | apply q1_ | apply q2_ | apply q3_); exact BK412.out) NB412_413.out (by simp)); have n1_ := Aside0.mk (Kd.S_mono (Kd.S_keep (IsS87.apartS (show IsS87 w _ gb413 l0 t420 t421 from by repeat (first | (with_reducible first | exact HI413.out | apply IsS87.alloc | apply IsS87.drewN | apply IsS87.drew | apply IsS87.set_1 | apply IsS87.set_2 | refine IsS87.far ?_ NB413_412.out _) | exact HI413.out)) (by (with_reducible repeat (first | apply Kd.S_alloc | apply Kd.S_drewN | apply Kd.S_drew)); exact HO416.out) (by decide)) hk (fun _ h => h.2)) (fun _ h => h.1)); have n2_ := Aside0.mk (hb); have n3_ := Aside0.mk (hi); clear BK412; clear HO416; clear HB; clear HI413; have BK412 := n0_; have HO416 := n1_; have HB := n2_; have HI413 := n3_; clear n0_ n1_ n2_ n3_; (try clear hb); (try clear hk); (try clear hi); have hnb10 := NB412_413.out; have hnc10 := NB413_412.out; have hcz11_0 : w9.cell? ⟨gb412, 0, none⟩ = some (.string (⟨#[]⟩ : ByteArray)) := (blk_cell BK412.out 0).trans rfl; have hcz11_1 : w9.cell? ⟨gb412, 1, none⟩ = some (.int .i64 0) := (blk_cell BK412.out 1).trans rfl; have hfz11_0 := blk_frozen BK412.out 0; have hfz11_1 := blk_frozen BK412.out 1))
 refine bodyPost_ret (results_tc rfl _ _ gb412 51 #[.string t419, .int .i64 t422] (0, 0) _ rfl (by (with_reducible repeat first | apply q1_ | apply q2_ | apply q3_); refine blk_put (cs := #[.string t419, .int .i64 0]) ?_ 1 _ rfl; (with_reducible repeat first | apply q1_ | apply q2_ | apply q3_); refine blk_put (cs := #[.string (⟨#[]⟩ : ByteArray), .int .i64 0]) ?_ 0 _ rfl; (with_reducible repeat first | apply q1_ | apply q2_ | apply q3_); exact BK412.out) Try.underlying51 rfl (by kernel_rfl)) rfl ?_
 exact ⟨_, by first | rfl | (simp [errW_none, errW_some] <;> rfl) | (simp [*, errW_none, errW_some] <;> rfl), by (with_reducible repeat (first | apply Kd.S_alloc | apply Kd.S_drewN | apply Kd.S_drew)); exact Kd.S_mono (Kd.S_far (p := ⟨gb412, 1, none⟩) (Kd.S_far (p := ⟨gb412, 0, none⟩) (Kd.S_types HO416.out BK412.out (by decide)) (fun _ hk => hk.2) (.string t419)) (fun _ hk => hk.2) (.int .i64 t422)) (fun _ hk => trivial), by repeat (first | (with_reducible first | exact HB.out | apply q4_ | apply q5_ | apply q6_ | refine below_set ?_ (IsS87.ge HI413.out) | refine below_set ?_ GE412.out) | exact HB.out)⟩
end
end Go.Proofs.Ytkkphbjemnifiaa.PFnIndex
