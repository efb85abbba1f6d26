-- Printed for this claim by a changed copy of the kit's printing program (wip/tools/patch_print.py); Lean checks it.
import Derived.Test.YtkkphbjemnifiaaPFnFoundx0
namespace Go.Proofs.Ytkkphbjemnifiaa.PFnFound
open Go.RowKit Go.Proofs.YtkkphbjemnifiaaW.PrintWords Go.Proofs.YtkkphbjemnifiaaW.PrintLast Go.Proofs.YtkkphbjemnifiaaW.PrintMore
attribute [local go_sem] max2_int min2_int max_two min_two max_three min_three max_four min_four   -- for this text's walks alone
set_option linter.unusedVariables false
set_option linter.unusedSimpArgs false

noncomputable section
/-! ### spec_l10Same: function 52 -/
mutual
def spec_l10Same.l0 : Nat → List (S74) → List (S74) → Int → Int → Option (Bool)
 | 0, _, _, _, _ => none
 | k + 1, x1, x15, x16, x17 => if x17 < x16 then (if 0 ≤ x17 then (if x17 < (x15.length : Int) then (if x17 < (x1.length : Int) then (if ((rd_T74 x15 x17).f0).toList = ((rd_T74 x1 x17).f0).toList then (if ((rd_T74 x15 x17).f2) = ((rd_T74 x1 x17).f2) then (if ((rd_T74 x15 x17).f3) = ((rd_T74 x1 x17).f3) then (if ((rd_T74 x15 x17).f4) = ((rd_T74 x1 x17).f4) then (spec_l10Same.j1 k x1 x15 x16 x17 (((rd_T74 x15 x17).f1).length != ((rd_T74 x1 x17).f1).length) ((rd_T74 x15 x17).f0) ((rd_T74 x15 x17).f1) ((rd_T74 x15 x17).f2) ((rd_T74 x15 x17).f3) ((rd_T74 x15 x17).f4) ((rd_T74 x1 x17).f0) ((rd_T74 x1 x17).f1) ((rd_T74 x1 x17).f2) ((rd_T74 x1 x17).f3) ((rd_T74 x1 x17).f4)) else (spec_l10Same.j1 k x1 x15 x16 x17 true ((rd_T74 x15 x17).f0) ((rd_T74 x15 x17).f1) ((rd_T74 x15 x17).f2) ((rd_T74 x15 x17).f3) ((rd_T74 x15 x17).f4) ((rd_T74 x1 x17).f0) ((rd_T74 x1 x17).f1) ((rd_T74 x1 x17).f2) ((rd_T74 x1 x17).f3) ((rd_T74 x1 x17).f4))) else (spec_l10Same.j1 k x1 x15 x16 x17 true ((rd_T74 x15 x17).f0) ((rd_T74 x15 x17).f1) ((rd_T74 x15 x17).f2) ((rd_T74 x15 x17).f3) ((rd_T74 x15 x17).f4) ((rd_T74 x1 x17).f0) ((rd_T74 x1 x17).f1) ((rd_T74 x1 x17).f2) ((rd_T74 x1 x17).f3) ((rd_T74 x1 x17).f4))) else (spec_l10Same.j1 k x1 x15 x16 x17 true ((rd_T74 x15 x17).f0) ((rd_T74 x15 x17).f1) ((rd_T74 x15 x17).f2) ((rd_T74 x15 x17).f3) ((rd_T74 x15 x17).f4) ((rd_T74 x1 x17).f0) ((rd_T74 x1 x17).f1) ((rd_T74 x1 x17).f2) ((rd_T74 x1 x17).f3) ((rd_T74 x1 x17).f4))) else (spec_l10Same.j1 k x1 x15 x16 x17 true ((rd_T74 x15 x17).f0) ((rd_T74 x15 x17).f1) ((rd_T74 x15 x17).f2) ((rd_T74 x15 x17).f3) ((rd_T74 x15 x17).f4) ((rd_T74 x1 x17).f0) ((rd_T74 x1 x17).f1) ((rd_T74 x1 x17).f2) ((rd_T74 x1 x17).f3) ((rd_T74 x1 x17).f4))) else (none)) else (none)) else (none)) else (some true)
def spec_l10Same.j1 : Nat → List (S74) → List (S74) → Int → Int → Bool → ByteArray → List Int → Int → Int → Int → ByteArray → List Int → Int → Int → Int → Option (Bool)
 | 0, _, _, _, _, _, _, _, _, _, _, _, _, _, _, _ => none
 | k + 1, x1, x15, x16, x17, x60, x190000, x190001, x190002, x190003, x190004, x192000, x192001, x192002, x192003, x192004 => if x60 = true then (some false) else (spec_l10Same.l1 k x1 x15 x16 x17 x190001 (x190001.length : Int) 0 x192000 x192001 x192002 x192003 x192004)
def spec_l10Same.l1 : Nat → List (S74) → List (S74) → Int → Int → List Int → Int → Int → ByteArray → List Int → Int → Int → Int → Option (Bool)
 | 0, _, _, _, _, _, _, _, _, _, _, _, _ => none
 | k + 1, x1, x15, x16, x17, x62, x63, x64, x192000, x192001, x192002, x192003, x192004 => if x64 < x63 then (if 0 ≤ x64 then (if x64 < (x62.length : Int) then (if x64 < (x192001.length : Int) then (if (rd x192001 x64) = (rd x62 x64) then (spec_l10Same.l1 k x1 x15 x16 x17 x62 x63 (wrap64 (x64 + 1)) x192000 x192001 x192002 x192003 x192004) else (some false)) else (none)) else (none)) else (none)) else (spec_l10Same.l0 k x1 x15 x16 (wrap64 (x17 + 1)))
end
def spec_l10Same.f (k : Nat) (l0 : List (S74)) (l1 : List (S74)) : Option (Bool) := if (l0.length : Int) = (l1.length : Int) then (spec_l10Same.l0 k l1 l0 (l0.length : Int) 0) else (some false)
theorem spec_l10Same.mono_l : ∀ k, (∀ y0 y1 y2 y3, LeO (spec_l10Same.l0 k y0 y1 y2 y3) (spec_l10Same.l0 (k + 1) y0 y1 y2 y3)) ∧ (∀ y0 y1 y2 y3 y4 y5 y6 y7 y8 y9 y10 y11 y12 y13 y14, LeO (spec_l10Same.j1 k y0 y1 y2 y3 y4 y5 y6 y7 y8 y9 y10 y11 y12 y13 y14) (spec_l10Same.j1 (k + 1) y0 y1 y2 y3 y4 y5 y6 y7 y8 y9 y10 y11 y12 y13 y14)) ∧ (∀ y0 y1 y2 y3 y4 y5 y6 y7 y8 y9 y10 y11, LeO (spec_l10Same.l1 k y0 y1 y2 y3 y4 y5 y6 y7 y8 y9 y10 y11) (spec_l10Same.l1 (k + 1) y0 y1 y2 y3 y4 y5 y6 y7 y8 y9 y10 y11))
 | 0 => ⟨fun _ _ _ _ r h => by simp [spec_l10Same.l0] at h, fun _ _ _ _ _ _ _ _ _ _ _ _ _ _ _ r h => by simp [spec_l10Same.j1] at h, fun _ _ _ _ _ _ _ _ _ _ _ _ r h => by simp [spec_l10Same.l1] at h⟩
 | k + 1 => by
  obtain ⟨ih0, ih1, ih2⟩ := spec_l10Same.mono_l k
  refine ⟨?_, ?_, ?_⟩
  ·intro y0 y1 y2 y3
   unfold spec_l10Same.l0
   repeat' first
   | (with_reducible exact ih0 _ _ _ _)
   | (with_reducible exact ih1 _ _ _ _ _ _ _ _ _ _ _ _ _ _ _)
   | (with_reducible exact ih2 _ _ _ _ _ _ _ _ _ _ _ _)
   | (with_reducible exact LeO.refl _)
   | (with_reducible exact LeO.none _)
   | (with_reducible refine LeO.ite ?_ ?_)
   | (with_reducible refine LeO.bind ?_ (fun _ => ?_))
   | exact LeO.none _
   | refine LeO.ite ?_ ?_
   | refine LeO.bind ?_ (fun _ => ?_)
  ·intro y0 y1 y2 y3 y4 y5 y6 y7 y8 y9 y10 y11 y12 y13 y14
   unfold spec_l10Same.j1
   repeat' first
   | (with_reducible exact ih0 _ _ _ _)
   | (with_reducible exact ih1 _ _ _ _ _ _ _ _ _ _ _ _ _ _ _)
   | (with_reducible exact ih2 _ _ _ _ _ _ _ _ _ _ _ _)
   | (with_reducible exact LeO.refl _)
   | (with_reducible exact LeO.none _)
   | (with_reducible refine LeO.ite ?_ ?_)
   | (with_reducible refine LeO.bind ?_ (fun _ => ?_))
   | exact LeO.none _
   | refine LeO.ite ?_ ?_
   | refine LeO.bind ?_ (fun _ => ?_)
  ·intro y0 y1 y2 y3 y4 y5 y6 y7 y8 y9 y10 y11
   unfold spec_l10Same.l1
   repeat' first
   | (with_reducible exact ih0 _ _ _ _)
   | (with_reducible exact ih1 _ _ _ _ _ _ _ _ _ _ _ _ _ _ _)
   | (with_reducible exact ih2 _ _ _ _ _ _ _ _ _ _ _ _)
   | (with_reducible exact LeO.refl _)
   | (with_reducible exact LeO.none _)
   | (with_reducible refine LeO.ite ?_ ?_)
   | (with_reducible refine LeO.bind ?_ (fun _ => ?_))
   | exact LeO.none _
   | refine LeO.ite ?_ ?_
   | refine LeO.bind ?_ (fun _ => ?_)
theorem spec_l10Same.mono : ∀ a0 a1 k, LeO (spec_l10Same.f k a0 a1) (spec_l10Same.f (k + 1) a0 a1) := by
 intro a0 a1 k
 obtain ⟨ih0, ih1, ih2⟩ := spec_l10Same.mono_l k
 unfold spec_l10Same.f
 repeat' first
   | (with_reducible exact ih0 _ _ _ _)
   | (with_reducible exact ih1 _ _ _ _ _ _ _ _ _ _ _ _ _ _ _)
   | (with_reducible exact ih2 _ _ _ _ _ _ _ _ _ _ _ _)
   | (with_reducible exact LeO.refl _)
   | (with_reducible exact LeO.none _)
   | (with_reducible refine LeO.ite ?_ ?_)
   | (with_reducible refine LeO.bind ?_ (fun _ => ?_))
   | exact LeO.none _
   | refine LeO.ite ?_ ?_
   | refine LeO.bind ?_ (fun _ => ?_)
set_option maxHeartbeats 8000000 in
set_option maxRecDepth 100000 in
theorem spec_l10Same.calls (k : Nat) (A0 : Option Addr) (c0 : Nat) (l0 : List (S74)) (A1 : Option Addr) (c1 : Nat) (l1 : List (S74)) (r : Bool) (w : World) (hr0 : Kd.C k74 w A0 l0.length l0) (hc0 : l0.length ≤ c0) (hr1 : Kd.C k74 w A1 l1.length l1) (hc1 : l1.length ≤ c1) (h : spec_l10Same.f k l0 l1 = some r) :
  Calls Try.prog 52 #[.slice A0 l0.length c0, .slice A1 l1.length c1] w fun e w' => e = .returned (.bool r) ∧ Below w.heap.size w w' := by
 have hu74 := Try.underlying74
 have HR0 := Aside0.mk hr0
 have HC0 := Aside0.mk hc0
 clear hr0 hc0
 have HR1 := Aside0.mk hr1
 have HC1 := Aside0.mk hc1
 clear hr1 hc1
 have HB := Aside0.mk (Below.refl w.heap.size w)
 have H : (if (l0.length : Int) = (l1.length : Int) then (spec_l10Same.l0 k l1 l0 (l0.length : Int) 0) else (some false)) = some r := h
 clear h
 by_cases c3 : (l0.length : Int) = (l1.length : Int)
 ·rw [if_pos c3] at H
  have c3b0 : ((l0.length : Int) == (l1.length : Int)) = true := beq_iff_eq.mpr c3
  have c3b1 : ((l0.length : Int) != (l1.length : Int)) = false := bne_eq_false_iff_eq.mpr c3
  have c3b2 : (l0.length == l1.length) = true := by first | simpa using c3 | (simp at c3 ⊢; omega)
  clear c3
  have H' := Aside0.mk H
  clear H
  go_enter Try.func52, Try.ntmps52
  go_wp2
  go_loopg [17] k (fun kq v17 w' => ∃ (x17_1 : Int), v17 = .int .i64 x17_1 ∧ Aside0 (spec_l10Same.l0 kq l1 l0 (l0.length : Int) x17_1 = some r) ∧ Aside0 (kq ≤ k) ∧ Aside0 (Below w.heap.size w w'))
  case atStart => exact ⟨(0), rfl, H', ⟨Nat.le_refl _⟩, ⟨by exact HB.out⟩⟩
  case round =>
   clear H'
   try clear c1
   try clear p2
   try clear c3
   try clear c3b0
   try clear c3b1
   try clear c3b2
   obtain ⟨x17_1, rfl, HA, HK1, HB⟩ := hrel
   cases gk with
   | zero => exact absurd HA.out (by simp [spec_l10Same.l0])
   | succ k1 =>
    have H := HA.out
    clear HA
    simp only [spec_l10Same.l0] at H
    by_cases c4 : x17_1 < (l0.length : Int)
    ·rw [if_pos c4] at H
     have c4b0 : decide (x17_1 < (l0.length : Int)) = true := decide_eq_true c4
     clear c4
     by_cases c5 : 0 ≤ x17_1
     ·rw [if_pos c5] at H
      have c5b0 : decide (0 ≤ x17_1) = true := decide_eq_true c5
      clear c5
      by_cases c6 : x17_1 < (l0.length : Int)
      ·rw [if_pos c6] at H
       have c6b0 : decide (x17_1 < (l0.length : Int)) = true := decide_eq_true c6
       clear c6
       by_cases c7 : x17_1 < (l1.length : Int)
       ·rw [if_pos c7] at H
        have c7b0 : decide (x17_1 < (l1.length : Int)) = true := decide_eq_true c7
        clear c7
        have HC8 := Aside0.mk H
        clear H
        have p188 : 0 ≤ (x17_1 : Int) := of_decide_eq_true (by assumption)
        have q188 : x17_1 < (l0.length : Int) := of_decide_eq_true (by assumption)
        obtain ⟨ad188, A188_1, c188_1, e188, hx188_0, hx188_1, hx188_2, hx188_3, hx188_4, hl188_1, hi188_1⟩ := at_T74 HR0.out x17_1 p188 q188
        cases e188
        replace hx188_0 := (HB.out.cell (World.block_lt_of_cell? w _ hx188_0)).trans hx188_0
        replace hx188_1 := (HB.out.cell (World.block_lt_of_cell? w _ hx188_1)).trans hx188_1
        replace hx188_2 := (HB.out.cell (World.block_lt_of_cell? w _ hx188_2)).trans hx188_2
        replace hx188_3 := (HB.out.cell (World.block_lt_of_cell? w _ hx188_3)).trans hx188_3
        replace hx188_4 := (HB.out.cell (World.block_lt_of_cell? w _ hx188_4)).trans hx188_4
        have HR188_1 := Aside0.mk hi188_1
        have HC188_1 := Aside0.mk hl188_1
        clear hi188_1 hl188_1
        replace p188 := eq_true p188
        replace q188 := eq_true q188
        go_upto_region 7 with (first | ((with_reducible refine gate_dst (N := 6) rfl ?_); (try (refine gate_guard (by rfl) ?_; dsimp only)); refine box_event ?hg (N := 6) ?hd (cs := #[.string (⟨#[]⟩ : ByteArray), .slice none 0 0, .int .i64 0, .int .i64 0, .int .i64 0]) (t := 74) ?hr ?_; (case hd => rfl); (case hg => rfl); (case hr => go_simp); intro gb189 hg w9 hbox hb; have n0_ := Aside0.mk (below_step (by repeat first | exact HB.out | apply q4_ | apply q5_ | apply q6_) hb); have n1_ := Aside0.mk (hbox); have n2_ := Aside0.mk ((by rw [hg]; exact (below_size (by repeat first | exact HB.out | apply q4_ | apply q5_ | apply q6_)) : w.heap.size ≤ gb189)); have n3_ := Aside0.mk ((by rw [hg]; exact (below_size (by repeat first | exact HB.out | apply q4_ | apply q5_ | apply q6_)) : w.heap.size ≤ gb189)); clear HB; have HB := n0_; have BK189 := n1_; have GW189 := n2_; have GE189 := n3_; clear n0_ n1_ n2_ n3_; clear hb hbox hg; have hcz10_0 : w9.cell? ⟨gb189, 0, none⟩ = some (.string (⟨#[]⟩ : ByteArray)) := (blk_cell BK189.out 0).trans rfl; have hcz10_1 : w9.cell? ⟨gb189, 1, none⟩ = some (.slice none 0 0) := (blk_cell BK189.out 1).trans rfl; have hcz10_2 : w9.cell? ⟨gb189, 2, none⟩ = some (.int .i64 0) := (blk_cell BK189.out 2).trans rfl; have hcz10_3 : w9.cell? ⟨gb189, 3, none⟩ = some (.int .i64 0) := (blk_cell BK189.out 3).trans rfl; have hcz10_4 : w9.cell? ⟨gb189, 4, none⟩ = some (.int .i64 0) := (blk_cell BK189.out 4).trans rfl; have hfz10_0 := blk_frozen BK189.out 0; have hfz10_1 := blk_frozen BK189.out 1; have hfz10_2 := blk_frozen BK189.out 2; have hfz10_3 := blk_frozen BK189.out 3; have hfz10_4 := blk_frozen BK189.out 4; have p190 : 0 ≤ (x17_1 : Int) := of_decide_eq_true (by assumption); have q190 : x17_1 < (l1.length : Int) := of_decide_eq_true (by assumption); obtain ⟨ad190, A190_1, c190_1, e190, hx190_0, hx190_1, hx190_2, hx190_3, hx190_4, hl190_1, hi190_1⟩ := at_T74 HR1.out x17_1 p190 q190; cases e190; have hn190_0 : ad190.block ≠ gb189 := Nat.ne_of_lt (Nat.lt_of_lt_of_le (by have := World.block_lt_of_cell? _ _ hx190_0; first | rwa [add_block] at this | exact this) GW189.out); have hn190_1 : ad190.block ≠ gb189 := Nat.ne_of_lt (Nat.lt_of_lt_of_le (by have := World.block_lt_of_cell? _ _ hx190_0; first | rwa [add_block] at this | exact this) GW189.out); have hn190_2 : ad190.block ≠ gb189 := Nat.ne_of_lt (Nat.lt_of_lt_of_le (by have := World.block_lt_of_cell? _ _ hx190_0; first | rwa [add_block] at this | exact this) GW189.out); have hn190_3 : ad190.block ≠ gb189 := Nat.ne_of_lt (Nat.lt_of_lt_of_le (by have := World.block_lt_of_cell? _ _ hx190_0; first | rwa [add_block] at this | exact this) GW189.out); have hn190_4 : ad190.block ≠ gb189 := Nat.ne_of_lt (Nat.lt_of_lt_of_le (by have := World.block_lt_of_cell? _ _ hx190_0; first | rwa [add_block] at this | exact this) GW189.out); replace hx190_0 := (HB.out.cell (World.block_lt_of_cell? w _ hx190_0)).trans hx190_0; replace hx190_1 := (HB.out.cell (World.block_lt_of_cell? w _ hx190_1)).trans hx190_1; replace hx190_2 := (HB.out.cell (World.block_lt_of_cell? w _ hx190_2)).trans hx190_2; replace hx190_3 := (HB.out.cell (World.block_lt_of_cell? w _ hx190_3)).trans hx190_3; replace hx190_4 := (HB.out.cell (World.block_lt_of_cell? w _ hx190_4)).trans hx190_4; have HR190_1 := Aside0.mk hi190_1; have HC190_1 := Aside0.mk hl190_1; clear hi190_1 hl190_1; replace hx190_0 := (cell_far (p := ⟨gb189, 0, none⟩) (by rw [add_block]; exact hn190_0) (.string ((rd_T74 l0 x17_1).f0))).trans hx190_0; replace hx190_1 := (cell_far (p := ⟨gb189, 0, none⟩) (by rw [add_block]; exact hn190_0) (.string ((rd_T74 l0 x17_1).f0))).trans hx190_1; replace hx190_2 := (cell_far (p := ⟨gb189, 0, none⟩) (by rw [add_block]; exact hn190_0) (.string ((rd_T74 l0 x17_1).f0))).trans hx190_2; replace hx190_3 := (cell_far (p := ⟨gb189, 0, none⟩) (by rw [add_block]; exact hn190_0) (.string ((rd_T74 l0 x17_1).f0))).trans hx190_3; replace hx190_4 := (cell_far (p := ⟨gb189, 0, none⟩) (by rw [add_block]; exact hn190_0) (.string ((rd_T74 l0 x17_1).f0))).trans hx190_4; replace hx190_0 := (cell_far (p := ⟨gb189, 1, none⟩) (by rw [add_block]; exact hn190_1) (.slice A188_1 ((rd_T74 l0 x17_1).f1).length c188_1)).trans hx190_0; replace hx190_1 := (cell_far (p := ⟨gb189, 1, none⟩) (by rw [add_block]; exact hn190_1) (.slice A188_1 ((rd_T74 l0 x17_1).f1).length c188_1)).trans hx190_1; replace hx190_2 := (cell_far (p := ⟨gb189, 1, none⟩) (by rw [add_block]; exact hn190_1) (.slice A188_1 ((rd_T74 l0 x17_1).f1).length c188_1)).trans hx190_2; replace hx190_3 := (cell_far (p := ⟨gb189, 1, none⟩) (by rw [add_block]; exact hn190_1) (.slice A188_1 ((rd_T74 l0 x17_1).f1).length c188_1)).trans hx190_3; replace hx190_4 := (cell_far (p := ⟨gb189, 1, none⟩) (by rw [add_block]; exact hn190_1) (.slice A188_1 ((rd_T74 l0 x17_1).f1).length c188_1)).trans hx190_4; replace hx190_0 := (cell_far (p := ⟨gb189, 2, none⟩) (by rw [add_block]; exact hn190_2) (.int .i64 ((rd_T74 l0 x17_1).f2))).trans hx190_0; replace hx190_1 := (cell_far (p := ⟨gb189, 2, none⟩) (by rw [add_block]; exact hn190_2) (.int .i64 ((rd_T74 l0 x17_1).f2))).trans hx190_1; replace hx190_2 := (cell_far (p := ⟨gb189, 2, none⟩) (by rw [add_block]; exact hn190_2) (.int .i64 ((rd_T74 l0 x17_1).f2))).trans hx190_2; replace hx190_3 := (cell_far (p := ⟨gb189, 2, none⟩) (by rw [add_block]; exact hn190_2) (.int .i64 ((rd_T74 l0 x17_1).f2))).trans hx190_3; replace hx190_4 := (cell_far (p := ⟨gb189, 2, none⟩) (by rw [add_block]; exact hn190_2) (.int .i64 ((rd_T74 l0 x17_1).f2))).trans hx190_4; replace hx190_0 := (cell_far (p := ⟨gb189, 3, none⟩) (by rw [add_block]; exact hn190_3) (.int .i64 ((rd_T74 l0 x17_1).f3))).trans hx190_0; replace hx190_1 := (cell_far (p := ⟨gb189, 3, none⟩) (by rw [add_block]; exact hn190_3) (.int .i64 ((rd_T74 l0 x17_1).f3))).trans hx190_1; replace hx190_2 := (cell_far (p := ⟨gb189, 3, none⟩) (by rw [add_block]; exact hn190_3) (.int .i64 ((rd_T74 l0 x17_1).f3))).trans hx190_2; replace hx190_3 := (cell_far (p := ⟨gb189, 3, none⟩) (by rw [add_block]; exact hn190_3) (.int .i64 ((rd_T74 l0 x17_1).f3))).trans hx190_3; replace hx190_4 := (cell_far (p := ⟨gb189, 3, none⟩) (by rw [add_block]; exact hn190_3) (.int .i64 ((rd_T74 l0 x17_1).f3))).trans hx190_4; replace hx190_0 := (cell_far (p := ⟨gb189, 4, none⟩) (by rw [add_block]; exact hn190_4) (.int .i64 ((rd_T74 l0 x17_1).f4))).trans hx190_0; replace hx190_1 := (cell_far (p := ⟨gb189, 4, none⟩) (by rw [add_block]; exact hn190_4) (.int .i64 ((rd_T74 l0 x17_1).f4))).trans hx190_1; replace hx190_2 := (cell_far (p := ⟨gb189, 4, none⟩) (by rw [add_block]; exact hn190_4) (.int .i64 ((rd_T74 l0 x17_1).f4))).trans hx190_2; replace hx190_3 := (cell_far (p := ⟨gb189, 4, none⟩) (by rw [add_block]; exact hn190_4) (.int .i64 ((rd_T74 l0 x17_1).f4))).trans hx190_3; replace hx190_4 := (cell_far (p := ⟨gb189, 4, none⟩) (by rw [add_block]; exact hn190_4) (.int .i64 ((rd_T74 l0 x17_1).f4))).trans hx190_4; clear hn190_0; clear hn190_1; clear hn190_2; clear hn190_3; clear hn190_4; replace p190 := eq_true p190; replace q190 := eq_true q190) | ((with_reducible refine gate_dst (N := 7) rfl ?_); (try (refine gate_guard (by rfl) ?_; dsimp only)); refine box_event ?hg (N := 7) ?hd (cs := #[.string (⟨#[]⟩ : ByteArray), .slice none 0 0, .int .i64 0, .int .i64 0, .int .i64 0]) (t := 74) ?hr ?_; (case hd => rfl); (case hg => rfl); (case hr => go_simp); intro gb191 hg w11 hbox hb; have n0_ := Aside0.mk (blk_below (g := gb189) (o := .cells #[.string ((rd_T74 l0 x17_1).f0), .slice A188_1 ((rd_T74 l0 x17_1).f1).length c188_1, .int .i64 ((rd_T74 l0 x17_1).f2), .int .i64 ((rd_T74 l0 x17_1).f3), .int .i64 ((rd_T74 l0 x17_1).f4)] 74 (0, 0)) (by (with_reducible repeat first | apply q1_ | apply q2_ | apply q3_); refine blk_put (cs := #[.string ((rd_T74 l0 x17_1).f0), .slice A188_1 ((rd_T74 l0 x17_1).f1).length c188_1, .int .i64 ((rd_T74 l0 x17_1).f2), .int .i64 ((rd_T74 l0 x17_1).f3), .int .i64 0]) ?_ 4 _ rfl; (with_reducible repeat first | apply q1_ | apply q2_ | apply q3_); refine blk_put (cs := #[.string ((rd_T74 l0 x17_1).f0), .slice A188_1 ((rd_T74 l0 x17_1).f1).length c188_1, .int .i64 ((rd_T74 l0 x17_1).f2), .int .i64 0, .int .i64 0]) ?_ 3 _ rfl; (with_reducible repeat first | apply q1_ | apply q2_ | apply q3_); refine blk_put (cs := #[.string ((rd_T74 l0 x17_1).f0), .slice A188_1 ((rd_T74 l0 x17_1).f1).length c188_1, .int .i64 0, .int .i64 0, .int .i64 0]) ?_ 2 _ rfl; (with_reducible repeat first | apply q1_ | apply q2_ | apply q3_); refine blk_put (cs := #[.string ((rd_T74 l0 x17_1).f0), .slice none 0 0, .int .i64 0, .int .i64 0, .int .i64 0]) ?_ 1 _ rfl; (with_reducible repeat first | apply q1_ | apply q2_ | apply q3_); refine blk_put (cs := #[.string (⟨#[]⟩ : ByteArray), .slice none 0 0, .int .i64 0, .int .i64 0, .int .i64 0]) ?_ 0 _ rfl; (with_reducible repeat first | apply q1_ | apply q2_ | apply q3_); exact BK189.out) hb); have n1_ := Aside0.mk (below_step (by repeat first | exact HB.out | apply q4_ | apply q5_ | apply q6_ | refine below_set ?_ GE189.out) hb); have n2_ := Aside0.mk (hbox); have n3_ := Aside0.mk ((by rw [hg]; exact (below_size (by repeat first | exact HB.out | apply q4_ | apply q5_ | apply q6_ | refine below_set ?_ GE189.out)) : w.heap.size ≤ gb191)); have n4_ := Aside0.mk ((by rw [hg]; exact (below_size (by repeat first | exact HB.out | apply q4_ | apply q5_ | apply q6_ | refine below_set ?_ GE189.out)) : w.heap.size ≤ gb191)); have n5_ := Aside0.mk ((by rw [hg]; exact Nat.ne_of_lt (blk_lt (g := gb189) (o := .cells #[.string ((rd_T74 l0 x17_1).f0), .slice A188_1 ((rd_T74 l0 x17_1).f1).length c188_1, .int .i64 ((rd_T74 l0 x17_1).f2), .int .i64 ((rd_T74 l0 x17_1).f3), .int .i64 ((rd_T74 l0 x17_1).f4)] 74 (0, 0)) (by (with_reducible repeat first | apply q1_ | apply q2_ | apply q3_); refine blk_put (cs := #[.string ((rd_T74 l0 x17_1).f0), .slice A188_1 ((rd_T74 l0 x17_1).f1).length c188_1, .int .i64 ((rd_T74 l0 x17_1).f2), .int .i64 ((rd_T74 l0 x17_1).f3), .int .i64 0]) ?_ 4 _ rfl; (with_reducible repeat first | apply q1_ | apply q2_ | apply q3_); refine blk_put (cs := #[.string ((rd_T74 l0 x17_1).f0), .slice A188_1 ((rd_T74 l0 x17_1).f1).length c188_1, .int .i64 ((rd_T74 l0 x17_1).f2), .int .i64 0, .int .i64 0]) ?_ 3 _ rfl; (with_reducible repeat first | apply q1_ | apply q2_ | apply q3_); refine blk_put (cs := #[.string ((rd_T74 l0 x17_1).f0), .slice A188_1 ((rd_T74 l0 x17_1).f1).length c188_1, .int .i64 0, .int .i64 0, .int .i64 0]) ?_ 2 _ rfl; (with_reducible repeat first | apply q1_ | apply q2_ | apply q3_); refine blk_put (cs := #[.string ((rd_T74 l0 x17_1).f0), .slice none 0 0, .int .i64 0, .int .i64 0, .int .i64 0]) ?_ 1 _ rfl; (with_reducible repeat first | apply q1_ | apply q2_ | apply q3_); refine blk_put (cs := #[.string (⟨#[]⟩ : ByteArray), .slice none 0 0, .int .i64 0, .int .i64 0, .int .i64 0]) ?_ 0 _ rfl; (with_reducible repeat first | apply q1_ | apply q2_ | apply q3_); exact BK189.out)) : gb189 ≠ gb191)); have n6_ := Aside0.mk ((by rw [hg]; exact Nat.ne_of_gt (blk_lt (g := gb189) (o := .cells #[.string ((rd_T74 l0 x17_1).f0), .slice A188_1 ((rd_T74 l0 x17_1).f1).length c188_1, .int .i64 ((rd_T74 l0 x17_1).f2), .int .i64 ((rd_T74 l0 x17_1).f3), .int .i64 ((rd_T74 l0 x17_1).f4)] 74 (0, 0)) (by (with_reducible repeat first | apply q1_ | apply q2_ | apply q3_); refine blk_put (cs := #[.string ((rd_T74 l0 x17_1).f0), .slice A188_1 ((rd_T74 l0 x17_1).f1).length c188_1, .int .i64 ((rd_T74 l0 x17_1).f2), .int .i64 ((rd_T74 l0 x17_1).f3), .int .i64 0]) ?_ 4 _ rfl; (with_reducible repeat first | apply q1_ | apply q2_ | apply q3_); refine blk_put (cs := #[.string ((rd_T74 l0 x17_1).f0), .slice A188_1 ((rd_T74 l0 x17_1).f1).length c188_1, .int .i64 ((rd_T74 l0 x17_1).f2), .int .i64 0, .int .i64 0]) ?_ 3 _ rfl; (with_reducible repeat first | apply q1_ | apply q2_ | apply q3_); refine blk_put (cs := #[.string ((rd_T74 l0 x17_1).f0), .slice A188_1 ((rd_T74 l0 x17_1).f1).length c188_1, .int .i64 0, .int .i64 0, .int .i64 0]) ?_ 2 _ rfl; (with_reducible repeat first | apply q1_ | apply q2_ | apply q3_); refine blk_put (cs := #[.string ((rd_T74 l0 x17_1).f0), .slice none 0 0, .int .i64 0, .int .i64 0, .int .i64 0]) ?_ 1 _ rfl; (with_reducible repeat first | apply q1_ | apply q2_ | apply q3_); refine blk_put (cs := #[.string (⟨#[]⟩ : ByteArray), .slice none 0 0, .int .i64 0, .int .i64 0, .int .i64 0]) ?_ 0 _ rfl; (with_reducible repeat first | apply q1_ | apply q2_ | apply q3_); exact BK189.out)) : gb191 ≠ gb189)); clear BK189; clear HB; have BK189 := n0_; have HB := n1_; have BK191 := n2_; have GW191 := n3_; have GE191 := n4_; have NB189_191 := n5_; have NB191_189 := n6_; clear n0_ n1_ n2_ n3_ n4_ n5_ n6_; clear hb hbox hg; have hnb12 := NB191_189.out; have hnc12 := NB189_191.out; have hcz13_0 : w11.cell? ⟨gb191, 0, none⟩ = some (.string (⟨#[]⟩ : ByteArray)) := (blk_cell BK191.out 0).trans rfl; have hcz13_1 : w11.cell? ⟨gb191, 1, none⟩ = some (.slice none 0 0) := (blk_cell BK191.out 1).trans rfl; have hcz13_2 : w11.cell? ⟨gb191, 2, none⟩ = some (.int .i64 0) := (blk_cell BK191.out 2).trans rfl; have hcz13_3 : w11.cell? ⟨gb191, 3, none⟩ = some (.int .i64 0) := (blk_cell BK191.out 3).trans rfl; have hcz13_4 : w11.cell? ⟨gb191, 4, none⟩ = some (.int .i64 0) := (blk_cell BK191.out 4).trans rfl; have hfz13_0 := blk_frozen BK191.out 0; have hfz13_1 := blk_frozen BK191.out 1; have hfz13_2 := blk_frozen BK191.out 2; have hfz13_3 := blk_frozen BK191.out 3; have hfz13_4 := blk_frozen BK191.out 4))
        (try simp only [Act.put, List.setIfInBounds_toArray, List.set_cons_zero, List.set_cons_succ])
        go_cut [60] (fun v60 wc => ∃ (kq : Nat) (x60_7 : Bool), v60 = .bool x60_7 ∧ Aside0 (spec_l10Same.j1 kq l1 l0 (l0.length : Int) x17_1 x60_7 ((rd_T74 l0 x17_1).f0) ((rd_T74 l0 x17_1).f1) ((rd_T74 l0 x17_1).f2) ((rd_T74 l0 x17_1).f3) ((rd_T74 l0 x17_1).f4) ((rd_T74 l1 x17_1).f0) ((rd_T74 l1 x17_1).f1) ((rd_T74 l1 x17_1).f2) ((rd_T74 l1 x17_1).f3) ((rd_T74 l1 x17_1).f4) = some r) ∧ Aside0 (kq ≤ k1) ∧ Aside0 (wc.heap[gb189]? = some (.cells #[.string ((rd_T74 l0 x17_1).f0), (.slice A188_1 ((rd_T74 l0 x17_1).f1).length c188_1), .int .i64 ((rd_T74 l0 x17_1).f2), .int .i64 ((rd_T74 l0 x17_1).f3), .int .i64 ((rd_T74 l0 x17_1).f4)] 74 (0, 0))) ∧ Aside0 (wc.heap[gb191]? = some (.cells #[.string ((rd_T74 l1 x17_1).f0), (.slice A190_1 ((rd_T74 l1 x17_1).f1).length c190_1), .int .i64 ((rd_T74 l1 x17_1).f2), .int .i64 ((rd_T74 l1 x17_1).f3), .int .i64 ((rd_T74 l1 x17_1).f4)] 74 (0, 0))) ∧ Aside0 (Below w.heap.size w wc))
        case first =>
         have H := HC8.out
         clear HC8
         by_cases c14 : ((rd_T74 l0 x17_1).f0).toList = ((rd_T74 l1 x17_1).f0).toList
         ·rw [if_pos c14] at H
          have c14b0 : (((rd_T74 l0 x17_1).f0).toList == ((rd_T74 l1 x17_1).f0).toList) = true := beq_iff_eq.mpr c14
          have c14b1 : (((rd_T74 l0 x17_1).f0).toList != ((rd_T74 l1 x17_1).f0).toList) = false := bne_eq_false_iff_eq.mpr c14
          clear c14
          (first | rw [c14b0] | (simp only [i64_w, i32_w]; rw [c14b0]) | skip)
          by_cases c15 : ((rd_T74 l0 x17_1).f2) = ((rd_T74 l1 x17_1).f2)
          ·rw [if_pos c15] at H
           have c15b0 : (((rd_T74 l0 x17_1).f2) == ((rd_T74 l1 x17_1).f2)) = true := beq_iff_eq.mpr c15
           have c15b1 : (((rd_T74 l0 x17_1).f2) != ((rd_T74 l1 x17_1).f2)) = false := bne_eq_false_iff_eq.mpr c15
           clear c15
           by_cases c16 : ((rd_T74 l0 x17_1).f3) = ((rd_T74 l1 x17_1).f3)
           ·rw [if_pos c16] at H
            have c16b0 : (((rd_T74 l0 x17_1).f3) == ((rd_T74 l1 x17_1).f3)) = true := beq_iff_eq.mpr c16
            have c16b1 : (((rd_T74 l0 x17_1).f3) != ((rd_T74 l1 x17_1).f3)) = false := bne_eq_false_iff_eq.mpr c16
            clear c16
            by_cases c17 : ((rd_T74 l0 x17_1).f4) = ((rd_T74 l1 x17_1).f4)
            ·rw [if_pos c17] at H
             have c17b0 : (((rd_T74 l0 x17_1).f4) == ((rd_T74 l1 x17_1).f4)) = true := beq_iff_eq.mpr c17
             have c17b1 : (((rd_T74 l0 x17_1).f4) != ((rd_T74 l1 x17_1).f4)) = false := bne_eq_false_iff_eq.mpr c17
             clear c17
             have H' := Aside0.mk H
             clear H
             have hnb18 := NB189_191.out
             have hnc18 := NB191_189.out
             have hcz19_0 : w11.cell? ⟨gb189, 0, none⟩ = some (.string ((rd_T74 l0 x17_1).f0)) := (blk_cell BK189.out 0).trans rfl
             have hcz19_1 : w11.cell? ⟨gb189, 1, none⟩ = some (.slice A188_1 ((rd_T74 l0 x17_1).f1).length c188_1) := (blk_cell BK189.out 1).trans rfl
             have hcz19_2 : w11.cell? ⟨gb189, 2, none⟩ = some (.int .i64 ((rd_T74 l0 x17_1).f2)) := (blk_cell BK189.out 2).trans rfl
             have hcz19_3 : w11.cell? ⟨gb189, 3, none⟩ = some (.int .i64 ((rd_T74 l0 x17_1).f3)) := (blk_cell BK189.out 3).trans rfl
             have hcz19_4 : w11.cell? ⟨gb189, 4, none⟩ = some (.int .i64 ((rd_T74 l0 x17_1).f4)) := (blk_cell BK189.out 4).trans rfl
             have hfz19_0 := blk_frozen BK189.out 0
             have hfz19_1 := blk_frozen BK189.out 1
             have hfz19_2 := blk_frozen BK189.out 2
             have hfz19_3 := blk_frozen BK189.out 3
             have hfz19_4 := blk_frozen BK189.out 4
             have hcz20_0 : w11.cell? ⟨gb191, 0, none⟩ = some (.string (⟨#[]⟩ : ByteArray)) := (blk_cell BK191.out 0).trans rfl
             have hcz20_1 : w11.cell? ⟨gb191, 1, none⟩ = some (.slice none 0 0) := (blk_cell BK191.out 1).trans rfl
             have hcz20_2 : w11.cell? ⟨gb191, 2, none⟩ = some (.int .i64 0) := (blk_cell BK191.out 2).trans rfl
             have hcz20_3 : w11.cell? ⟨gb191, 3, none⟩ = some (.int .i64 0) := (blk_cell BK191.out 3).trans rfl
             have hcz20_4 : w11.cell? ⟨gb191, 4, none⟩ = some (.int .i64 0) := (blk_cell BK191.out 4).trans rfl
             have hfz20_0 := blk_frozen BK191.out 0
             have hfz20_1 := blk_frozen BK191.out 1
             have hfz20_2 := blk_frozen BK191.out 2
             have hfz20_3 := blk_frozen BK191.out 3
             have hfz20_4 := blk_frozen BK191.out 4
             go_wp2
             go_meet
             case rel => exact ⟨_, ((((rd_T74 l0 x17_1).f1).length != ((rd_T74 l1 x17_1).f1).length)), (by first | rfl | (simp; done) | (simp [*]; done) | (simp; apply Bool.eq_iff_iff.mpr; simp only [bne_iff_ne, ne_eq, beq_iff_eq]; omega)), H', ⟨by have := HK1.out; first | omega | exact Nat.le_refl _⟩, ⟨by (with_reducible repeat first | apply q1_ | apply q2_ | apply q3_); refine blk_far ?_ NB189_191.out _; (with_reducible repeat first | apply q1_ | apply q2_ | apply q3_); refine blk_far ?_ NB189_191.out _; (with_reducible repeat first | apply q1_ | apply q2_ | apply q3_); refine blk_far ?_ NB189_191.out _; (with_reducible repeat first | apply q1_ | apply q2_ | apply q3_); refine blk_far ?_ NB189_191.out _; (with_reducible repeat first | apply q1_ | apply q2_ | apply q3_); refine blk_far ?_ NB189_191.out _; (with_reducible repeat first | apply q1_ | apply q2_ | apply q3_); exact BK189.out⟩, ⟨by (with_reducible repeat first | apply q1_ | apply q2_ | apply q3_); refine blk_put (cs := #[.string ((rd_T74 l1 x17_1).f0), .slice A190_1 ((rd_T74 l1 x17_1).f1).length c190_1, .int .i64 ((rd_T74 l1 x17_1).f2), .int .i64 ((rd_T74 l1 x17_1).f3), .int .i64 0]) ?_ 4 _ rfl; (with_reducible repeat first | apply q1_ | apply q2_ | apply q3_); refine blk_put (cs := #[.string ((rd_T74 l1 x17_1).f0), .slice A190_1 ((rd_T74 l1 x17_1).f1).length c190_1, .int .i64 ((rd_T74 l1 x17_1).f2), .int .i64 0, .int .i64 0]) ?_ 3 _ rfl; (with_reducible repeat first | apply q1_ | apply q2_ | apply q3_); refine blk_put (cs := #[.string ((rd_T74 l1 x17_1).f0), .slice A190_1 ((rd_T74 l1 x17_1).f1).length c190_1, .int .i64 0, .int .i64 0, .int .i64 0]) ?_ 2 _ rfl; (with_reducible repeat first | apply q1_ | apply q2_ | apply q3_); refine blk_put (cs := #[.string ((rd_T74 l1 x17_1).f0), .slice none 0 0, .int .i64 0, .int .i64 0, .int .i64 0]) ?_ 1 _ rfl; (with_reducible repeat first | apply q1_ | apply q2_ | apply q3_); refine blk_put (cs := #[.string (⟨#[]⟩ : ByteArray), .slice none 0 0, .int .i64 0, .int .i64 0, .int .i64 0]) ?_ 0 _ rfl; (with_reducible repeat first | apply q1_ | apply q2_ | apply q3_); exact BK191.out⟩, ⟨by repeat (first | (with_reducible first | exact HB.out | apply q4_ | apply q5_ | apply q6_ | refine below_set ?_ GE189.out | refine below_set ?_ GE191.out) | exact HB.out)⟩⟩
            ·rw [if_neg c17] at H
             have c17b0 : (((rd_T74 l0 x17_1).f4) == ((rd_T74 l1 x17_1).f4)) = false := beq_eq_false_iff_ne.mpr c17
             have c17b1 : (((rd_T74 l0 x17_1).f4) != ((rd_T74 l1 x17_1).f4)) = true := bne_iff_ne.mpr c17
             have H' := Aside0.mk H
             clear H
             have hnb21 := NB189_191.out
             have hnc21 := NB191_189.out
             have hcz22_0 : w11.cell? ⟨gb189, 0, none⟩ = some (.string ((rd_T74 l0 x17_1).f0)) := (blk_cell BK189.out 0).trans rfl
             have hcz22_1 : w11.cell? ⟨gb189, 1, none⟩ = some (.slice A188_1 ((rd_T74 l0 x17_1).f1).length c188_1) := (blk_cell BK189.out 1).trans rfl
             have hcz22_2 : w11.cell? ⟨gb189, 2, none⟩ = some (.int .i64 ((rd_T74 l0 x17_1).f2)) := (blk_cell BK189.out 2).trans rfl
             have hcz22_3 : w11.cell? ⟨gb189, 3, none⟩ = some (.int .i64 ((rd_T74 l0 x17_1).f3)) := (blk_cell BK189.out 3).trans rfl
             have hcz22_4 : w11.cell? ⟨gb189, 4, none⟩ = some (.int .i64 ((rd_T74 l0 x17_1).f4)) := (blk_cell BK189.out 4).trans rfl
             have hfz22_0 := blk_frozen BK189.out 0
             have hfz22_1 := blk_frozen BK189.out 1
             have hfz22_2 := blk_frozen BK189.out 2
             have hfz22_3 := blk_frozen BK189.out 3
             have hfz22_4 := blk_frozen BK189.out 4
             have hcz23_0 : w11.cell? ⟨gb191, 0, none⟩ = some (.string (⟨#[]⟩ : ByteArray)) := (blk_cell BK191.out 0).trans rfl
             have hcz23_1 : w11.cell? ⟨gb191, 1, none⟩ = some (.slice none 0 0) := (blk_cell BK191.out 1).trans rfl
             have hcz23_2 : w11.cell? ⟨gb191, 2, none⟩ = some (.int .i64 0) := (blk_cell BK191.out 2).trans rfl
             have hcz23_3 : w11.cell? ⟨gb191, 3, none⟩ = some (.int .i64 0) := (blk_cell BK191.out 3).trans rfl
             have hcz23_4 : w11.cell? ⟨gb191, 4, none⟩ = some (.int .i64 0) := (blk_cell BK191.out 4).trans rfl
             have hfz23_0 := blk_frozen BK191.out 0
             have hfz23_1 := blk_frozen BK191.out 1
             have hfz23_2 := blk_frozen BK191.out 2
             have hfz23_3 := blk_frozen BK191.out 3
             have hfz23_4 := blk_frozen BK191.out 4
             go_wp2
             go_meet
             case rel => exact ⟨_, (true), rfl, H', ⟨by have := HK1.out; first | omega | exact Nat.le_refl _⟩, ⟨by (with_reducible repeat first | apply q1_ | apply q2_ | apply q3_); refine blk_far ?_ NB189_191.out _; (with_reducible repeat first | apply q1_ | apply q2_ | apply q3_); refine blk_far ?_ NB189_191.out _; (with_reducible repeat first | apply q1_ | apply q2_ | apply q3_); refine blk_far ?_ NB189_191.out _; (with_reducible repeat first | apply q1_ | apply q2_ | apply q3_); refine blk_far ?_ NB189_191.out _; (with_reducible repeat first | apply q1_ | apply q2_ | apply q3_); refine blk_far ?_ NB189_191.out _; (with_reducible repeat first | apply q1_ | apply q2_ | apply q3_); exact BK189.out⟩, ⟨by (with_reducible repeat first | apply q1_ | apply q2_ | apply q3_); refine blk_put (cs := #[.string ((rd_T74 l1 x17_1).f0), .slice A190_1 ((rd_T74 l1 x17_1).f1).length c190_1, .int .i64 ((rd_T74 l1 x17_1).f2), .int .i64 ((rd_T74 l1 x17_1).f3), .int .i64 0]) ?_ 4 _ rfl; (with_reducible repeat first | apply q1_ | apply q2_ | apply q3_); refine blk_put (cs := #[.string ((rd_T74 l1 x17_1).f0), .slice A190_1 ((rd_T74 l1 x17_1).f1).length c190_1, .int .i64 ((rd_T74 l1 x17_1).f2), .int .i64 0, .int .i64 0]) ?_ 3 _ rfl; (with_reducible repeat first | apply q1_ | apply q2_ | apply q3_); refine blk_put (cs := #[.string ((rd_T74 l1 x17_1).f0), .slice A190_1 ((rd_T74 l1 x17_1).f1).length c190_1, .int .i64 0, .int .i64 0, .int .i64 0]) ?_ 2 _ rfl; (with_reducible repeat first | apply q1_ | apply q2_ | apply q3_); refine blk_put (cs := #[.string ((rd_T74 l1 x17_1).f0), .slice none 0 0, .int .i64 0, .int .i64 0, .int .i64 0]) ?_ 1 _ rfl; (with_reducible repeat first | apply q1_ | apply q2_ | apply q3_); refine blk_put (cs := #[.string (⟨#[]⟩ : ByteArray), .slice none 0 0, .int .i64 0, .int .i64 0, .int .i64 0]) ?_ 0 _ rfl; (with_reducible repeat first | apply q1_ | apply q2_ | apply q3_); exact BK191.out⟩, ⟨by repeat (first | (with_reducible first | exact HB.out | apply q4_ | apply q5_ | apply q6_ | refine below_set ?_ GE189.out | refine below_set ?_ GE191.out) | exact HB.out)⟩⟩
           ·rw [if_neg c16] at H
            have c16b0 : (((rd_T74 l0 x17_1).f3) == ((rd_T74 l1 x17_1).f3)) = false := beq_eq_false_iff_ne.mpr c16
            have c16b1 : (((rd_T74 l0 x17_1).f3) != ((rd_T74 l1 x17_1).f3)) = true := bne_iff_ne.mpr c16
            have H' := Aside0.mk H
            clear H
            have hnb24 := NB189_191.out
            have hnc24 := NB191_189.out
            have hcz25_0 : w11.cell? ⟨gb189, 0, none⟩ = some (.string ((rd_T74 l0 x17_1).f0)) := (blk_cell BK189.out 0).trans rfl
            have hcz25_1 : w11.cell? ⟨gb189, 1, none⟩ = some (.slice A188_1 ((rd_T74 l0 x17_1).f1).length c188_1) := (blk_cell BK189.out 1).trans rfl
            have hcz25_2 : w11.cell? ⟨gb189, 2, none⟩ = some (.int .i64 ((rd_T74 l0 x17_1).f2)) := (blk_cell BK189.out 2).trans rfl
            have hcz25_3 : w11.cell? ⟨gb189, 3, none⟩ = some (.int .i64 ((rd_T74 l0 x17_1).f3)) := (blk_cell BK189.out 3).trans rfl
            have hcz25_4 : w11.cell? ⟨gb189, 4, none⟩ = some (.int .i64 ((rd_T74 l0 x17_1).f4)) := (blk_cell BK189.out 4).trans rfl
            have hfz25_0 := blk_frozen BK189.out 0
            have hfz25_1 := blk_frozen BK189.out 1
            have hfz25_2 := blk_frozen BK189.out 2
            have hfz25_3 := blk_frozen BK189.out 3
            have hfz25_4 := blk_frozen BK189.out 4
            have hcz26_0 : w11.cell? ⟨gb191, 0, none⟩ = some (.string (⟨#[]⟩ : ByteArray)) := (blk_cell BK191.out 0).trans rfl
            have hcz26_1 : w11.cell? ⟨gb191, 1, none⟩ = some (.slice none 0 0) := (blk_cell BK191.out 1).trans rfl
            have hcz26_2 : w11.cell? ⟨gb191, 2, none⟩ = some (.int .i64 0) := (blk_cell BK191.out 2).trans rfl
            have hcz26_3 : w11.cell? ⟨gb191, 3, none⟩ = some (.int .i64 0) := (blk_cell BK191.out 3).trans rfl
            have hcz26_4 : w11.cell? ⟨gb191, 4, none⟩ = some (.int .i64 0) := (blk_cell BK191.out 4).trans rfl
            have hfz26_0 := blk_frozen BK191.out 0
            have hfz26_1 := blk_frozen BK191.out 1
            have hfz26_2 := blk_frozen BK191.out 2
            have hfz26_3 := blk_frozen BK191.out 3
            have hfz26_4 := blk_frozen BK191.out 4
            go_wp2
            go_meet
            case rel => exact ⟨_, (true), rfl, H', ⟨by have := HK1.out; first | omega | exact Nat.le_refl _⟩, ⟨by (with_reducible repeat first | apply q1_ | apply q2_ | apply q3_); refine blk_far ?_ NB189_191.out _; (with_reducible repeat first | apply q1_ | apply q2_ | apply q3_); refine blk_far ?_ NB189_191.out _; (with_reducible repeat first | apply q1_ | apply q2_ | apply q3_); refine blk_far ?_ NB189_191.out _; (with_reducible repeat first | apply q1_ | apply q2_ | apply q3_); refine blk_far ?_ NB189_191.out _; (with_reducible repeat first | apply q1_ | apply q2_ | apply q3_); refine blk_far ?_ NB189_191.out _; (with_reducible repeat first | apply q1_ | apply q2_ | apply q3_); exact BK189.out⟩, ⟨by (with_reducible repeat first | apply q1_ | apply q2_ | apply q3_); refine blk_put (cs := #[.string ((rd_T74 l1 x17_1).f0), .slice A190_1 ((rd_T74 l1 x17_1).f1).length c190_1, .int .i64 ((rd_T74 l1 x17_1).f2), .int .i64 ((rd_T74 l1 x17_1).f3), .int .i64 0]) ?_ 4 _ rfl; (with_reducible repeat first | apply q1_ | apply q2_ | apply q3_); refine blk_put (cs := #[.string ((rd_T74 l1 x17_1).f0), .slice A190_1 ((rd_T74 l1 x17_1).f1).length c190_1, .int .i64 ((rd_T74 l1 x17_1).f2), .int .i64 0, .int .i64 0]) ?_ 3 _ rfl; (with_reducible repeat first | apply q1_ | apply q2_ | apply q3_); refine blk_put (cs := #[.string ((rd_T74 l1 x17_1).f0), .slice A190_1 ((rd_T74 l1 x17_1).f1).length c190_1, .int .i64 0, .int .i64 0, .int .i64 0]) ?_ 2 _ rfl; (with_reducible repeat first | apply q1_ | apply q2_ | apply q3_); refine blk_put (cs := #[.string ((rd_T74 l1 x17_1).f0), .slice none 0 0, .int .i64 0, .int .i64 0, .int .i64 0]) ?_ 1 _ rfl; (with_reducible repeat first | apply q1_ | apply q2_ | apply q3_); refine blk_put (cs := #[.string (⟨#[]⟩ : ByteArray), .slice none 0 0, .int .i64 0, .int .i64 0, .int .i64 0]) ?_ 0 _ rfl; (with_reducible repeat first | apply q1_ | apply q2_ | apply q3_); exact BK191.out⟩, ⟨by repeat (first | (with_reducible first | exact HB.out | apply q4_ | apply q5_ | apply q6_ | refine below_set ?_ GE189.out | refine below_set ?_ GE191.out) | exact HB.out)⟩⟩
          ·rw [if_neg c15] at H
           have c15b0 : (((rd_T74 l0 x17_1).f2) == ((rd_T74 l1 x17_1).f2)) = false := beq_eq_false_iff_ne.mpr c15
           have c15b1 : (((rd_T74 l0 x17_1).f2) != ((rd_T74 l1 x17_1).f2)) = true := bne_iff_ne.mpr c15
           have H' := Aside0.mk H
           clear H
           have hnb27 := NB189_191.out
           have hnc27 := NB191_189.out
           have hcz28_0 : w11.cell? ⟨gb189, 0, none⟩ = some (.string ((rd_T74 l0 x17_1).f0)) := (blk_cell BK189.out 0).trans rfl
           have hcz28_1 : w11.cell? ⟨gb189, 1, none⟩ = some (.slice A188_1 ((rd_T74 l0 x17_1).f1).length c188_1) := (blk_cell BK189.out 1).trans rfl
           have hcz28_2 : w11.cell? ⟨gb189, 2, none⟩ = some (.int .i64 ((rd_T74 l0 x17_1).f2)) := (blk_cell BK189.out 2).trans rfl
           have hcz28_3 : w11.cell? ⟨gb189, 3, none⟩ = some (.int .i64 ((rd_T74 l0 x17_1).f3)) := (blk_cell BK189.out 3).trans rfl
           have hcz28_4 : w11.cell? ⟨gb189, 4, none⟩ = some (.int .i64 ((rd_T74 l0 x17_1).f4)) := (blk_cell BK189.out 4).trans rfl
           have hfz28_0 := blk_frozen BK189.out 0
           have hfz28_1 := blk_frozen BK189.out 1
           have hfz28_2 := blk_frozen BK189.out 2
           have hfz28_3 := blk_frozen BK189.out 3
           have hfz28_4 := blk_frozen BK189.out 4
           have hcz29_0 : w11.cell? ⟨gb191, 0, none⟩ = some (.string (⟨#[]⟩ : ByteArray)) := (blk_cell BK191.out 0).trans rfl
           have hcz29_1 : w11.cell? ⟨gb191, 1, none⟩ = some (.slice none 0 0) := (blk_cell BK191.out 1).trans rfl
           have hcz29_2 : w11.cell? ⟨gb191, 2, none⟩ = some (.int .i64 0) := (blk_cell BK191.out 2).trans rfl
           have hcz29_3 : w11.cell? ⟨gb191, 3, none⟩ = some (.int .i64 0) := (blk_cell BK191.out 3).trans rfl
           have hcz29_4 : w11.cell? ⟨gb191, 4, none⟩ = some (.int .i64 0) := (blk_cell BK191.out 4).trans rfl
           have hfz29_0 := blk_frozen BK191.out 0
           have hfz29_1 := blk_frozen BK191.out 1
           have hfz29_2 := blk_frozen BK191.out 2
           have hfz29_3 := blk_frozen BK191.out 3
           have hfz29_4 := blk_frozen BK191.out 4
           go_wp2
           go_meet
           case rel => exact ⟨_, (true), rfl, H', ⟨by have := HK1.out; first | omega | exact Nat.le_refl _⟩, ⟨by (with_reducible repeat first | apply q1_ | apply q2_ | apply q3_); refine blk_far ?_ NB189_191.out _; (with_reducible repeat first | apply q1_ | apply q2_ | apply q3_); refine blk_far ?_ NB189_191.out _; (with_reducible repeat first | apply q1_ | apply q2_ | apply q3_); refine blk_far ?_ NB189_191.out _; (with_reducible repeat first | apply q1_ | apply q2_ | apply q3_); refine blk_far ?_ NB189_191.out _; (with_reducible repeat first | apply q1_ | apply q2_ | apply q3_); refine blk_far ?_ NB189_191.out _; (with_reducible repeat first | apply q1_ | apply q2_ | apply q3_); exact BK189.out⟩, ⟨by (with_reducible repeat first | apply q1_ | apply q2_ | apply q3_); refine blk_put (cs := #[.string ((rd_T74 l1 x17_1).f0), .slice A190_1 ((rd_T74 l1 x17_1).f1).length c190_1, .int .i64 ((rd_T74 l1 x17_1).f2), .int .i64 ((rd_T74 l1 x17_1).f3), .int .i64 0]) ?_ 4 _ rfl; (with_reducible repeat first | apply q1_ | apply q2_ | apply q3_); refine blk_put (cs := #[.string ((rd_T74 l1 x17_1).f0), .slice A190_1 ((rd_T74 l1 x17_1).f1).length c190_1, .int .i64 ((rd_T74 l1 x17_1).f2), .int .i64 0, .int .i64 0]) ?_ 3 _ rfl; (with_reducible repeat first | apply q1_ | apply q2_ | apply q3_); refine blk_put (cs := #[.string ((rd_T74 l1 x17_1).f0), .slice A190_1 ((rd_T74 l1 x17_1).f1).length c190_1, .int .i64 0, .int .i64 0, .int .i64 0]) ?_ 2 _ rfl; (with_reducible repeat first | apply q1_ | apply q2_ | apply q3_); refine blk_put (cs := #[.string ((rd_T74 l1 x17_1).f0), .slice none 0 0, .int .i64 0, .int .i64 0, .int .i64 0]) ?_ 1 _ rfl; (with_reducible repeat first | apply q1_ | apply q2_ | apply q3_); refine blk_put (cs := #[.string (⟨#[]⟩ : ByteArray), .slice none 0 0, .int .i64 0, .int .i64 0, .int .i64 0]) ?_ 0 _ rfl; (with_reducible repeat first | apply q1_ | apply q2_ | apply q3_); exact BK191.out⟩, ⟨by repeat (first | (with_reducible first | exact HB.out | apply q4_ | apply q5_ | apply q6_ | refine below_set ?_ GE189.out | refine below_set ?_ GE191.out) | exact HB.out)⟩⟩
         ·rw [if_neg c14] at H
          have c14b0 : (((rd_T74 l0 x17_1).f0).toList == ((rd_T74 l1 x17_1).f0).toList) = false := beq_eq_false_iff_ne.mpr c14
          have c14b1 : (((rd_T74 l0 x17_1).f0).toList != ((rd_T74 l1 x17_1).f0).toList) = true := bne_iff_ne.mpr c14
          (first | rw [c14b0] | (simp only [i64_w, i32_w]; rw [c14b0]) | skip)
          have H' := Aside0.mk H
          clear H
          have hnb30 := NB189_191.out
          have hnc30 := NB191_189.out
          have hcz31_0 : w11.cell? ⟨gb189, 0, none⟩ = some (.string ((rd_T74 l0 x17_1).f0)) := (blk_cell BK189.out 0).trans rfl
          have hcz31_1 : w11.cell? ⟨gb189, 1, none⟩ = some (.slice A188_1 ((rd_T74 l0 x17_1).f1).length c188_1) := (blk_cell BK189.out 1).trans rfl
          have hcz31_2 : w11.cell? ⟨gb189, 2, none⟩ = some (.int .i64 ((rd_T74 l0 x17_1).f2)) := (blk_cell BK189.out 2).trans rfl
          have hcz31_3 : w11.cell? ⟨gb189, 3, none⟩ = some (.int .i64 ((rd_T74 l0 x17_1).f3)) := (blk_cell BK189.out 3).trans rfl
          have hcz31_4 : w11.cell? ⟨gb189, 4, none⟩ = some (.int .i64 ((rd_T74 l0 x17_1).f4)) := (blk_cell BK189.out 4).trans rfl
          have hfz31_0 := blk_frozen BK189.out 0
          have hfz31_1 := blk_frozen BK189.out 1
          have hfz31_2 := blk_frozen BK189.out 2
          have hfz31_3 := blk_frozen BK189.out 3
          have hfz31_4 := blk_frozen BK189.out 4
          have hcz32_0 : w11.cell? ⟨gb191, 0, none⟩ = some (.string (⟨#[]⟩ : ByteArray)) := (blk_cell BK191.out 0).trans rfl
          have hcz32_1 : w11.cell? ⟨gb191, 1, none⟩ = some (.slice none 0 0) := (blk_cell BK191.out 1).trans rfl
          have hcz32_2 : w11.cell? ⟨gb191, 2, none⟩ = some (.int .i64 0) := (blk_cell BK191.out 2).trans rfl
          have hcz32_3 : w11.cell? ⟨gb191, 3, none⟩ = some (.int .i64 0) := (blk_cell BK191.out 3).trans rfl
          have hcz32_4 : w11.cell? ⟨gb191, 4, none⟩ = some (.int .i64 0) := (blk_cell BK191.out 4).trans rfl
          have hfz32_0 := blk_frozen BK191.out 0
          have hfz32_1 := blk_frozen BK191.out 1
          have hfz32_2 := blk_frozen BK191.out 2
          have hfz32_3 := blk_frozen BK191.out 3
          have hfz32_4 := blk_frozen BK191.out 4
          go_wp2
          go_meet
          case rel => exact ⟨_, (true), rfl, H', ⟨by have := HK1.out; first | omega | exact Nat.le_refl _⟩, ⟨by (with_reducible repeat first | apply q1_ | apply q2_ | apply q3_); refine blk_far ?_ NB189_191.out _; (with_reducible repeat first | apply q1_ | apply q2_ | apply q3_); refine blk_far ?_ NB189_191.out _; (with_reducible repeat first | apply q1_ | apply q2_ | apply q3_); refine blk_far ?_ NB189_191.out _; (with_reducible repeat first | apply q1_ | apply q2_ | apply q3_); refine blk_far ?_ NB189_191.out _; (with_reducible repeat first | apply q1_ | apply q2_ | apply q3_); refine blk_far ?_ NB189_191.out _; (with_reducible repeat first | apply q1_ | apply q2_ | apply q3_); exact BK189.out⟩, ⟨by (with_reducible repeat first | apply q1_ | apply q2_ | apply q3_); refine blk_put (cs := #[.string ((rd_T74 l1 x17_1).f0), .slice A190_1 ((rd_T74 l1 x17_1).f1).length c190_1, .int .i64 ((rd_T74 l1 x17_1).f2), .int .i64 ((rd_T74 l1 x17_1).f3), .int .i64 0]) ?_ 4 _ rfl; (with_reducible repeat first | apply q1_ | apply q2_ | apply q3_); refine blk_put (cs := #[.string ((rd_T74 l1 x17_1).f0), .slice A190_1 ((rd_T74 l1 x17_1).f1).length c190_1, .int .i64 ((rd_T74 l1 x17_1).f2), .int .i64 0, .int .i64 0]) ?_ 3 _ rfl; (with_reducible repeat first | apply q1_ | apply q2_ | apply q3_); refine blk_put (cs := #[.string ((rd_T74 l1 x17_1).f0), .slice A190_1 ((rd_T74 l1 x17_1).f1).length c190_1, .int .i64 0, .int .i64 0, .int .i64 0]) ?_ 2 _ rfl; (with_reducible repeat first | apply q1_ | apply q2_ | apply q3_); refine blk_put (cs := #[.string ((rd_T74 l1 x17_1).f0), .slice none 0 0, .int .i64 0, .int .i64 0, .int .i64 0]) ?_ 1 _ rfl; (with_reducible repeat first | apply q1_ | apply q2_ | apply q3_); refine blk_put (cs := #[.string (⟨#[]⟩ : ByteArray), .slice none 0 0, .int .i64 0, .int .i64 0, .int .i64 0]) ?_ 0 _ rfl; (with_reducible repeat first | apply q1_ | apply q2_ | apply q3_); exact BK191.out⟩, ⟨by repeat (first | (with_reducible first | exact HB.out | apply q4_ | apply q5_ | apply q6_ | refine below_set ?_ GE189.out | refine below_set ?_ GE191.out) | exact HB.out)⟩⟩
        case rest =>
         clear HC8
         try clear c1
         try clear p1
         try clear q1
         try clear hx1
         try clear c2
         try clear p2
         try clear c3
         try clear c3b0
         try clear c3b1
         try clear c3b2
         try clear c4
         try clear c4b0
         try clear c5
         try clear c5b0
         try clear c6
         try clear c6b0
         try clear c7
         try clear c7b0
         try clear c12
         try clear c14
         try clear c14b0
         try clear c14b1
         try clear c15
         try clear c15b0
         try clear c15b1
         try clear c16
         try clear c16b0
         try clear c16b1
         try clear c17
         try clear c17b0
         try clear c17b1
         try clear c18
         try clear p18
         try clear q18
         try clear hx18
         try clear c19
         try clear p19
         try clear q19
         try clear hx19
         try clear c21
         try clear c24
         try clear c27
         try clear c30
         try clear hcz10_0
         try clear hcz10_1
         try clear hcz10_2
         try clear hcz10_3
         try clear hcz10_4
         try clear hcz13_0
         try clear hcz13_1
         try clear hcz13_2
         try clear hcz13_3
         try clear hcz13_4
         try clear hcz19_0
         try clear hcz19_1
         try clear hcz19_2
         try clear hcz19_3
         try clear hcz19_4
         try clear hcz20_0
         try clear hcz20_1
         try clear hcz20_2
         try clear hcz20_3
         try clear hcz20_4
         try clear hcz22_0
         try clear hcz22_1
         try clear hcz22_2
         try clear hcz22_3
         try clear hcz22_4
         try clear hcz23_0
         try clear hcz23_1
         try clear hcz23_2
         try clear hcz23_3
         try clear hcz23_4
         try clear hcz25_0
         try clear hcz25_1
         try clear hcz25_2
         try clear hcz25_3
         try clear hcz25_4
         try clear hcz26_0
         try clear hcz26_1
         try clear hcz26_2
         try clear hcz26_3
         try clear hcz26_4
         try clear hcz28_0
         try clear hcz28_1
         try clear hcz28_2
         try clear hcz28_3
         try clear hcz28_4
         try clear hcz29_0
         try clear hcz29_1
         try clear hcz29_2
         try clear hcz29_3
         try clear hcz29_4
         try clear hcz31_0
         try clear hcz31_1
         try clear hcz31_2
         try clear hcz31_3
         try clear hcz31_4
         try clear hcz32_0
         try clear hcz32_1
         try clear hcz32_2
         try clear hcz32_3
         try clear hcz32_4
         try clear hfz10_0
         try clear hfz10_1
         try clear hfz10_2
         try clear hfz10_3
         try clear hfz10_4
         try clear hfz13_0
         try clear hfz13_1
         try clear hfz13_2
         try clear hfz13_3
         try clear hfz13_4
         try clear hfz19_0
         try clear hfz19_1
         try clear hfz19_2
         try clear hfz19_3
         try clear hfz19_4
         try clear hfz20_0
         try clear hfz20_1
         try clear hfz20_2
         try clear hfz20_3
         try clear hfz20_4
         try clear hfz22_0
         try clear hfz22_1
         try clear hfz22_2
         try clear hfz22_3
         try clear hfz22_4
         try clear hfz23_0
         try clear hfz23_1
         try clear hfz23_2
         try clear hfz23_3
         try clear hfz23_4
         try clear hfz25_0
         try clear hfz25_1
         try clear hfz25_2
         try clear hfz25_3
         try clear hfz25_4
         try clear hfz26_0
         try clear hfz26_1
         try clear hfz26_2
         try clear hfz26_3
         try clear hfz26_4
         try clear hfz28_0
         try clear hfz28_1
         try clear hfz28_2
         try clear hfz28_3
         try clear hfz28_4
         try clear hfz29_0
         try clear hfz29_1
         try clear hfz29_2
         try clear hfz29_3
         try clear hfz29_4
         try clear hfz31_0
         try clear hfz31_1
         try clear hfz31_2
         try clear hfz31_3
         try clear hfz31_4
         try clear hfz32_0
         try clear hfz32_1
         try clear hfz32_2
         try clear hfz32_3
         try clear hfz32_4
         try clear hx188_0
         try clear hx188_1
         try clear hx188_2
         try clear hx188_3
         try clear hx188_4
         try clear hx190_0
         try clear hx190_1
         try clear hx190_2
         try clear hx190_3
         try clear hx190_4
         try clear p188
         try clear p190
         try clear p2
         try clear q188
         try clear q190
         obtain ⟨kq, x60_7, rfl, HA, HJ7, BK189, BK191, HB⟩ := hcut
         cases kq with
         | zero => exact absurd HA.out (by simp [spec_l10Same.j1])
         | succ kj7 =>
          have H := HA.out
          clear HA
          simp only [spec_l10Same.j1] at H
          by_cases c33 : x60_7 = true
          ·subst c33
           have H1 : (some false) = some r := by rw [if_pos rfl] at H; exact H
           clear H
           have H := H1
           clear H1
           obtain rfl := Option.some.inj H
           go_wp2
           go_ret
           exact ⟨rfl, by exact HB.out⟩
          ·replace c33 := Bool.eq_false_iff.mpr c33
           subst c33
           have H1 : (spec_l10Same.l1 kj7 l1 l0 (l0.length : Int) x17_1 ((rd_T74 l0 x17_1).f1) (((rd_T74 l0 x17_1).f1).length : Int) 0 ((rd_T74 l1 x17_1).f0) ((rd_T74 l1 x17_1).f1) ((rd_T74 l1 x17_1).f2) ((rd_T74 l1 x17_1).f3) ((rd_T74 l1 x17_1).f4)) = some r := by rw [if_neg (show ¬ (false = true) by decide)] at H; exact H
           clear H
           have H := H1
           clear H1
           have H' := Aside0.mk H
           clear H
           have hnb34 := NB189_191.out
           have hnc34 := NB191_189.out
           have hcz35_0 : wc.cell? ⟨gb189, 0, none⟩ = some (.string ((rd_T74 l0 x17_1).f0)) := (blk_cell BK189.out 0).trans rfl
           have hcz35_1 : wc.cell? ⟨gb189, 1, none⟩ = some (.slice A188_1 ((rd_T74 l0 x17_1).f1).length c188_1) := (blk_cell BK189.out 1).trans rfl
           have hcz35_2 : wc.cell? ⟨gb189, 2, none⟩ = some (.int .i64 ((rd_T74 l0 x17_1).f2)) := (blk_cell BK189.out 2).trans rfl
           have hcz35_3 : wc.cell? ⟨gb189, 3, none⟩ = some (.int .i64 ((rd_T74 l0 x17_1).f3)) := (blk_cell BK189.out 3).trans rfl
           have hcz35_4 : wc.cell? ⟨gb189, 4, none⟩ = some (.int .i64 ((rd_T74 l0 x17_1).f4)) := (blk_cell BK189.out 4).trans rfl
           have hfz35_0 := blk_frozen BK189.out 0
           have hfz35_1 := blk_frozen BK189.out 1
           have hfz35_2 := blk_frozen BK189.out 2
           have hfz35_3 := blk_frozen BK189.out 3
           have hfz35_4 := blk_frozen BK189.out 4
           go_wp2
           go_loopg [64] kj7 (fun kq v64 w' => ∃ (x64_3 : Int), v64 = .int .i64 x64_3 ∧ Aside0 (spec_l10Same.l1 kq l1 l0 (l0.length : Int) x17_1 ((rd_T74 l0 x17_1).f1) (((rd_T74 l0 x17_1).f1).length : Int) x64_3 ((rd_T74 l1 x17_1).f0) ((rd_T74 l1 x17_1).f1) ((rd_T74 l1 x17_1).f2) ((rd_T74 l1 x17_1).f3) ((rd_T74 l1 x17_1).f4) = some r) ∧ Aside0 (kq ≤ kj7) ∧ Aside0 (w'.heap[gb189]? = some (.cells #[.string ((rd_T74 l0 x17_1).f0), (.slice A188_1 ((rd_T74 l0 x17_1).f1).length c188_1), .int .i64 ((rd_T74 l0 x17_1).f2), .int .i64 ((rd_T74 l0 x17_1).f3), .int .i64 ((rd_T74 l0 x17_1).f4)] 74 (0, 0))) ∧ Aside0 (w'.heap[gb191]? = some (.cells #[.string ((rd_T74 l1 x17_1).f0), (.slice A190_1 ((rd_T74 l1 x17_1).f1).length c190_1), .int .i64 ((rd_T74 l1 x17_1).f2), .int .i64 ((rd_T74 l1 x17_1).f3), .int .i64 ((rd_T74 l1 x17_1).f4)] 74 (0, 0))) ∧ Aside0 (Below w.heap.size w w'))
           case atStart => exact ⟨(0), rfl, H', ⟨Nat.le_refl _⟩, ⟨by (with_reducible repeat first | apply q1_ | apply q2_ | apply q3_); exact BK189.out⟩, ⟨by (with_reducible repeat first | apply q1_ | apply q2_ | apply q3_); exact BK191.out⟩, ⟨by exact HB.out⟩⟩
           case round =>
            clear H'
            try clear c1
            try clear p1
            try clear q1
            try clear hx1
            try clear c2
            try clear p2
            try clear c3
            try clear c3b0
            try clear c3b1
            try clear c3b2
            try clear c4
            try clear c4b0
            try clear c5
            try clear c5b0
            try clear c6
            try clear c6b0
            try clear c7
            try clear c7b0
            try clear c12
            try clear c14
            try clear c14b0
            try clear c14b1
            try clear c15
            try clear c15b0
            try clear c15b1
            try clear c16
            try clear c16b0
            try clear c16b1
            try clear c17
            try clear c17b0
            try clear c17b1
            try clear c18
            try clear p18
            try clear q18
            try clear hx18
            try clear c19
            try clear p19
            try clear q19
            try clear hx19
            try clear c21
            try clear c24
            try clear c27
            try clear c30
            try clear c33
            try clear c34
            try clear hcz10_0
            try clear hcz10_1
            try clear hcz10_2
            try clear hcz10_3
            try clear hcz10_4
            try clear hcz13_0
            try clear hcz13_1
            try clear hcz13_2
            try clear hcz13_3
            try clear hcz13_4
            try clear hcz19_0
            try clear hcz19_1
            try clear hcz19_2
            try clear hcz19_3
            try clear hcz19_4
            try clear hcz20_0
            try clear hcz20_1
            try clear hcz20_2
            try clear hcz20_3
            try clear hcz20_4
            try clear hcz22_0
            try clear hcz22_1
            try clear hcz22_2
            try clear hcz22_3
            try clear hcz22_4
            try clear hcz23_0
            try clear hcz23_1
            try clear hcz23_2
            try clear hcz23_3
            try clear hcz23_4
            try clear hcz25_0
            try clear hcz25_1
            try clear hcz25_2
            try clear hcz25_3
            try clear hcz25_4
            try clear hcz26_0
            try clear hcz26_1
            try clear hcz26_2
            try clear hcz26_3
            try clear hcz26_4
            try clear hcz28_0
            try clear hcz28_1
            try clear hcz28_2
            try clear hcz28_3
            try clear hcz28_4
            try clear hcz29_0
            try clear hcz29_1
            try clear hcz29_2
            try clear hcz29_3
            try clear hcz29_4
            try clear hcz31_0
            try clear hcz31_1
            try clear hcz31_2
            try clear hcz31_3
            try clear hcz31_4
            try clear hcz32_0
            try clear hcz32_1
            try clear hcz32_2
            try clear hcz32_3
            try clear hcz32_4
            try clear hcz35_0
            try clear hcz35_1
            try clear hcz35_2
            try clear hcz35_3
            try clear hcz35_4
            try clear hfz10_0
            try clear hfz10_1
            try clear hfz10_2
            try clear hfz10_3
            try clear hfz10_4
            try clear hfz13_0
            try clear hfz13_1
            try clear hfz13_2
            try clear hfz13_3
            try clear hfz13_4
            try clear hfz19_0
            try clear hfz19_1
            try clear hfz19_2
            try clear hfz19_3
            try clear hfz19_4
            try clear hfz20_0
            try clear hfz20_1
            try clear hfz20_2
            try clear hfz20_3
            try clear hfz20_4
            try clear hfz22_0
            try clear hfz22_1
            try clear hfz22_2
            try clear hfz22_3
            try clear hfz22_4
            try clear hfz23_0
            try clear hfz23_1
            try clear hfz23_2
            try clear hfz23_3
            try clear hfz23_4
            try clear hfz25_0
            try clear hfz25_1
            try clear hfz25_2
            try clear hfz25_3
            try clear hfz25_4
            try clear hfz26_0
            try clear hfz26_1
            try clear hfz26_2
            try clear hfz26_3
            try clear hfz26_4
            try clear hfz28_0
            try clear hfz28_1
            try clear hfz28_2
            try clear hfz28_3
            try clear hfz28_4
            try clear hfz29_0
            try clear hfz29_1
            try clear hfz29_2
            try clear hfz29_3
            try clear hfz29_4
            try clear hfz31_0
            try clear hfz31_1
            try clear hfz31_2
            try clear hfz31_3
            try clear hfz31_4
            try clear hfz32_0
            try clear hfz32_1
            try clear hfz32_2
            try clear hfz32_3
            try clear hfz32_4
            try clear hfz35_0
            try clear hfz35_1
            try clear hfz35_2
            try clear hfz35_3
            try clear hfz35_4
            try clear hx188_0
            try clear hx188_1
            try clear hx188_2
            try clear hx188_3
            try clear hx188_4
            try clear hx190_0
            try clear hx190_1
            try clear hx190_2
            try clear hx190_3
            try clear hx190_4
            try clear p1
            try clear p18
            try clear p188
            try clear p19
            try clear p190
            try clear p2
            try clear q1
            try clear q18
            try clear q188
            try clear q19
            try clear q190
            obtain ⟨x64_3, rfl, HA, HK3, BK189, BK191, HB⟩ := hrel
            cases gk with
            | zero => exact absurd HA.out (by simp [spec_l10Same.l1])
            | succ k3 =>
             have H := HA.out
             clear HA
             simp only [spec_l10Same.l1] at H
             by_cases c36 : x64_3 < (((rd_T74 l0 x17_1).f1).length : Int)
             ·rw [if_pos c36] at H
              have c36b0 : decide (x64_3 < (((rd_T74 l0 x17_1).f1).length : Int)) = true := decide_eq_true c36
              clear c36
              by_cases c37 : 0 ≤ x64_3
              ·rw [if_pos c37] at H
               have c37b0 : decide (0 ≤ x64_3) = true := decide_eq_true c37
               clear c37
               by_cases c38 : x64_3 < (((rd_T74 l0 x17_1).f1).length : Int)
               ·rw [if_pos c38] at H
                have c38b0 : decide (x64_3 < (((rd_T74 l0 x17_1).f1).length : Int)) = true := decide_eq_true c38
                clear c38
                by_cases c39 : x64_3 < (((rd_T74 l1 x17_1).f1).length : Int)
                ·rw [if_pos c39] at H
                 have c39b0 : decide (x64_3 < (((rd_T74 l1 x17_1).f1).length : Int)) = true := decide_eq_true c39
                 clear c39
                 by_cases c40 : (rd ((rd_T74 l1 x17_1).f1) x64_3) = (rd ((rd_T74 l0 x17_1).f1) x64_3)
                 ·rw [if_pos c40] at H
                  have c40b0 : ((rd ((rd_T74 l1 x17_1).f1) x64_3) == (rd ((rd_T74 l0 x17_1).f1) x64_3)) = true := beq_iff_eq.mpr c40
                  have c40b1 : ((rd ((rd_T74 l1 x17_1).f1) x64_3) != (rd ((rd_T74 l0 x17_1).f1) x64_3)) = false := bne_eq_false_iff_eq.mpr c40
                  clear c40
                  have H' := Aside0.mk H
                  clear H
                  have p192 : 0 ≤ (x64_3 : Int) := of_decide_eq_true (by assumption)
                  have q192 : x64_3 < (((rd_T74 l0 x17_1).f1).length : Int) := of_decide_eq_true (by assumption)
                  obtain ⟨ad192, e192, hx192_0⟩ := Kd.at_int HR188_1.out x64_3 p192 q192
                  cases e192
                  replace hx192_0 := (HB.out.cell (World.block_lt_of_cell? w _ hx192_0)).trans hx192_0
                  replace p192 := eq_true p192
                  replace q192 := eq_true q192
                  have hnb41 := NB191_189.out
                  have hnc41 := NB189_191.out
                  have hcz42_0 : wr.cell? ⟨gb191, 0, none⟩ = some (.string ((rd_T74 l1 x17_1).f0)) := (blk_cell BK191.out 0).trans rfl
                  have hcz42_1 : wr.cell? ⟨gb191, 1, none⟩ = some (.slice A190_1 ((rd_T74 l1 x17_1).f1).length c190_1) := (blk_cell BK191.out 1).trans rfl
                  have hcz42_2 : wr.cell? ⟨gb191, 2, none⟩ = some (.int .i64 ((rd_T74 l1 x17_1).f2)) := (blk_cell BK191.out 2).trans rfl
                  have hcz42_3 : wr.cell? ⟨gb191, 3, none⟩ = some (.int .i64 ((rd_T74 l1 x17_1).f3)) := (blk_cell BK191.out 3).trans rfl
                  have hcz42_4 : wr.cell? ⟨gb191, 4, none⟩ = some (.int .i64 ((rd_T74 l1 x17_1).f4)) := (blk_cell BK191.out 4).trans rfl
                  have hfz42_0 := blk_frozen BK191.out 0
                  have hfz42_1 := blk_frozen BK191.out 1
                  have hfz42_2 := blk_frozen BK191.out 2
                  have hfz42_3 := blk_frozen BK191.out 3
                  have hfz42_4 := blk_frozen BK191.out 4
                  have p193 : 0 ≤ (x64_3 : Int) := of_decide_eq_true (by assumption)
                  have q193 : x64_3 < (((rd_T74 l1 x17_1).f1).length : Int) := of_decide_eq_true (by assumption)
                  obtain ⟨ad193, e193, hx193_0⟩ := Kd.at_int HR190_1.out x64_3 p193 q193
                  cases e193
                  replace hx193_0 := (HB.out.cell (World.block_lt_of_cell? w _ hx193_0)).trans hx193_0
                  replace p193 := eq_true p193
                  replace q193 := eq_true q193
                  go_wp2
                  go_roundg k3
                  case measure => have := HK1.out; have := HJ7.out; have := HK3.out; omega
                  case rel => exact ⟨(wrap64 (x64_3 + 1)), rfl, H', ⟨by have := HK1.out; have := HJ7.out; have := HK3.out; omega⟩, ⟨by (with_reducible repeat first | apply q1_ | apply q2_ | apply q3_); exact BK189.out⟩, ⟨by (with_reducible repeat first | apply q1_ | apply q2_ | apply q3_); exact BK191.out⟩, ⟨by exact HB.out⟩⟩
                 ·rw [if_neg c40] at H
                  have c40b0 : ((rd ((rd_T74 l1 x17_1).f1) x64_3) == (rd ((rd_T74 l0 x17_1).f1) x64_3)) = false := beq_eq_false_iff_ne.mpr c40
                  have c40b1 : ((rd ((rd_T74 l1 x17_1).f1) x64_3) != (rd ((rd_T74 l0 x17_1).f1) x64_3)) = true := bne_iff_ne.mpr c40
                  obtain rfl := Option.some.inj H
                  have p192 : 0 ≤ (x64_3 : Int) := of_decide_eq_true (by assumption)
                  have q192 : x64_3 < (((rd_T74 l0 x17_1).f1).length : Int) := of_decide_eq_true (by assumption)
                  obtain ⟨ad192, e192, hx192_0⟩ := Kd.at_int HR188_1.out x64_3 p192 q192
                  cases e192
                  replace hx192_0 := (HB.out.cell (World.block_lt_of_cell? w _ hx192_0)).trans hx192_0
                  replace p192 := eq_true p192
                  replace q192 := eq_true q192
                  have hnb43 := NB191_189.out
                  have hnc43 := NB189_191.out
                  have hcz44_0 : wr.cell? ⟨gb191, 0, none⟩ = some (.string ((rd_T74 l1 x17_1).f0)) := (blk_cell BK191.out 0).trans rfl
                  have hcz44_1 : wr.cell? ⟨gb191, 1, none⟩ = some (.slice A190_1 ((rd_T74 l1 x17_1).f1).length c190_1) := (blk_cell BK191.out 1).trans rfl
                  have hcz44_2 : wr.cell? ⟨gb191, 2, none⟩ = some (.int .i64 ((rd_T74 l1 x17_1).f2)) := (blk_cell BK191.out 2).trans rfl
                  have hcz44_3 : wr.cell? ⟨gb191, 3, none⟩ = some (.int .i64 ((rd_T74 l1 x17_1).f3)) := (blk_cell BK191.out 3).trans rfl
                  have hcz44_4 : wr.cell? ⟨gb191, 4, none⟩ = some (.int .i64 ((rd_T74 l1 x17_1).f4)) := (blk_cell BK191.out 4).trans rfl
                  have hfz44_0 := blk_frozen BK191.out 0
                  have hfz44_1 := blk_frozen BK191.out 1
                  have hfz44_2 := blk_frozen BK191.out 2
                  have hfz44_3 := blk_frozen BK191.out 3
                  have hfz44_4 := blk_frozen BK191.out 4
                  have p193 : 0 ≤ (x64_3 : Int) := of_decide_eq_true (by assumption)
                  have q193 : x64_3 < (((rd_T74 l1 x17_1).f1).length : Int) := of_decide_eq_true (by assumption)
                  obtain ⟨ad193, e193, hx193_0⟩ := Kd.at_int HR190_1.out x64_3 p193 q193
                  cases e193
                  replace hx193_0 := (HB.out.cell (World.block_lt_of_cell? w _ hx193_0)).trans hx193_0
                  replace p193 := eq_true p193
                  replace q193 := eq_true q193
                  go_wp2
                  go_ret
                  exact ⟨rfl, by exact HB.out⟩
                ·rw [if_neg c39] at H
                 exact absurd H (by simp)
               ·rw [if_neg c38] at H
                exact absurd H (by simp)
              ·rw [if_neg c37] at H
               exact absurd H (by simp)
             ·rw [if_neg c36] at H
              have c36b0 : decide (x64_3 < (((rd_T74 l0 x17_1).f1).length : Int)) = false := decide_eq_false c36
              clear c36
              have H' := Aside0.mk H
              clear H
              go_wp2
              go_roundg k3
              case measure => have := HK1.out; have := HJ7.out; have := HK3.out; omega
              case rel => exact ⟨(wrap64 (x17_1 + 1)), rfl, H', ⟨by have := HK1.out; have := HJ7.out; have := HK3.out; omega⟩, ⟨by exact HB.out⟩⟩
       ·rw [if_neg c7] at H
        exact absurd H (by simp)
      ·rw [if_neg c6] at H
       exact absurd H (by simp)
     ·rw [if_neg c5] at H
      exact absurd H (by simp)
    ·rw [if_neg c4] at H
     have c4b0 : decide (x17_1 < (l0.length : Int)) = false := decide_eq_false c4
     clear c4
     obtain rfl := Option.some.inj H
     go_wp2
     go_ret
     exact ⟨rfl, by exact HB.out⟩
 ·rw [if_neg c3] at H
  have c3b0 : ((l0.length : Int) == (l1.length : Int)) = false := beq_eq_false_iff_ne.mpr c3
  have c3b1 : ((l0.length : Int) != (l1.length : Int)) = true := bne_iff_ne.mpr c3
  have c3b2 : (l0.length == l1.length) = false := by first | simpa using c3 | (simp at c3 ⊢; omega)
  obtain rfl := Option.some.inj H
  go_enter Try.func52, Try.ntmps52
  go_wp2
  go_ret
  exact ⟨rfl, by exact HB.out⟩
end
end Go.Proofs.Ytkkphbjemnifiaa.PFnFound
