-- Printed for this claim by a changed copy of the kit's printing program (wip/tools/patch_print.py); Lean checks it.
import Derived.Test.YtkkphbjemnifiaaPFnFoundx0
import Derived.Test.YtkkphbjemnifiaaPFnFoundx1
import Derived.Test.YtkkphbjemnifiaaPFnFoundx5
namespace Go.Proofs.Ytkkphbjemnifiaa.PFnFound
open Go.RowKit Go.Proofs.YtkkphbjemnifiaaW.PrintWords Go.Proofs.YtkkphbjemnifiaaW.PrintLast Go.Proofs.YtkkphbjemnifiaaW.PrintMore
attribute [local go_sem] max2_int min2_int max_two min_two max_three min_three max_four min_four   -- for this text's walks alone
set_option linter.unusedVariables false
set_option linter.unusedSimpArgs false

noncomputable section
attribute [local go_sem high] eqA51
/-! ### spec_GoodPairs: function 51 -/
mutual
def spec_GoodPairs.l0 : Nat → List (S51) → List ByteArray → List (S51) → Int → Int → Option (Bool)
 | 0, _, _, _, _, _ => none
 | k + 1, x0, x3, x8, x9, x10 => if x10 < x9 then (if 0 ≤ x10 then (if x10 < (x8.length : Int) then (if (((rd_T51 x8 x10).f0).size : Int) = 4 then ((spec_l1In.f ((rd_T51 x8 x10).f1) 0 10000).bind fun t178 => (spec_GoodPairs.j1 k x0 x3 x10 x8 x9 x10 (!t178) ((rd_T51 x8 x10).f0) ((rd_T51 x8 x10).f1))) else (spec_GoodPairs.j1 k x0 x3 x10 x8 x9 x10 true ((rd_T51 x8 x10).f0) ((rd_T51 x8 x10).f1))) else (none)) else (none)) else (if (x0.length : Int) ≤ 60 then (some (decide ((x3.length : Int) ≤ 20))) else (some false))
def spec_GoodPairs.j1 : Nat → List (S51) → List ByteArray → Int → List (S51) → Int → Int → Bool → ByteArray → Int → Option (Bool)
 | 0, _, _, _, _, _, _, _, _, _ => none
 | k + 1, x0, x3, x4, x8, x9, x10, x24, x178000, x178001 => if x24 = true then (some false) else (if 0 ≤ x4 then (if x4 ≤ (x0.length : Int) then ((some (x0.take (x4 : Int).toNat : List (S51))).bind fun y179 => (spec_GoodPairs.l1 k x0 x3 x8 x9 x10 y179 (y179.length : Int) 0 x178000 x178001)) else (none)) else (none))
def spec_GoodPairs.l1 : Nat → List (S51) → List ByteArray → List (S51) → Int → Int → List (S51) → Int → Int → ByteArray → Int → Option (Bool)
 | 0, _, _, _, _, _, _, _, _, _, _ => none
 | k + 1, x0, x3, x8, x9, x10, x27, x28, x29, x178000, x178001 => if x29 < x28 then (if 0 ≤ x29 then (if x29 < (x27.length : Int) then (if (x178000.toList == (((rd_T51 x27 x29).f0).toList) && (x178001 == ((rd_T51 x27 x29).f1))) = true then (some false) else (spec_GoodPairs.l1 k x0 x3 x8 x9 x10 x27 x28 (wrap64 (x29 + 1)) x178000 x178001)) else (none)) else (none)) else ((spec_l10Put.f k x3 x178000).bind fun t185 => (spec_GoodPairs.l0 k x0 t185 x8 x9 (wrap64 (x10 + 1))))
end
def spec_GoodPairs.f (k : Nat) (l0 : List (S51)) : Option (Bool) := spec_GoodPairs.l0 k l0 ([] : List ByteArray) l0 (l0.length : Int) 0
theorem spec_GoodPairs.mono_l : ∀ k, (∀ y0 y1 y2 y3 y4, LeO (spec_GoodPairs.l0 k y0 y1 y2 y3 y4) (spec_GoodPairs.l0 (k + 1) y0 y1 y2 y3 y4)) ∧ (∀ y0 y1 y2 y3 y4 y5 y6 y7 y8, LeO (spec_GoodPairs.j1 k y0 y1 y2 y3 y4 y5 y6 y7 y8) (spec_GoodPairs.j1 (k + 1) y0 y1 y2 y3 y4 y5 y6 y7 y8)) ∧ (∀ y0 y1 y2 y3 y4 y5 y6 y7 y8 y9, LeO (spec_GoodPairs.l1 k y0 y1 y2 y3 y4 y5 y6 y7 y8 y9) (spec_GoodPairs.l1 (k + 1) y0 y1 y2 y3 y4 y5 y6 y7 y8 y9))
 | 0 => ⟨fun _ _ _ _ _ r h => by simp [spec_GoodPairs.l0] at h, fun _ _ _ _ _ _ _ _ _ r h => by simp [spec_GoodPairs.j1] at h, fun _ _ _ _ _ _ _ _ _ _ r h => by simp [spec_GoodPairs.l1] at h⟩
 | k + 1 => by
  obtain ⟨ih0, ih1, ih2⟩ := spec_GoodPairs.mono_l k
  refine ⟨?_, ?_, ?_⟩
  ·intro y0 y1 y2 y3 y4
   unfold spec_GoodPairs.l0
   repeat' first
   | (with_reducible exact ih0 _ _ _ _ _)
   | (with_reducible exact ih1 _ _ _ _ _ _ _ _ _)
   | (with_reducible exact ih2 _ _ _ _ _ _ _ _ _ _)
   | (with_reducible exact spec_l10Put.mono _ _ _)
   | (with_reducible exact LeO.refl _)
   | (with_reducible exact LeO.none _)
   | (with_reducible refine LeO.ite ?_ ?_)
   | (with_reducible refine LeO.bind ?_ (fun _ => ?_))
   | exact LeO.none _
   | refine LeO.ite ?_ ?_
   | refine LeO.bind ?_ (fun _ => ?_)
  ·intro y0 y1 y2 y3 y4 y5 y6 y7 y8
   unfold spec_GoodPairs.j1
   repeat' first
   | (with_reducible exact ih0 _ _ _ _ _)
   | (with_reducible exact ih1 _ _ _ _ _ _ _ _ _)
   | (with_reducible exact ih2 _ _ _ _ _ _ _ _ _ _)
   | (with_reducible exact spec_l10Put.mono _ _ _)
   | (with_reducible exact LeO.refl _)
   | (with_reducible exact LeO.none _)
   | (with_reducible refine LeO.ite ?_ ?_)
   | (with_reducible refine LeO.bind ?_ (fun _ => ?_))
   | exact LeO.none _
   | refine LeO.ite ?_ ?_
   | refine LeO.bind ?_ (fun _ => ?_)
  ·intro y0 y1 y2 y3 y4 y5 y6 y7 y8 y9
   unfold spec_GoodPairs.l1
   repeat' first
   | (with_reducible exact ih0 _ _ _ _ _)
   | (with_reducible exact ih1 _ _ _ _ _ _ _ _ _)
   | (with_reducible exact ih2 _ _ _ _ _ _ _ _ _ _)
   | (with_reducible exact spec_l10Put.mono _ _ _)
   | (with_reducible exact LeO.refl _)
   | (with_reducible exact LeO.none _)
   | (with_reducible refine LeO.ite ?_ ?_)
   | (with_reducible refine LeO.bind ?_ (fun _ => ?_))
   | exact LeO.none _
   | refine LeO.ite ?_ ?_
   | refine LeO.bind ?_ (fun _ => ?_)
theorem spec_GoodPairs.mono : ∀ a0 k, LeO (spec_GoodPairs.f k a0) (spec_GoodPairs.f (k + 1) a0) := by
 intro a0 k
 obtain ⟨ih0, ih1, ih2⟩ := spec_GoodPairs.mono_l k
 unfold spec_GoodPairs.f
 repeat' first
   | (with_reducible exact ih0 _ _ _ _ _)
   | (with_reducible exact ih1 _ _ _ _ _ _ _ _ _)
   | (with_reducible exact ih2 _ _ _ _ _ _ _ _ _ _)
   | (with_reducible exact spec_l10Put.mono _ _ _)
   | (with_reducible exact LeO.refl _)
   | (with_reducible exact LeO.none _)
   | (with_reducible refine LeO.ite ?_ ?_)
   | (with_reducible refine LeO.bind ?_ (fun _ => ?_))
   | exact LeO.none _
   | refine LeO.ite ?_ ?_
   | refine LeO.bind ?_ (fun _ => ?_)
set_option maxHeartbeats 8000000 in
set_option maxRecDepth 100000 in
theorem spec_GoodPairs.calls (k : Nat) (A0 : Option Addr) (c0 : Nat) (l0 : List (S51)) (r : Bool) (w : World) (hr0 : Kd.C k51 w A0 l0.length l0) (hc0 : l0.length ≤ c0) (h : spec_GoodPairs.f k l0 = some r) :
  Calls Try.prog 51 #[.slice A0 l0.length c0] w fun e w' => e = .returned (.bool r) ∧ Below w.heap.size w w' := by
 have hu51 := Try.underlying51
 have HR0 := Aside0.mk hr0
 have HC0 := Aside0.mk hc0
 clear hr0 hc0
 have HB := Aside0.mk (Below.refl w.heap.size w)
 have H : (spec_GoodPairs.l0 k l0 ([] : List ByteArray) l0 (l0.length : Int) 0) = some r := h
 clear h
 have H' := Aside0.mk H
 clear H
 go_enter Try.func51, Try.ntmps51
 go_wp2
 go_loopg [3, 10] k (fun kq v3 v10 w' => ∃ (x3_1 : List ByteArray) (x10_1 : Int), v10 = .int .i64 x10_1 ∧ Aside0 (spec_GoodPairs.l0 kq l0 x3_1 l0 (l0.length : Int) x10_1 = some r) ∧ Aside0 (kq ≤ k) ∧ Aside0 (Kd.R Kd.string 9 w' w.heap.size (fun _ => True) v3 x3_1) ∧ Aside0 (Below w.heap.size w w'))
 case atStart => exact ⟨(([] : List ByteArray)), (0), rfl, H', ⟨Nat.le_refl _⟩, ⟨by first | exact Kd.R_nil _ _ _ _ _ | exact Kd.N_nil _ _ _ _ _ | exact Kd.V_nil _ _ _ _ _ | exact Kd.Q_nil _ _ _ _ _ | exact Kd.S_nil _ _ _ _ _⟩, ⟨by exact HB.out⟩⟩
 case round =>
  clear H'
  obtain ⟨x3_1, x10_1, rfl, HA, HK1, HO_3, HB⟩ := hrel
  cases gk with
  | zero => exact absurd HA.out (by simp [spec_GoodPairs.l0])
  | succ k1 =>
   have H := HA.out
   clear HA
   simp only [spec_GoodPairs.l0] at H
   by_cases c2 : x10_1 < (l0.length : Int)
   ·rw [if_pos c2] at H
    have c2b0 : decide (x10_1 < (l0.length : Int)) = true := decide_eq_true c2
    clear c2
    by_cases c3 : 0 ≤ x10_1
    ·rw [if_pos c3] at H
     have c3b0 : decide (0 ≤ x10_1) = true := decide_eq_true c3
     clear c3
     by_cases c4 : x10_1 < (l0.length : Int)
     ·rw [if_pos c4] at H
      have c4b0 : decide (x10_1 < (l0.length : Int)) = true := decide_eq_true c4
      clear c4
      have HC5 := Aside0.mk H
      clear H
      have p176 : 0 ≤ (x10_1 : Int) := of_decide_eq_true (by assumption)
      have q176 : x10_1 < (l0.length : Int) := of_decide_eq_true (by assumption)
      obtain ⟨ad176, e176, hx176_0, hx176_1⟩ := at_T51 HR0.out x10_1 p176 q176
      cases e176
      replace hx176_0 := (HB.out.cell (World.block_lt_of_cell? w _ hx176_0)).trans hx176_0
      replace hx176_1 := (HB.out.cell (World.block_lt_of_cell? w _ hx176_1)).trans hx176_1
      replace p176 := eq_true p176
      replace q176 := eq_true q176
      go_upto_region 5 with (first | ((with_reducible refine gate_dst (N := 5) rfl ?_); (try (refine gate_guard (by rfl) ?_; dsimp only)); refine box_event ?hg (N := 5) ?hd (cs := #[.string (⟨#[]⟩ : ByteArray), .int .i64 0]) (t := 51) ?hr ?_; (case hd => rfl); (case hg => rfl); (case hr => go_simp); intro gb177 hg w6 hbox hb; have n0_ := Aside0.mk (Kd.R_below HO_3.out hb); have n1_ := Aside0.mk (below_step HB.out hb); have n2_ := Aside0.mk (hbox); have n3_ := Aside0.mk ((by rw [hg]; exact (below_size HB.out) : w.heap.size ≤ gb177)); have n4_ := Aside0.mk ((by rw [hg]; exact (below_size HB.out) : w.heap.size ≤ gb177)); clear HO_3; clear HB; have HO_3 := n0_; have HB := n1_; have BK177 := n2_; have GW177 := n3_; have GE177 := n4_; clear n0_ n1_ n2_ n3_ n4_; clear hb hbox hg; have hcz7_0 : w6.cell? ⟨gb177, 0, none⟩ = some (.string (⟨#[]⟩ : ByteArray)) := (blk_cell BK177.out 0).trans rfl; have hcz7_1 : w6.cell? ⟨gb177, 1, none⟩ = some (.int .i64 0) := (blk_cell BK177.out 1).trans rfl; have hfz7_0 := blk_frozen BK177.out 0; have hfz7_1 := blk_frozen BK177.out 1))
      (try simp only [Act.put, List.setIfInBounds_toArray, List.set_cons_zero, List.set_cons_succ])
      go_cut [24] (fun v24 wc => ∃ (kq : Nat) (x24_4 : Bool), v24 = .bool x24_4 ∧ Aside0 (spec_GoodPairs.j1 kq l0 x3_1 x10_1 l0 (l0.length : Int) x10_1 x24_4 ((rd_T51 l0 x10_1).f0) ((rd_T51 l0 x10_1).f1) = some r) ∧ Aside0 (kq ≤ k1) ∧ Aside0 (Kd.R Kd.string 9 wc w.heap.size (fun _ => True) u3 x3_1) ∧ Aside0 (wc.heap[gb177]? = some (.cells #[.string ((rd_T51 l0 x10_1).f0), .int .i64 ((rd_T51 l0 x10_1).f1)] 51 (0, 0))) ∧ Aside0 (Below w.heap.size w wc))
      case first =>
       have H := HC5.out
       clear HC5
       by_cases c8 : (((rd_T51 l0 x10_1).f0).size : Int) = 4
       ·rw [if_pos c8] at H
        have c8b0 : ((((rd_T51 l0 x10_1).f0).size : Int) == 4) = true := beq_iff_eq.mpr c8
        have c8b1 : ((((rd_T51 l0 x10_1).f0).size : Int) != 4) = false := bne_eq_false_iff_eq.mpr c8
        clear c8
        (first | rw [c8b0] | (simp only [i64_w, i32_w]; rw [c8b0]) | skip)
        replace H := Option.bind_eq_some_iff.mp H
        obtain ⟨t178, A90, H⟩ := H
        replace H : (spec_GoodPairs.j1 k1 l0 x3_1 x10_1 l0 (l0.length : Int) x10_1 (!t178) ((rd_T51 l0 x10_1).f0) ((rd_T51 l0 x10_1).f1)) = some r := H
        have A9 := Aside0.mk A90
        clear A90
        have H' := Aside0.mk H
        clear H
        have hcz10_0 : w6.cell? ⟨gb177, 0, none⟩ = some (.string (⟨#[]⟩ : ByteArray)) := (blk_cell BK177.out 0).trans rfl
        have hcz10_1 : w6.cell? ⟨gb177, 1, none⟩ = some (.int .i64 0) := (blk_cell BK177.out 1).trans rfl
        have hfz10_0 := blk_frozen BK177.out 0
        have hfz10_1 := blk_frozen BK177.out 1
        go_wp2_with (first | (go_at_call 78; (with_reducible refine (spec_l1In.calls ((rd_T51 l0 x10_1).f1) 0 10000 t178 _ A9.out).mono ?_); rintro e w' ⟨rfl, ⟨nd, rfl⟩⟩))
        go_meet
        case rel => exact ⟨_, (!t178), rfl, H', ⟨by have := HK1.out; first | omega | exact Nat.le_refl _⟩, ⟨by (with_reducible repeat (first | apply Kd.R_alloc | apply Kd.R_drewN | apply Kd.R_drew)); exact Kd.R_mono (Kd.R_far (p := ⟨gb177, 1, none⟩) (Kd.R_far (p := ⟨gb177, 0, none⟩) (Kd.R_types HO_3.out BK177.out (by decide)) (fun _ hk => hk.2) (.string ((rd_T51 l0 x10_1).f0))) (fun _ hk => hk.2) (.int .i64 ((rd_T51 l0 x10_1).f1))) (fun _ hk => trivial)⟩, ⟨by (with_reducible repeat first | apply q1_ | apply q2_ | apply q3_); refine blk_put (cs := #[.string ((rd_T51 l0 x10_1).f0), .int .i64 0]) ?_ 1 _ rfl; (with_reducible repeat first | apply q1_ | apply q2_ | apply q3_); refine blk_put (cs := #[.string (⟨#[]⟩ : ByteArray), .int .i64 0]) ?_ 0 _ rfl; (with_reducible repeat first | apply q1_ | apply q2_ | apply q3_); exact BK177.out⟩, ⟨by repeat (first | (with_reducible first | exact HB.out | apply q4_ | apply q5_ | apply q6_ | refine below_set ?_ GE177.out) | exact HB.out)⟩⟩
       ·rw [if_neg c8] at H
        have c8b0 : ((((rd_T51 l0 x10_1).f0).size : Int) == 4) = false := beq_eq_false_iff_ne.mpr c8
        have c8b1 : ((((rd_T51 l0 x10_1).f0).size : Int) != 4) = true := bne_iff_ne.mpr c8
        (first | rw [c8b0] | (simp only [i64_w, i32_w]; rw [c8b0]) | skip)
        have H' := Aside0.mk H
        clear H
        have hcz11_0 : w6.cell? ⟨gb177, 0, none⟩ = some (.string (⟨#[]⟩ : ByteArray)) := (blk_cell BK177.out 0).trans rfl
        have hcz11_1 : w6.cell? ⟨gb177, 1, none⟩ = some (.int .i64 0) := (blk_cell BK177.out 1).trans rfl
        have hfz11_0 := blk_frozen BK177.out 0
        have hfz11_1 := blk_frozen BK177.out 1
        go_wp2
        go_meet
        case rel => exact ⟨_, (true), rfl, H', ⟨by have := HK1.out; first | omega | exact Nat.le_refl _⟩, ⟨by (with_reducible repeat (first | apply Kd.R_alloc | apply Kd.R_drewN | apply Kd.R_drew)); exact Kd.R_mono (Kd.R_far (p := ⟨gb177, 1, none⟩) (Kd.R_far (p := ⟨gb177, 0, none⟩) (Kd.R_types HO_3.out BK177.out (by decide)) (fun _ hk => hk.2) (.string ((rd_T51 l0 x10_1).f0))) (fun _ hk => hk.2) (.int .i64 ((rd_T51 l0 x10_1).f1))) (fun _ hk => trivial)⟩, ⟨by (with_reducible repeat first | apply q1_ | apply q2_ | apply q3_); refine blk_put (cs := #[.string ((rd_T51 l0 x10_1).f0), .int .i64 0]) ?_ 1 _ rfl; (with_reducible repeat first | apply q1_ | apply q2_ | apply q3_); refine blk_put (cs := #[.string (⟨#[]⟩ : ByteArray), .int .i64 0]) ?_ 0 _ rfl; (with_reducible repeat first | apply q1_ | apply q2_ | apply q3_); exact BK177.out⟩, ⟨by repeat (first | (with_reducible first | exact HB.out | apply q4_ | apply q5_ | apply q6_ | refine below_set ?_ GE177.out) | exact HB.out)⟩⟩
      case rest =>
       clear HC5
       try clear p1
       try clear q1
       try clear hx1
       try clear c2
       try clear c2b0
       try clear p2
       try clear c3
       try clear c3b0
       try clear c4
       try clear c4b0
       try clear c5
       try clear c8
       try clear c8b0
       try clear c8b1
       try clear hcz10_0
       try clear hcz10_1
       try clear hcz11_0
       try clear hcz11_1
       try clear hcz7_0
       try clear hcz7_1
       try clear hfz10_0
       try clear hfz10_1
       try clear hfz11_0
       try clear hfz11_1
       try clear hfz7_0
       try clear hfz7_1
       try clear hx176_0
       try clear hx176_1
       try clear p176
       try clear q176
       obtain ⟨kq, x24_4, rfl, HA, HJ4, HO_3, BK177, HB⟩ := hcut
       cases kq with
       | zero => exact absurd HA.out (by simp [spec_GoodPairs.j1])
       | succ kj4 =>
        have H := HA.out
        clear HA
        simp only [spec_GoodPairs.j1] at H
        by_cases c12 : x24_4 = true
        ·subst c12
         have H1 : (some false) = some r := by rw [if_pos rfl] at H; exact H
         clear H
         have H := H1
         clear H1
         obtain rfl := Option.some.inj H
         go_wp2
         go_ret
         exact ⟨rfl, by exact HB.out⟩
        ·replace c12 := Bool.eq_false_iff.mpr c12
         subst c12
         have H1 : (if 0 ≤ x10_1 then (if x10_1 ≤ (l0.length : Int) then ((some (l0.take (x10_1 : Int).toNat : List (S51))).bind fun y179 => (spec_GoodPairs.l1 kj4 l0 x3_1 l0 (l0.length : Int) x10_1 y179 (y179.length : Int) 0 ((rd_T51 l0 x10_1).f0) ((rd_T51 l0 x10_1).f1))) else (none)) else (none)) = some r := by rw [if_neg (show ¬ (false = true) by decide)] at H; exact H
         clear H
         have H := H1
         clear H1
         by_cases c13 : 0 ≤ x10_1
         ·rw [if_pos c13] at H
          have c13b0 := eq_true c13
          have c13b1 : decide (0 ≤ x10_1) = true := decide_eq_true c13
          clear c13
          by_cases c14 : x10_1 ≤ (l0.length : Int)
          ·rw [if_pos c14] at H
           have c14b0 := eq_true c14
           have c14b1 : decide (x10_1 ≤ (l0.length : Int)) = true := decide_eq_true c14
           clear c14
           obtain ⟨y179, hy179⟩ : ∃ y_ : List (S51), y_ = (l0.take (x10_1 : Int).toNat) := ⟨_, rfl⟩
           replace H : (spec_GoodPairs.l1 kj4 l0 x3_1 l0 (l0.length : Int) x10_1 y179 (y179.length : Int) 0 ((rd_T51 l0 x10_1).f0) ((rd_T51 l0 x10_1).f1)) = some r := by first | (rw [hy179]; with_reducible exact H) | (have H2_ := (Option.bind_some _ _).symm.trans H; rw [hy179]; with_reducible exact H2_) | (have H2_ := (Option.bind_some _ _).symm.trans H; with_reducible exact H2_) | with_reducible exact H | (rw [hy179]; exact H) | exact H
           have Ny179 := Aside0.mk hy179
           clear hy179
           have H' := Aside0.mk H
           clear H
           have q15 : (x10_1 : Int) ≤ ((l0.length : Int) : Int) := of_decide_eq_true (by assumption)
           obtain ⟨i015, hi015, _, hsz15, _⟩ := info_parts info51
           have hroom15 : l0.length ≤ c0 := HC0.out
           have hC15 : Kd.C k51 _ (some ad176) l0.length l0 := HR0.out
           have hcut15 := cut_to (P := Try.prog) 33 51 .i64 Try.underlying33 hi015 (some ad176) l0.length c0 x10_1 (of_decide_eq_true (by assumption)) q15 hroom15
           have hr15 := Kd.C_take (m := (x10_1 : Int).toNat) hC15 (by omega)
           have hy15 : y179.length = (x10_1 : Int).toNat := (by rw [Ny179.out, List.length_take]; omega)
           rw [← Ny179.out] at hr15
           rw [← hy15] at hcut15
           have HR182 := Aside0.mk hr15
           have HC182 := Aside0.mk (show y179.length ≤ c0 from by omega)
           clear hr15 hC15 hroom15 hi015 hsz15
           have KY15 := Aside0.mk hy15
           clear hy15
           replace q15 := eq_true q15
           go_wp2
           go_loopg [29] kj4 (fun kq v29 w' => ∃ (x29_3 : Int), v29 = .int .i64 x29_3 ∧ Aside0 (spec_GoodPairs.l1 kq l0 x3_1 l0 (l0.length : Int) x10_1 y179 (y179.length : Int) x29_3 ((rd_T51 l0 x10_1).f0) ((rd_T51 l0 x10_1).f1) = some r) ∧ Aside0 (kq ≤ kj4) ∧ Aside0 (Kd.R Kd.string 9 w' w.heap.size (fun _ => True) u3 x3_1) ∧ Aside0 (w'.heap[gb177]? = some (.cells #[.string ((rd_T51 l0 x10_1).f0), .int .i64 ((rd_T51 l0 x10_1).f1)] 51 (0, 0))) ∧ Aside0 (Below w.heap.size w w'))
           case atStart => exact ⟨(0), rfl, H', ⟨Nat.le_refl _⟩, ⟨by (with_reducible repeat (first | apply Kd.R_alloc | apply Kd.R_drewN | apply Kd.R_drew)); exact HO_3.out⟩, ⟨by (with_reducible repeat first | apply q1_ | apply q2_ | apply q3_); exact BK177.out⟩, ⟨by exact HB.out⟩⟩
           case round =>
            clear H'
            try clear c1
            try clear p1
            try clear q1
            try clear hx1
            try clear c2
            try clear c2b0
            try clear p2
            try clear c3
            try clear c3b0
            try clear c4
            try clear c4b0
            try clear c5
            try clear c8
            try clear c8b0
            try clear c8b1
            try clear c12
            try clear c13
            try clear c13b0
            try clear c13b1
            try clear c14
            try clear c14b0
            try clear c14b1
            try clear q15
            try clear hcz10_0
            try clear hcz10_1
            try clear hcz11_0
            try clear hcz11_1
            try clear hcz7_0
            try clear hcz7_1
            try clear hfz10_0
            try clear hfz10_1
            try clear hfz11_0
            try clear hfz11_1
            try clear hfz7_0
            try clear hfz7_1
            try clear hx176_0
            try clear hx176_1
            try clear p1
            try clear p176
            try clear p2
            try clear q1
            try clear q15
            try clear q176
            obtain ⟨x29_3, rfl, HA, HK3, HO_3, BK177, HB⟩ := hrel
            cases gk with
            | zero => exact absurd HA.out (by simp [spec_GoodPairs.l1])
            | succ k3 =>
             have H := HA.out
             clear HA
             simp only [spec_GoodPairs.l1] at H
             by_cases c16 : x29_3 < (y179.length : Int)
             ·rw [if_pos c16] at H
              have c16b0 : decide (x29_3 < (y179.length : Int)) = true := decide_eq_true c16
              clear c16
              by_cases c17 : 0 ≤ x29_3
              ·rw [if_pos c17] at H
               have c17b0 : decide (0 ≤ x29_3) = true := decide_eq_true c17
               clear c17
               by_cases c18 : x29_3 < (y179.length : Int)
               ·rw [if_pos c18] at H
                have c18b0 : decide (x29_3 < (y179.length : Int)) = true := decide_eq_true c18
                clear c18
                by_cases c19 : (((rd_T51 l0 x10_1).f0).toList == (((rd_T51 y179 x29_3).f0).toList) && (((rd_T51 l0 x10_1).f1) == ((rd_T51 y179 x29_3).f1))) = true
                ·rw [if_pos c19] at H
                 have c19b0 : (((rd_T51 l0 x10_1).f0).toList == (((rd_T51 y179 x29_3).f0).toList) && (((rd_T51 l0 x10_1).f1) == ((rd_T51 y179 x29_3).f1))) = true := c19
                 (try (have c19b1 : decide (((rd_T51 l0 x10_1).f0).toList = (((rd_T51 y179 x29_3).f0).toList) && (((rd_T51 l0 x10_1).f1) == ((rd_T51 y179 x29_3).f1))) = true := by simpa using c19))
                 (try (have c19b2 : (((rd_T51 l0 x10_1).f0).toList == (((rd_T51 y179 x29_3).f0).toList) && (((rd_T51 l0 x10_1).f1) == ((rd_T51 y179 x29_3).f1))) = true := by simpa using c19))
                 clear c19
                 obtain rfl := Option.some.inj H
                 have p183 : 0 ≤ (x29_3 : Int) := of_decide_eq_true (by assumption)
                 have q183 : x29_3 < (y179.length : Int) := of_decide_eq_true (by assumption)
                 obtain ⟨ad183, e183, hx183_0, hx183_1⟩ := at_T51 HR182.out x29_3 p183 q183
                 obtain rfl : ad176 = ad183 := (by injection e183)
                 replace hx183_0 := (HB.out.cell (World.block_lt_of_cell? w _ hx183_0)).trans hx183_0
                 replace hx183_1 := (HB.out.cell (World.block_lt_of_cell? w _ hx183_1)).trans hx183_1
                 replace p183 := eq_true p183
                 replace q183 := eq_true q183
                 go_wp2_with (first | ((with_reducible refine gate_dst (N := 7) rfl ?_); (try (refine gate_guard (by rfl) ?_; dsimp only)); refine box_event ?hg (N := 7) ?hd (cs := #[.string (⟨#[]⟩ : ByteArray), .int .i64 0]) (t := 51) ?hr ?_; (case hd => rfl); (case hg => rfl); (case hr => go_simp); intro gb184 hg w20 hbox hb; have n0_ := Aside0.mk (Kd.R_below HO_3.out hb); have n1_ := Aside0.mk (blk_below (g := gb177) (o := .cells #[.string ((rd_T51 l0 x10_1).f0), .int .i64 ((rd_T51 l0 x10_1).f1)] 51 (0, 0)) BK177.out hb); have n2_ := Aside0.mk (below_step HB.out hb); have n3_ := Aside0.mk (hbox); have n4_ := Aside0.mk ((by rw [hg]; exact (below_size HB.out) : w.heap.size ≤ gb184)); have n5_ := Aside0.mk ((by rw [hg]; exact (below_size HB.out) : w.heap.size ≤ gb184)); have n6_ := Aside0.mk ((by rw [hg]; exact Nat.ne_of_lt (blk_lt (g := gb177) (o := .cells #[.string ((rd_T51 l0 x10_1).f0), .int .i64 ((rd_T51 l0 x10_1).f1)] 51 (0, 0)) BK177.out) : gb177 ≠ gb184)); have n7_ := Aside0.mk ((by rw [hg]; exact Nat.ne_of_gt (blk_lt (g := gb177) (o := .cells #[.string ((rd_T51 l0 x10_1).f0), .int .i64 ((rd_T51 l0 x10_1).f1)] 51 (0, 0)) BK177.out) : gb184 ≠ gb177)); clear HO_3; clear BK177; clear HB; have HO_3 := n0_; have BK177 := n1_; have HB := n2_; have BK184 := n3_; have GW184 := n4_; have GE184 := n5_; have NB177_184 := n6_; have NB184_177 := n7_; clear n0_ n1_ n2_ n3_ n4_ n5_ n6_ n7_; clear hb hbox hg; have hnb21 := NB184_177.out; have hnc21 := NB177_184.out; have hcz22_0 : w20.cell? ⟨gb184, 0, none⟩ = some (.string (⟨#[]⟩ : ByteArray)) := (blk_cell BK184.out 0).trans rfl; have hcz22_1 : w20.cell? ⟨gb184, 1, none⟩ = some (.int .i64 0) := (blk_cell BK184.out 1).trans rfl; have hfz22_0 := blk_frozen BK184.out 0; have hfz22_1 := blk_frozen BK184.out 1; have hcz23_0 : w20.cell? ⟨gb177, 0, none⟩ = some (.string ((rd_T51 l0 x10_1).f0)) := (blk_cell BK177.out 0).trans rfl; have hcz23_1 : w20.cell? ⟨gb177, 1, none⟩ = some (.int .i64 ((rd_T51 l0 x10_1).f1)) := (blk_cell BK177.out 1).trans rfl; have hfz23_0 := blk_frozen BK177.out 0; have hfz23_1 := blk_frozen BK177.out 1))
                 go_ret
                 exact ⟨by first | rfl | (simp [errW_none, errW_some] <;> rfl) | (simp [*, errW_none, errW_some] <;> rfl), by repeat (first | (with_reducible first | exact HB.out | apply q4_ | apply q5_ | apply q6_ | refine below_set ?_ GE177.out | refine below_set ?_ GE184.out) | exact HB.out)⟩
                ·rw [if_neg c19] at H
                 have c19b0 : (((rd_T51 l0 x10_1).f0).toList == (((rd_T51 y179 x29_3).f0).toList) && (((rd_T51 l0 x10_1).f1) == ((rd_T51 y179 x29_3).f1))) = false := by simpa using c19
                 (try (have c19b1 : decide (((rd_T51 l0 x10_1).f0).toList = (((rd_T51 y179 x29_3).f0).toList) && (((rd_T51 l0 x10_1).f1) == ((rd_T51 y179 x29_3).f1))) = false := by simpa using c19))
                 (try (have c19b2 : (((rd_T51 l0 x10_1).f0).toList == (((rd_T51 y179 x29_3).f0).toList) && (((rd_T51 l0 x10_1).f1) == ((rd_T51 y179 x29_3).f1))) = false := by simpa using c19))
                 (try (have c19b3 : ¬ (((rd_T51 l0 x10_1).f0).toList = (((rd_T51 y179 x29_3).f0).toList) && (((rd_T51 l0 x10_1).f1) == ((rd_T51 y179 x29_3).f1))) := by simpa using c19))
                 clear c19
                 have H' := Aside0.mk H
                 clear H
                 have p183 : 0 ≤ (x29_3 : Int) := of_decide_eq_true (by assumption)
                 have q183 : x29_3 < (y179.length : Int) := of_decide_eq_true (by assumption)
                 obtain ⟨ad183, e183, hx183_0, hx183_1⟩ := at_T51 HR182.out x29_3 p183 q183
                 obtain rfl : ad176 = ad183 := (by injection e183)
                 replace hx183_0 := (HB.out.cell (World.block_lt_of_cell? w _ hx183_0)).trans hx183_0
                 replace hx183_1 := (HB.out.cell (World.block_lt_of_cell? w _ hx183_1)).trans hx183_1
                 replace p183 := eq_true p183
                 replace q183 := eq_true q183
                 go_wp2_with (first | ((with_reducible refine gate_dst (N := 7) rfl ?_); (try (refine gate_guard (by rfl) ?_; dsimp only)); refine box_event ?hg (N := 7) ?hd (cs := #[.string (⟨#[]⟩ : ByteArray), .int .i64 0]) (t := 51) ?hr ?_; (case hd => rfl); (case hg => rfl); (case hr => go_simp); intro gb184 hg w24 hbox hb; have n0_ := Aside0.mk (Kd.R_below HO_3.out hb); have n1_ := Aside0.mk (blk_below (g := gb177) (o := .cells #[.string ((rd_T51 l0 x10_1).f0), .int .i64 ((rd_T51 l0 x10_1).f1)] 51 (0, 0)) BK177.out hb); have n2_ := Aside0.mk (below_step HB.out hb); have n3_ := Aside0.mk (hbox); have n4_ := Aside0.mk ((by rw [hg]; exact (below_size HB.out) : w.heap.size ≤ gb184)); have n5_ := Aside0.mk ((by rw [hg]; exact (below_size HB.out) : w.heap.size ≤ gb184)); have n6_ := Aside0.mk ((by rw [hg]; exact Nat.ne_of_lt (blk_lt (g := gb177) (o := .cells #[.string ((rd_T51 l0 x10_1).f0), .int .i64 ((rd_T51 l0 x10_1).f1)] 51 (0, 0)) BK177.out) : gb177 ≠ gb184)); have n7_ := Aside0.mk ((by rw [hg]; exact Nat.ne_of_gt (blk_lt (g := gb177) (o := .cells #[.string ((rd_T51 l0 x10_1).f0), .int .i64 ((rd_T51 l0 x10_1).f1)] 51 (0, 0)) BK177.out) : gb184 ≠ gb177)); clear HO_3; clear BK177; clear HB; have HO_3 := n0_; have BK177 := n1_; have HB := n2_; have BK184 := n3_; have GW184 := n4_; have GE184 := n5_; have NB177_184 := n6_; have NB184_177 := n7_; clear n0_ n1_ n2_ n3_ n4_ n5_ n6_ n7_; clear hb hbox hg; have hnb25 := NB184_177.out; have hnc25 := NB177_184.out; have hcz26_0 : w24.cell? ⟨gb184, 0, none⟩ = some (.string (⟨#[]⟩ : ByteArray)) := (blk_cell BK184.out 0).trans rfl; have hcz26_1 : w24.cell? ⟨gb184, 1, none⟩ = some (.int .i64 0) := (blk_cell BK184.out 1).trans rfl; have hfz26_0 := blk_frozen BK184.out 0; have hfz26_1 := blk_frozen BK184.out 1; have hcz27_0 : w24.cell? ⟨gb177, 0, none⟩ = some (.string ((rd_T51 l0 x10_1).f0)) := (blk_cell BK177.out 0).trans rfl; have hcz27_1 : w24.cell? ⟨gb177, 1, none⟩ = some (.int .i64 ((rd_T51 l0 x10_1).f1)) := (blk_cell BK177.out 1).trans rfl; have hfz27_0 := blk_frozen BK177.out 0; have hfz27_1 := blk_frozen BK177.out 1))
                 go_roundg k3
                 case measure => have := HK1.out; have := HJ4.out; have := HK3.out; omega
                 case rel => exact ⟨(wrap64 (x29_3 + 1)), rfl, H', ⟨by have := HK1.out; have := HJ4.out; have := HK3.out; omega⟩, ⟨by (with_reducible repeat (first | apply Kd.R_alloc | apply Kd.R_drewN | apply Kd.R_drew)); exact Kd.R_mono (Kd.R_far (p := ⟨gb184, 1, none⟩) (Kd.R_far (p := ⟨gb184, 0, none⟩) (Kd.R_types HO_3.out BK184.out (by decide)) (fun _ hk => hk.2) (.string ((rd_T51 y179 x29_3).f0))) (fun _ hk => hk.2) (.int .i64 ((rd_T51 y179 x29_3).f1))) (fun _ hk => trivial)⟩, ⟨by (with_reducible repeat first | apply q1_ | apply q2_ | apply q3_); refine blk_far ?_ NB177_184.out _; (with_reducible repeat first | apply q1_ | apply q2_ | apply q3_); refine blk_far ?_ NB177_184.out _; (with_reducible repeat first | apply q1_ | apply q2_ | apply q3_); exact BK177.out⟩, ⟨by repeat (first | (with_reducible first | exact HB.out | apply q4_ | apply q5_ | apply q6_ | refine below_set ?_ GE177.out | refine below_set ?_ GE184.out) | exact HB.out)⟩⟩
               ·rw [if_neg c18] at H
                exact absurd H (by simp)
              ·rw [if_neg c17] at H
               exact absurd H (by simp)
             ·rw [if_neg c16] at H
              have c16b0 : decide (x29_3 < (y179.length : Int)) = false := decide_eq_false c16
              clear c16
              replace H := Option.bind_eq_some_iff.mp H
              obtain ⟨t185, A280, H⟩ := H
              replace H : (spec_GoodPairs.l0 k3 l0 t185 l0 (l0.length : Int) (wrap64 (x10_1 + 1))) = some r := H
              have A28 := Aside0.mk A280
              clear A280
              have H' := Aside0.mk H
              clear H
              have hcz29_0 : wr.cell? ⟨gb177, 0, none⟩ = some (.string ((rd_T51 l0 x10_1).f0)) := (blk_cell BK177.out 0).trans rfl
              have hcz29_1 : wr.cell? ⟨gb177, 1, none⟩ = some (.int .i64 ((rd_T51 l0 x10_1).f1)) := (blk_cell BK177.out 1).trans rfl
              have hfz29_0 := blk_frozen BK177.out 0
              have hfz29_1 := blk_frozen BK177.out 1
              obtain ⟨Ao30, co30, eo30⟩ := Kd.R_slice HO_3.out
              subst eo30
              go_wp2_with (first | ((with_reducible refine gate_callee (f := 79) rfl ?_); refine goesL_ (some 40) rfl rfl Try.func79 (by kernel_rfl) rfl #[.slice Ao30 x3_1.length co30, .string ((rd_T51 l0 x10_1).f0)] rfl (by simp only [List.map_toArray, List.map_cons, List.map_nil] <;> rfl) ?_; (with_reducible refine (spec_l10Put.calls k3 (fun k_ => some k_ = (.slice Ao30 x3_1.length co30 : Value).ownBlock) (.slice Ao30 x3_1.length co30) x3_1 ((rd_T51 l0 x10_1).f0) t185 w _ ?side1 ?side2 A28.out).mono ?_); (case side1 => exact HB.out); (case side2 => exact Kd.R_tight rfl HO_3.out); rintro e w31 ⟨v186, rfl, ho0, hb, hkp⟩; refine ⟨_, rfl, ?_⟩; have n0_ := Aside0.mk (blk_kept BK177.out hkp (fun hs_ => (fun e_ => (Kd.R_ne HO_3.out BK177.out (by decide)) e_) hs_)); have n1_ := Aside0.mk (Kd.R_mono (ok' := fun k_ => True) ho0 (fun k_ hk_ => trivial)); have n2_ := Aside0.mk (hb); clear BK177; clear HB; clear HO_3; have BK177 := n0_; have HO187 := n1_; have HB := n2_; clear n0_ n1_ n2_; (try clear hb); (try clear hkp); (try clear ho0)))
              go_roundg k3
              case measure => have := HK1.out; have := HJ4.out; have := HK3.out; omega
              case rel => exact ⟨(t185), (wrap64 (x10_1 + 1)), rfl, H', ⟨by have := HK1.out; have := HJ4.out; have := HK3.out; omega⟩, ⟨by (with_reducible repeat (first | apply Kd.R_alloc | apply Kd.R_drewN | apply Kd.R_drew)); exact HO187.out⟩, ⟨by exact HB.out⟩⟩
          ·rw [if_neg c14] at H
           exact absurd H (by simp)
         ·rw [if_neg c13] at H
          exact absurd H (by simp)
     ·rw [if_neg c4] at H
      exact absurd H (by simp)
    ·rw [if_neg c3] at H
     exact absurd H (by simp)
   ·rw [if_neg c2] at H
    have c2b0 : decide (x10_1 < (l0.length : Int)) = false := decide_eq_false c2
    clear c2
    by_cases c32 : (l0.length : Int) ≤ 60
    ·rw [if_pos c32] at H
     have c32b0 : decide ((l0.length : Int) ≤ 60) = true := decide_eq_true c32
     have c32b1 : decide (l0.length ≤ 60) = true := decide_eq_true (by omega)
     clear c32
     obtain rfl := Option.some.inj H
     obtain ⟨Ao33, co33, eo33⟩ := Kd.R_slice HO_3.out
     subst eo33
     go_wp2
     go_ret
     exact ⟨rfl, by exact HB.out⟩
    ·rw [if_neg c32] at H
     have c32b0 : decide ((l0.length : Int) ≤ 60) = false := decide_eq_false c32
     have c32b1 : decide (l0.length ≤ 60) = false := decide_eq_false (by omega)
     clear c32
     obtain rfl := Option.some.inj H
     go_wp2
     go_ret
     exact ⟨rfl, by exact HB.out⟩
end
end Go.Proofs.Ytkkphbjemnifiaa.PFnFound
