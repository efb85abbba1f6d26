-- Printed for this claim by a changed copy of the kit's printing program (wip/tools/patch_print.py); Lean checks it.
import Derived.Test.YtkkphbjemnifiaaPFnExactFindBeginningx0
import Derived.Test.YtkkphbjemnifiaaPFnExactFindBeginningx6
import Derived.Test.YtkkphbjemnifiaaPFnExactFindBeginningx8
import Derived.Test.YtkkphbjemnifiaaPFnExactFindBeginningx9
namespace Go.Proofs.Ytkkphbjemnifiaa.PFnExactFindBeginning
open Go.RowKit Go.Proofs.YtkkphbjemnifiaaW.PrintWords Go.Proofs.YtkkphbjemnifiaaW.PrintLast Go.Proofs.YtkkphbjemnifiaaW.PrintMore
attribute [local go_sem] max2_int min2_int max_two min_two max_three min_three max_four min_four   -- for this text's walks alone
set_option linter.unusedVariables false
set_option linter.unusedSimpArgs false

noncomputable section
/-! ### impl_pairsIn: function 64 -/
mutual
def impl_pairsIn.l0 : Nat → List (S51) → List (S74) → Int → Int → Option ((List (S51)))
  | 0, _, _, _, _ => none
  | k + 1, x3, x8, x9, x10 => if x10 < x9 then (if 0 ≤ x10 then (if x10 < (x8.length : Int) then (impl_pairsIn.l1 k x3 x8 x9 x10 ((rd_T74 x8 x10).f1) (((rd_T74 x8 x10).f1).length : Int) 0 ((rd_T74 x8 x10).f0) ((rd_T74 x8 x10).f1) ((rd_T74 x8 x10).f2) ((rd_T74 x8 x10).f3) ((rd_T74 x8 x10).f4)) else (none)) else (none)) else (some x3)
def impl_pairsIn.l1 : Nat → List (S51) → List (S74) → Int → Int → List Int → Int → Int → ByteArray → List Int → Int → Int → Int → Option ((List (S51)))
  | 0, _, _, _, _, _, _, _, _, _, _, _, _ => none
  | k + 1, x3, x8, x9, x10, x15, x16, x17, x288000, x288001, x288002, x288003, x288004 => if x17 < x16 then (if 0 ≤ x17 then (if x17 < (x15.length : Int) then (if x3.length < 5864062014805 then (impl_pairsIn.l1 k (x3 ++ [(⟨x288000, rd x15 x17⟩ : S51)]) x8 x9 x10 x15 x16 (wrap64 (x17 + 1)) x288000 x288001 x288002 x288003 x288004) else (none)) else (none)) else (none)) else (impl_pairsIn.l0 k x3 x8 x9 (wrap64 (x10 + 1)))
end
def impl_pairsIn.f (k : Nat) (l0 : List (S74)) : Option ((List (S51))) := impl_pairsIn.l0 k ([] : List (S51)) l0 (l0.length : Int) 0
theorem impl_pairsIn.mono_l : ∀ k, (∀ y0 y1 y2 y3, LeO (impl_pairsIn.l0 k y0 y1 y2 y3) (impl_pairsIn.l0 (k + 1) y0 y1 y2 y3)) ∧ (∀ y0 y1 y2 y3 y4 y5 y6 y7 y8 y9 y10 y11, LeO (impl_pairsIn.l1 k y0 y1 y2 y3 y4 y5 y6 y7 y8 y9 y10 y11) (impl_pairsIn.l1 (k + 1) y0 y1 y2 y3 y4 y5 y6 y7 y8 y9 y10 y11))
  | 0 => ⟨fun _ _ _ _ r h => by simp [impl_pairsIn.l0] at h, fun _ _ _ _ _ _ _ _ _ _ _ _ r h => by simp [impl_pairsIn.l1] at h⟩
  | k + 1 => by
    obtain ⟨ih0, ih1⟩ := impl_pairsIn.mono_l k
    refine ⟨?_, ?_⟩
    · intro y0 y1 y2 y3
      unfold impl_pairsIn.l0
      repeat' first
      | (with_reducible exact ih0 _ _ _ _)
      | (with_reducible exact ih1 _ _ _ _ _ _ _ _ _ _ _ _)
      | (with_reducible exact LeO.refl _)
      | (with_reducible exact LeO.none _)
      | (with_reducible refine LeO.ite ?_ ?_)
      | (with_reducible refine LeO.bind ?_ (fun _ => ?_))
      | exact ih0 _ _ _ _
      | exact ih1 _ _ _ _ _ _ _ _ _ _ _ _
      | exact LeO.none _
      | refine LeO.ite ?_ ?_
      | refine LeO.bind ?_ (fun _ => ?_)
    · intro y0 y1 y2 y3 y4 y5 y6 y7 y8 y9 y10 y11
      unfold impl_pairsIn.l1
      repeat' first
      | (with_reducible exact ih0 _ _ _ _)
      | (with_reducible exact ih1 _ _ _ _ _ _ _ _ _ _ _ _)
      | (with_reducible exact LeO.refl _)
      | (with_reducible exact LeO.none _)
      | (with_reducible refine LeO.ite ?_ ?_)
      | (with_reducible refine LeO.bind ?_ (fun _ => ?_))
      | exact ih0 _ _ _ _
      | exact ih1 _ _ _ _ _ _ _ _ _ _ _ _
      | exact LeO.none _
      | refine LeO.ite ?_ ?_
      | refine LeO.bind ?_ (fun _ => ?_)
theorem impl_pairsIn.mono : ∀ a0 k, LeO (impl_pairsIn.f k a0) (impl_pairsIn.f (k + 1) a0) := by
  intro a0 k
  obtain ⟨ih0, ih1⟩ := impl_pairsIn.mono_l k
  unfold impl_pairsIn.f
  repeat' first
      | (with_reducible exact ih0 _ _ _ _)
      | (with_reducible exact ih1 _ _ _ _ _ _ _ _ _ _ _ _)
      | (with_reducible exact LeO.refl _)
      | (with_reducible exact LeO.none _)
      | (with_reducible refine LeO.ite ?_ ?_)
      | (with_reducible refine LeO.bind ?_ (fun _ => ?_))
      | exact ih0 _ _ _ _
      | exact ih1 _ _ _ _ _ _ _ _ _ _ _ _
      | exact LeO.none _
      | refine LeO.ite ?_ ?_
      | refine LeO.bind ?_ (fun _ => ?_)
set_option maxHeartbeats 8000000 in
set_option maxRecDepth 100000 in
theorem impl_pairsIn.calls (k : Nat) (A0 : Option Addr) (c0 : Nat) (l0 : List (S74)) (r : List (S51)) (w : World) (hr0 : Kd.C k74 w A0 l0.length l0) (hc0 : l0.length ≤ c0) (h : impl_pairsIn.f k l0 = some r) :
    Calls Try.prog 64 #[.slice A0 l0.length c0] w fun e w' => ∃ v0_ : Value, e = .returned (v0_) ∧ Kd.R k51 51 w' w.heap.size (fun _ => True) v0_ r ∧ Below w.heap.size w w' := by
  have hu74 := Try.underlying74
  have hu51 := Try.underlying51
  have HR0 := Aside0.mk hr0
  have HC0 := Aside0.mk hc0
  clear hr0 hc0
  have HB := Aside0.mk (Below.refl w.heap.size w)
  have H : (impl_pairsIn.l0 k ([] : List (S51)) l0 (l0.length : Int) 0) = some r := h
  clear h
  have H' := Aside0.mk H
  clear H
  go_enter Try.func64, Try.ntmps64
  go_wp2
  go_loopg [3, 10] k (fun kq v3 v10 w' => ∃ (x3_1 : List (S51)) (x10_1 : Int), v10 = .int .i64 x10_1 ∧ Aside0 (impl_pairsIn.l0 kq x3_1 l0 (l0.length : Int) x10_1 = some r) ∧ Aside0 (kq ≤ k) ∧ Aside0 (Kd.R k51 51 w' w.heap.size (fun _ => True) v3 x3_1) ∧ Aside0 (Below w.heap.size w w'))
  case atStart => exact ⟨(([] : List (S51))), (0), (by first | rfl | (simp; done) | (simp [*]; done) | (simp; apply Bool.eq_iff_iff.mpr; simp only [bne_iff_ne, ne_eq, beq_iff_eq]; omega)), H', ⟨Nat.le_refl _⟩, ⟨by first | exact Kd.R_nil _ _ _ _ _ | exact Kd.N_nil _ _ _ _ _ | exact Kd.V_nil _ _ _ _ _ | exact Kd.Q_nil _ _ _ _ _ | exact Kd.S_nil _ _ _ _ _⟩, ⟨by repeat (first | (with_reducible first | exact HB.out | apply below_alloc | apply pw_below_drewN | apply below_drew1) | exact HB.out)⟩⟩
  case round =>
    clear H'
    obtain ⟨x3_1, x10_1, rfl, HA, HK1, HO_3, HB⟩ := hrel
    cases gk with
    | zero => exact absurd HA.out (by simp [impl_pairsIn.l0])
    | succ k1 =>
      have H := HA.out
      clear HA
      simp only [impl_pairsIn.l0] at H
      by_cases c2 : x10_1 < (l0.length : Int)
      · rw [if_pos c2] at H
        have c2b0 : decide (x10_1 < (l0.length : Int)) = true := decide_eq_true c2
        clear c2
        by_cases c3 : 0 ≤ x10_1
        · rw [if_pos c3] at H
          have c3b0 : decide (0 ≤ x10_1) = true := decide_eq_true c3
          clear c3
          by_cases c4 : x10_1 < (l0.length : Int)
          · rw [if_pos c4] at H
            have c4b0 : decide (x10_1 < (l0.length : Int)) = true := decide_eq_true c4
            clear c4
            have H' := Aside0.mk H
            clear H
            have p286 : 0 ≤ (x10_1 : Int) := of_decide_eq_true (by first | (with_reducible assumption) | assumption)
            have q286 : x10_1 < (l0.length : Int) := of_decide_eq_true (by first | (with_reducible assumption) | assumption)
            obtain ⟨ad286, A286_1, c286_1, e286, hx286_0, hx286_1, hx286_2, hx286_3, hx286_4, hl286_1, hi286_1⟩ := at_T74 HR0.out x10_1 p286 q286
            cases e286
            replace hx286_0 := (HB.out.cell (World.block_lt_of_cell? w _ hx286_0)).trans hx286_0
            replace hx286_1 := (HB.out.cell (World.block_lt_of_cell? w _ hx286_1)).trans hx286_1
            replace hx286_2 := (HB.out.cell (World.block_lt_of_cell? w _ hx286_2)).trans hx286_2
            replace hx286_3 := (HB.out.cell (World.block_lt_of_cell? w _ hx286_3)).trans hx286_3
            replace hx286_4 := (HB.out.cell (World.block_lt_of_cell? w _ hx286_4)).trans hx286_4
            have HR286_1 := Aside0.mk hi286_1
            have HC286_1 := Aside0.mk hl286_1
            clear hi286_1 hl286_1
            replace p286 := eq_true p286
            replace q286 := eq_true q286
            go_wp2_with (first | ((with_reducible refine gate_dst (N := 5) rfl ?_); refine box_event ?hg (N := 5) ?hd (cs := #[.string (⟨#[]⟩ : ByteArray), .slice none 0 0, .int .i64 0, .int .i64 0, .int .i64 0]) (t := 74) ?hr ?_; (case hd => rfl); (case hg => rfl); (case hr => first | (go_simp; done) | (go_simp; rfl)); intro gb287 hg w5 hbox hb; have n0_ := Aside0.mk (Kd.R_below (by (with_reducible repeat (first | apply Kd.R_alloc | apply Kd.R_drewN | apply Kd.R_drew)); exact HO_3.out) hb); have n1_ := Aside0.mk (below_step (by repeat (first | (with_reducible first | exact HB.out | apply below_alloc | apply pw_below_drewN | apply below_drew1) | exact HB.out)) hb); have n2_ := Aside0.mk (hbox); have n3_ := Aside0.mk ((by rw [hg]; exact (below_size (by repeat (first | (with_reducible first | exact HB.out | apply below_alloc | apply pw_below_drewN | apply below_drew1) | exact HB.out))) : w.heap.size ≤ gb287)); have n4_ := Aside0.mk ((by rw [hg]; exact (below_size (by repeat (first | (with_reducible first | exact HB.out | apply below_alloc | apply pw_below_drewN | apply below_drew1) | exact HB.out))) : w.heap.size ≤ gb287)); clear HO_3; clear HB; have HO_3 := n0_; have HB := n1_; have BK287 := n2_; have GW287 := n3_; have GE287 := n4_; clear n0_ n1_ n2_ n3_ n4_; clear hb hbox hg; have hcz6_0 : w5.cell? ⟨gb287, 0, none⟩ = some (.string (⟨#[]⟩ : ByteArray)) := (blk_cell BK287.out 0).trans rfl; have hcz6_1 : w5.cell? ⟨gb287, 1, none⟩ = some (.slice none 0 0) := (blk_cell BK287.out 1).trans rfl; have hcz6_2 : w5.cell? ⟨gb287, 2, none⟩ = some (.int .i64 0) := (blk_cell BK287.out 2).trans rfl; have hcz6_3 : w5.cell? ⟨gb287, 3, none⟩ = some (.int .i64 0) := (blk_cell BK287.out 3).trans rfl; have hcz6_4 : w5.cell? ⟨gb287, 4, none⟩ = some (.int .i64 0) := (blk_cell BK287.out 4).trans rfl; have hfz6_0 := blk_frozen BK287.out 0; have hfz6_1 := blk_frozen BK287.out 1; have hfz6_2 := blk_frozen BK287.out 2; have hfz6_3 := blk_frozen BK287.out 3; have hfz6_4 := blk_frozen BK287.out 4))
            go_loopg [3, 17] k1 (fun kq v3 v17 w' => ∃ (x3_2 : List (S51)) (x17_2 : Int), v17 = .int .i64 x17_2 ∧ Aside0 (impl_pairsIn.l1 kq x3_2 l0 (l0.length : Int) x10_1 ((rd_T74 l0 x10_1).f1) (((rd_T74 l0 x10_1).f1).length : Int) x17_2 ((rd_T74 l0 x10_1).f0) ((rd_T74 l0 x10_1).f1) ((rd_T74 l0 x10_1).f2) ((rd_T74 l0 x10_1).f3) ((rd_T74 l0 x10_1).f4) = some r) ∧ Aside0 (kq ≤ k1) ∧ Aside0 (Kd.R k51 51 w' w.heap.size (fun _ => True) v3 x3_2) ∧ Aside0 (w'.heap[gb287]? = some (.cells #[.string ((rd_T74 l0 x10_1).f0), (.slice A286_1 ((rd_T74 l0 x10_1).f1).length c286_1), .int .i64 ((rd_T74 l0 x10_1).f2), .int .i64 ((rd_T74 l0 x10_1).f3), .int .i64 ((rd_T74 l0 x10_1).f4)] 74 (0, 0))) ∧ Aside0 (Below w.heap.size w w'))
            case atStart => exact ⟨(x3_1), (0), (by first | rfl | (simp; done) | (simp [*]; done) | (simp; apply Bool.eq_iff_iff.mpr; simp only [bne_iff_ne, ne_eq, beq_iff_eq]; omega)), H', ⟨Nat.le_refl _⟩, ⟨by (with_reducible repeat (first | apply Kd.R_alloc | apply Kd.R_drewN | apply Kd.R_drew)); exact Kd.R_mono (Kd.R_far (p := ⟨gb287, 4, none⟩) (Kd.R_far (p := ⟨gb287, 3, none⟩) (Kd.R_far (p := ⟨gb287, 2, none⟩) (Kd.R_far (p := ⟨gb287, 1, none⟩) (Kd.R_far (p := ⟨gb287, 0, none⟩) (Kd.R_types HO_3.out BK287.out (by decide)) (fun _ hk => hk.2) (.string ((rd_T74 l0 x10_1).f0))) (fun _ hk => hk.2) (.slice A286_1 ((rd_T74 l0 x10_1).f1).length c286_1)) (fun _ hk => hk.2) (.int .i64 ((rd_T74 l0 x10_1).f2))) (fun _ hk => hk.2) (.int .i64 ((rd_T74 l0 x10_1).f3))) (fun _ hk => hk.2) (.int .i64 ((rd_T74 l0 x10_1).f4))) (fun _ hk => trivial)⟩, ⟨by (with_reducible repeat (first | refine blk_drewN ?_ _ | refine blk_drew ?_ | refine blk_alloc ?_ _)); refine blk_put (cs := #[.string ((rd_T74 l0 x10_1).f0), .slice A286_1 ((rd_T74 l0 x10_1).f1).length c286_1, .int .i64 ((rd_T74 l0 x10_1).f2), .int .i64 ((rd_T74 l0 x10_1).f3), .int .i64 0]) ?_ 4 _ rfl; (with_reducible repeat (first | refine blk_drewN ?_ _ | refine blk_drew ?_ | refine blk_alloc ?_ _)); refine blk_put (cs := #[.string ((rd_T74 l0 x10_1).f0), .slice A286_1 ((rd_T74 l0 x10_1).f1).length c286_1, .int .i64 ((rd_T74 l0 x10_1).f2), .int .i64 0, .int .i64 0]) ?_ 3 _ rfl; (with_reducible repeat (first | refine blk_drewN ?_ _ | refine blk_drew ?_ | refine blk_alloc ?_ _)); refine blk_put (cs := #[.string ((rd_T74 l0 x10_1).f0), .slice A286_1 ((rd_T74 l0 x10_1).f1).length c286_1, .int .i64 0, .int .i64 0, .int .i64 0]) ?_ 2 _ rfl; (with_reducible repeat (first | refine blk_drewN ?_ _ | refine blk_drew ?_ | refine blk_alloc ?_ _)); refine blk_put (cs := #[.string ((rd_T74 l0 x10_1).f0), .slice none 0 0, .int .i64 0, .int .i64 0, .int .i64 0]) ?_ 1 _ rfl; (with_reducible repeat (first | refine blk_drewN ?_ _ | refine blk_drew ?_ | refine blk_alloc ?_ _)); refine blk_put (cs := #[.string (⟨#[]⟩ : ByteArray), .slice none 0 0, .int .i64 0, .int .i64 0, .int .i64 0]) ?_ 0 _ rfl; (with_reducible repeat (first | refine blk_drewN ?_ _ | refine blk_drew ?_ | refine blk_alloc ?_ _)); exact BK287.out⟩, ⟨by repeat (first | (with_reducible first | exact HB.out | apply below_alloc | apply pw_below_drewN | apply below_drew1 | refine below_set ?_ GE287.out) | exact HB.out)⟩⟩
            case round =>
              clear H'
              try clear c2
              try clear c2b0
              try clear p2
              try clear q2
              try clear hx2
              try clear c3
              try clear c3b0
              try clear c4
              try clear c4b0
              try clear c6
              try clear hcz6_0
              try clear hcz6_1
              try clear hcz6_2
              try clear hcz6_3
              try clear hcz6_4
              try clear hfz6_0
              try clear hfz6_1
              try clear hfz6_2
              try clear hfz6_3
              try clear hfz6_4
              try clear hx286_0
              try clear hx286_1
              try clear hx286_2
              try clear hx286_3
              try clear hx286_4
              try clear p286
              try clear q286
              obtain ⟨x3_2, x17_2, rfl, HA, HK2, HO_3, BK287, HB⟩ := hrel
              cases gk with
              | zero => exact absurd HA.out (by simp [impl_pairsIn.l1])
              | succ k2 =>
                have H := HA.out
                clear HA
                simp only [impl_pairsIn.l1] at H
                by_cases c7 : x17_2 < (((rd_T74 l0 x10_1).f1).length : Int)
                · rw [if_pos c7] at H
                  have c7b0 : decide (x17_2 < (((rd_T74 l0 x10_1).f1).length : Int)) = true := decide_eq_true c7
                  clear c7
                  by_cases c8 : 0 ≤ x17_2
                  · rw [if_pos c8] at H
                    have c8b0 : decide (0 ≤ x17_2) = true := decide_eq_true c8
                    clear c8
                    by_cases c9 : x17_2 < (((rd_T74 l0 x10_1).f1).length : Int)
                    · rw [if_pos c9] at H
                      have c9b0 : decide (x17_2 < (((rd_T74 l0 x10_1).f1).length : Int)) = true := decide_eq_true c9
                      clear c9
                      by_cases c10 : x3_2.length < 5864062014805
                      · rw [if_pos c10] at H
                        have LMc10 := Aside0.mk c10
                        clear c10
                        obtain ⟨y289, hy289⟩ : ∃ y_ : List (S51), y_ = (x3_2 ++ [(⟨((rd_T74 l0 x10_1).f0), rd ((rd_T74 l0 x10_1).f1) x17_2⟩ : S51)]) := ⟨_, rfl⟩
                        replace H : (impl_pairsIn.l1 k2 y289 l0 (l0.length : Int) x10_1 ((rd_T74 l0 x10_1).f1) (((rd_T74 l0 x10_1).f1).length : Int) (wrap64 (x17_2 + 1)) ((rd_T74 l0 x10_1).f0) ((rd_T74 l0 x10_1).f1) ((rd_T74 l0 x10_1).f2) ((rd_T74 l0 x10_1).f3) ((rd_T74 l0 x10_1).f4)) = some r := by first | (rw [hy289]; with_reducible exact H) | (have H2_ := (Option.bind_some _ _).symm.trans H; rw [hy289]; with_reducible exact H2_) | (have H2_ := (Option.bind_some _ _).symm.trans H; with_reducible exact H2_) | with_reducible exact H | (rw [hy289]; exact H) | exact H
                        have Ny289 := Aside0.mk hy289
                        clear hy289
                        have H' := Aside0.mk H
                        clear H
                        have p288 : 0 ≤ (x17_2 : Int) := of_decide_eq_true (by first | (with_reducible assumption) | assumption)
                        have q288 : x17_2 < (((rd_T74 l0 x10_1).f1).length : Int) := of_decide_eq_true (by first | (with_reducible assumption) | assumption)
                        obtain ⟨ad288, e288, hx288_0⟩ := Kd.at_int HR286_1.out x17_2 p288 q288
                        cases e288
                        replace hx288_0 := (HB.out.cell (World.block_lt_of_cell? w _ hx288_0)).trans hx288_0
                        replace p288 := eq_true p288
                        replace q288 := eq_true q288
                        have hcz11_0 : wr.cell? ⟨gb287, 0, none⟩ = some (.string ((rd_T74 l0 x10_1).f0)) := (blk_cell BK287.out 0).trans rfl
                        have hcz11_1 : wr.cell? ⟨gb287, 1, none⟩ = some (.slice (some ad288) ((rd_T74 l0 x10_1).f1).length c286_1) := (blk_cell BK287.out 1).trans rfl
                        have hcz11_2 : wr.cell? ⟨gb287, 2, none⟩ = some (.int .i64 ((rd_T74 l0 x10_1).f2)) := (blk_cell BK287.out 2).trans rfl
                        have hcz11_3 : wr.cell? ⟨gb287, 3, none⟩ = some (.int .i64 ((rd_T74 l0 x10_1).f3)) := (blk_cell BK287.out 3).trans rfl
                        have hcz11_4 : wr.cell? ⟨gb287, 4, none⟩ = some (.int .i64 ((rd_T74 l0 x10_1).f4)) := (blk_cell BK287.out 4).trans rfl
                        have hfz11_0 := blk_frozen BK287.out 0
                        have hfz11_1 := blk_frozen BK287.out 1
                        have hfz11_2 := blk_frozen BK287.out 2
                        have hfz11_3 := blk_frozen BK287.out 3
                        have hfz11_4 := blk_frozen BK287.out 4
                        go_wp2_with (first | ((with_reducible refine gate_builtin (b := .append) (xs := #[.tmp 21, .tmp 26]) rfl ?_); at_builtin; refine Kd.R_append k51 (w0 := w) w.heap.size rfl (.tmp 21) (.tmp 26) 33 51 (.agg #[(.string ⟨#[]⟩), (.int .i64 0)]) 24 rfl Try.underlying33 info51 rfl (by decide) (by omega) u3 x3_2 (⟨((rd_T74 l0 x10_1).f0), rd ((rd_T74 l0 x10_1).f1) x17_2⟩ : S51) [.string ((rd_T74 l0 x10_1).f0), .int .i64 (rd ((rd_T74 l0 x10_1).f1) x17_2)] (fun _ => True) (fun _ => False) rfl rfl ?aP (fun _ hk => hk.elim) ?aF ?aO ?aB ?aS ?aL ?_; (case aP => exact k51_mkM _ _ _ (⟨((rd_T74 l0 x10_1).f0), rd ((rd_T74 l0 x10_1).f1) x17_2⟩ : S51)); (case aB => exact (by repeat (first | (with_reducible first | exact HB.out | apply below_alloc | apply pw_below_drewN | apply below_drew1 | refine below_set ?_ GE287.out) | exact HB.out))); (case aF => exact (fun _ _ => trivial)); (case aO => exact (by (with_reducible repeat (first | apply Kd.R_alloc | apply Kd.R_drewN | apply Kd.R_drew)); exact HO_3.out)); (case aS => exact (below_size (by repeat (first | (with_reducible first | exact HB.out | apply below_alloc | apply pw_below_drewN | apply below_drew1 | refine below_set ?_ GE287.out) | exact HB.out)))); (case aL => have := LMc10.out; omega); intro v290 w12 ho hb hg hat; rw [← Ny289.out] at ho; have n0_ := Aside0.mk (blk_grown (g := gb287) (o := .cells #[.string ((rd_T74 l0 x10_1).f0), .slice (some ad288) ((rd_T74 l0 x10_1).f1).length c286_1, .int .i64 ((rd_T74 l0 x10_1).f2), .int .i64 ((rd_T74 l0 x10_1).f3), .int .i64 ((rd_T74 l0 x10_1).f4)] 74 (0, 0)) (by (with_reducible repeat (first | refine blk_drewN ?_ _ | refine blk_drew ?_ | refine blk_alloc ?_ _)); exact BK287.out) hg (Kd.R_ne HO_3.out BK287.out (by decide))); have n1_ := Aside0.mk (hb); have n2_ := Aside0.mk (ho); clear BK287; clear HB; clear HO_3; have BK287 := n0_; have HB := n1_; have HO291 := n2_; clear n0_ n1_ n2_; clear ho hb hg hat))
                        go_roundg k2
                        case measure => have := HK1.out; have := HK2.out; omega
                        case rel => exact ⟨(y289), (wrap64 (x17_2 + 1)), (by first | rfl | (simp; done) | (simp [*]; done) | (simp; apply Bool.eq_iff_iff.mpr; simp only [bne_iff_ne, ne_eq, beq_iff_eq]; omega)), H', ⟨by have := HK1.out; have := HK2.out; omega⟩, ⟨by (with_reducible repeat (first | apply Kd.R_alloc | apply Kd.R_drewN | apply Kd.R_drew)); exact HO291.out⟩, ⟨by (with_reducible repeat (first | refine blk_drewN ?_ _ | refine blk_drew ?_ | refine blk_alloc ?_ _)); exact BK287.out⟩, ⟨by repeat (first | (with_reducible first | exact HB.out | apply below_alloc | apply pw_below_drewN | apply below_drew1 | refine below_set ?_ GE287.out) | exact HB.out)⟩⟩
                      · rw [if_neg c10] at H
                        exact absurd H (by simp)
                    · rw [if_neg c9] at H
                      exact absurd H (by simp)
                  · rw [if_neg c8] at H
                    exact absurd H (by simp)
                · rw [if_neg c7] at H
                  have c7b0 : decide (x17_2 < (((rd_T74 l0 x10_1).f1).length : Int)) = false := decide_eq_false c7
                  clear c7
                  have H' := Aside0.mk H
                  clear H
                  go_wp2
                  go_roundg k2
                  case measure => have := HK1.out; have := HK2.out; omega
                  case rel => exact ⟨(x3_2), (wrap64 (x10_1 + 1)), (by first | rfl | (simp; done) | (simp [*]; done) | (simp; apply Bool.eq_iff_iff.mpr; simp only [bne_iff_ne, ne_eq, beq_iff_eq]; omega)), H', ⟨by have := HK1.out; have := HK2.out; omega⟩, ⟨by (with_reducible repeat (first | apply Kd.R_alloc | apply Kd.R_drewN | apply Kd.R_drew)); exact HO_3.out⟩, ⟨by repeat (first | (with_reducible first | exact HB.out | apply below_alloc | apply pw_below_drewN | apply below_drew1 | refine below_set ?_ GE287.out) | exact HB.out)⟩⟩
          · rw [if_neg c4] at H
            exact absurd H (by simp)
        · rw [if_neg c3] at H
          exact absurd H (by simp)
      · rw [if_neg c2] at H
        have c2b0 : decide (x10_1 < (l0.length : Int)) = false := decide_eq_false c2
        clear c2
        obtain rfl := Option.some.inj H
        go_wp2
        go_ret
        exact ⟨_, by first | rfl | (simp [errW_none, errW_some] <;> rfl) | (simp [*, errW_none, errW_some] <;> rfl), by (with_reducible repeat (first | apply Kd.R_alloc | apply Kd.R_drewN | apply Kd.R_drew)); exact HO_3.out, by repeat (first | (with_reducible first | exact HB.out | apply below_alloc | apply pw_below_drewN | apply below_drew1) | exact HB.out)⟩

/-! ### impl_Fork: function 83 -/
def impl_Fork.l (k : Nat) : List S74 → List S74 → Option Bool
  | x :: l, y :: m => (impl_isIndex_1.f k x.f0 x.f1 x.f2 x.f3 x.f4 y.f0 y.f1 y.f2 y.f3 y.f4).bind fun b => if b = true then impl_Fork.l k l m else some false
  | _, _ => some true
def impl_Fork.f (k : Nat) (l0 l1 : List S74) (g : Nat) : Option Bool := if g = 84 then (if (l0.length : Int) = (l1.length : Int) then impl_Fork.l k l0 l1 else some false) else none
theorem impl_Fork.mono_l (k : Nat) : ∀ l0 l1, LeO (impl_Fork.l k l0 l1) (impl_Fork.l (k + 1) l0 l1)
  | x :: l, y :: m => by
    rw [impl_Fork.l, impl_Fork.l]
    exact LeO.bind (impl_isIndex_1.mono _ _ _ _ _ _ _ _ _ _ _) (fun _ => LeO.ite (impl_Fork.mono_l k l m) (LeO.refl _))
  | [], _ => by rw [impl_Fork.l, impl_Fork.l] <;> first | exact LeO.refl _ | (intros; simp_all)
  | _ :: _, [] => by rw [impl_Fork.l, impl_Fork.l] <;> first | exact LeO.refl _ | (intros; simp_all)
theorem impl_Fork.mono : ∀ l0 l1 g k, LeO (impl_Fork.f k l0 l1 g) (impl_Fork.f (k + 1) l0 l1 g) := fun l0 l1 g k => LeO.ite (LeO.ite (impl_Fork.mono_l k l0 l1) (LeO.refl _)) (LeO.refl _)
theorem impl_Fork.step (k : Nat) (l0 l1 : List S74) (i : Int) (h0 : 0 ≤ i) (hi : i < (l0.length : Int)) (hj : i < (l1.length : Int)) : impl_Fork.l k (l0.drop i.toNat) (l1.drop i.toNat) = (impl_isIndex_1.f k (rd_T74 l0 i).f0 (rd_T74 l0 i).f1 (rd_T74 l0 i).f2 (rd_T74 l0 i).f3 (rd_T74 l0 i).f4 (rd_T74 l1 i).f0 (rd_T74 l1 i).f1 (rd_T74 l1 i).f2 (rd_T74 l1 i).f3 (rd_T74 l1 i).f4).bind fun b => if b = true then impl_Fork.l k (l0.drop (i + 1).toNat) (l1.drop (i + 1).toNat) else some false := by
  rw [List.drop_eq_getElem_cons (show i.toNat < l0.length by omega), List.drop_eq_getElem_cons (show i.toNat < l1.length by omega), impl_Fork.l, show (i + 1).toNat = i.toNat + 1 by omega]
  have e : rd_T74 l0 i = l0[i.toNat] := by simp [rd_T74, List.getD_eq_getElem?_getD, List.getElem?_eq_getElem (show i.toNat < l0.length by omega)]
  have e2 : rd_T74 l1 i = l1[i.toNat] := by simp [rd_T74, List.getD_eq_getElem?_getD, List.getElem?_eq_getElem (show i.toNat < l1.length by omega)]
  rw [e, e2]
set_option maxHeartbeats 8000000 in
set_option maxRecDepth 100000 in
theorem impl_Fork.calls (k : Nat) (A0 : Option Addr) (c0 : Nat) (l0 : List S74) (A1 : Option Addr) (c1 : Nat) (l1 : List S74) (g : Nat) (r : Bool) (w : World) (hr0 : Kd.C k74 w A0 l0.length l0) (hc0 : l0.length ≤ c0) (hr1 : Kd.C k74 w A1 l1.length l1) (hc1 : l1.length ≤ c1) (h : impl_Fork.f k l0 l1 g = some r) :
    Calls Try.prog 83 #[.slice A0 l0.length c0, .slice A1 l1.length c1, .func (.func g) #[] #[]] w fun e w' => e = .returned (.bool r) ∧ Below w.heap.size w w' := by
  unfold impl_Fork.f at h
  by_cases hg : g = 84
  rotate_left
  · rw [if_neg hg] at h; cases h
  rw [if_pos hg] at h
  subst hg
  have hu74 := Try.underlying74
  have HR0 := Aside0.mk hr0
  have HR1 := Aside0.mk hr1
  have HB := Aside0.mk (Below.refl w.heap.size w)
  clear hr0 hr1
  by_cases hl : (l0.length : Int) = (l1.length : Int)
  · rw [if_pos hl] at h
    have HI := Aside0.mk h
    have hle : l1.length = l0.length := by omega
    have HLE := Aside0.mk hle
    rw [hle]
    rw [hle] at hc1
    clear h hl hle
    go_enter Try.func83, Try.ntmps83
    go_wp2
    go_loopg [17] l0.length (fun kq v17 w' => ∃ (xi : Int), v17 = .int .i64 xi ∧ Aside0 (0 ≤ xi ∧ xi + kq = l0.length) ∧ Aside0 (impl_Fork.l k (l0.drop xi.toNat) (l1.drop xi.toNat) = some r) ∧ Aside0 (Below w.heap.size w w'))
    case atStart => exact ⟨0, rfl, ⟨by omega⟩, HI, HB⟩
    case round =>
      clear HI HB
      obtain ⟨xi, rfl, ⟨hxi, hxk⟩, HI, HB⟩ := hrel
      cases gk with
      | zero =>
        have e0 : decide (xi < (l0.length : Int)) = false := decide_eq_false (by omega)
        have hr : true = r := by
          have := HI.out
          rw [List.drop_eq_nil_of_le (by omega), impl_Fork.l] at this
          · exact Option.some.inj this
          · intros; simp_all
        subst hr
        go_wp2
        go_ret
        exact ⟨rfl, HB.out⟩
      | succ k1 =>
        have e0 : decide (xi < (l0.length : Int)) = true := decide_eq_true (by omega)
        have hs := HI.out
        have hl1 := HLE.out
        rw [impl_Fork.step k l0 l1 xi hxi (by omega) (by omega)] at hs
        obtain ⟨b, hb, hs⟩ := Option.bind_eq_some_iff.mp hs
        have HBI := Aside0.mk hb
        clear hb HI
        obtain ⟨ad2, Aa, ca, e2, hx0, hx1, hx2, hx3, hx4, hxl, hxr⟩ := at_T74 HR0.out xi hxi (by omega)
        cases e2
        obtain ⟨ad3, Ab, cb, e3, hy0, hy1, hy2, hy3, hy4, hyl, hyr⟩ := at_T74 HR1.out xi hxi (by omega)
        cases e3
        replace hx0 := (HB.out.cell (World.block_lt_of_cell? _ _ hx0)).trans hx0
        replace hx1 := (HB.out.cell (World.block_lt_of_cell? _ _ hx1)).trans hx1
        replace hx2 := (HB.out.cell (World.block_lt_of_cell? _ _ hx2)).trans hx2
        replace hx3 := (HB.out.cell (World.block_lt_of_cell? _ _ hx3)).trans hx3
        replace hx4 := (HB.out.cell (World.block_lt_of_cell? _ _ hx4)).trans hx4
        have Y0 := Aside0.mk hy0
        have Y1 := Aside0.mk hy1
        have Y2 := Aside0.mk hy2
        have Y3 := Aside0.mk hy3
        have Y4 := Aside0.mk hy4
        have XR := Aside0.mk hxr
        have YR := Aside0.mk hyr
        have XL := Aside0.mk hxl
        have YL := Aside0.mk hyl
        clear hy0 hy1 hy2 hy3 hy4 hxr hyr hxl hyl hl1
        have p0 : (0 ≤ xi) = True := eq_true hxi
        have q0 : (xi < (l0.length : Int)) = True := eq_true (by omega)
        have i1 : wrap64 (xi + 1) = xi + 1 := by
          have := HR0.out.2.1
          unfold wrap64; omega
        cases b with
        | false =>
          rw [if_neg (by decide)] at hs
          obtain rfl := Option.some.inj hs
          clear hs
          go_wp2_with (first | ((with_reducible refine gate_dst (N := 8) rfl ?_); refine box_event ?hg (N := 8) ?hd (cs := #[.string (⟨#[]⟩ : ByteArray), .slice none 0 0, .int .i64 0, .int .i64 0, .int .i64 0]) (t := 74) ?hr ?_; (case hd => rfl); (case hg => rfl); (case hr => first | (go_simp; done) | (go_simp; rfl)); intro ga hg w1 hbox hb; have n0_ := Aside0.mk (below_step (by repeat (first | (with_reducible first | exact HB.out | apply below_alloc | apply pw_below_drewN | apply below_drew1) | exact HB.out)) hb); have n1_ := Aside0.mk (hbox); have n2_ := Aside0.mk ((by rw [hg]; exact below_size (by repeat (first | (with_reducible first | exact HB.out | apply below_alloc | apply pw_below_drewN | apply below_drew1) | exact HB.out)) : w.heap.size ≤ ga)); (try clear HB); (try clear BA); (try clear GE_ga); have HB := n0_; have BA := n1_; have GE_ga := n2_; clear n0_ n1_ n2_; clear hb hbox hg; have hc_BA_0 : w1.cell? ⟨ga, 0, none⟩ = some (.string (⟨#[]⟩ : ByteArray)) := (blk_cell BA.out 0).trans rfl; have hf_BA_0 := blk_frozen BA.out 0; have hc_BA_1 : w1.cell? ⟨ga, 1, none⟩ = some (.slice none 0 0) := (blk_cell BA.out 1).trans rfl; have hf_BA_1 := blk_frozen BA.out 1; have hc_BA_2 : w1.cell? ⟨ga, 2, none⟩ = some (.int .i64 0) := (blk_cell BA.out 2).trans rfl; have hf_BA_2 := blk_frozen BA.out 2; have hc_BA_3 : w1.cell? ⟨ga, 3, none⟩ = some (.int .i64 0) := (blk_cell BA.out 3).trans rfl; have hf_BA_3 := blk_frozen BA.out 3; have hc_BA_4 : w1.cell? ⟨ga, 4, none⟩ = some (.int .i64 0) := (blk_cell BA.out 4).trans rfl; have hf_BA_4 := blk_frozen BA.out 4) | ((with_reducible refine gate_store (t := 74) (p := 8) rfl ?_); refine store_event (t := 74) (p := 8) (v := ?vo_w2) (w1 := (((((w1.setCell ⟨ga, 0, none⟩ (.string ((rd_T74 l0 xi).f0))).setCell ⟨ga, 1, none⟩ (.slice Aa ((rd_T74 l0 xi).f1).length ca)).setCell ⟨ga, 2, none⟩ (.int .i64 ((rd_T74 l0 xi).f2))).setCell ⟨ga, 3, none⟩ (.int .i64 ((rd_T74 l0 xi).f3))).setCell ⟨ga, 4, none⟩ (.int .i64 ((rd_T74 l0 xi).f4)))) ?hg ?ho ?hn ?hr ?_; (case ho => rfl); (case hg => rfl); (case hn => rfl); (case hr => first | (go_simp; done) | (go_simp; rfl)); intro w2 hw; have n0_ := Aside0.mk (show Below w.heap.size w w2 from (by rw [hw]; exact below_set (below_set (below_set (below_set (below_set (by repeat (first | (with_reducible first | exact HB.out | apply below_alloc | apply pw_below_drewN | apply below_drew1) | exact HB.out)) GE_ga.out) GE_ga.out) GE_ga.out) GE_ga.out) GE_ga.out)); have n1_ := Aside0.mk (show w2.heap[ga]? = some (.cells #[.string ((rd_T74 l0 xi).f0), .slice Aa ((rd_T74 l0 xi).f1).length ca, .int .i64 ((rd_T74 l0 xi).f2), .int .i64 ((rd_T74 l0 xi).f3), .int .i64 ((rd_T74 l0 xi).f4)] 74 (0, 0)) from (by rw [hw]; exact (blk_put (cs' := #[.string ((rd_T74 l0 xi).f0), .slice Aa ((rd_T74 l0 xi).f1).length ca, .int .i64 ((rd_T74 l0 xi).f2), .int .i64 ((rd_T74 l0 xi).f3), .int .i64 ((rd_T74 l0 xi).f4)]) (blk_put (cs' := #[.string ((rd_T74 l0 xi).f0), .slice Aa ((rd_T74 l0 xi).f1).length ca, .int .i64 ((rd_T74 l0 xi).f2), .int .i64 ((rd_T74 l0 xi).f3), .int .i64 0]) (blk_put (cs' := #[.string ((rd_T74 l0 xi).f0), .slice Aa ((rd_T74 l0 xi).f1).length ca, .int .i64 ((rd_T74 l0 xi).f2), .int .i64 0, .int .i64 0]) (blk_put (cs' := #[.string ((rd_T74 l0 xi).f0), .slice Aa ((rd_T74 l0 xi).f1).length ca, .int .i64 0, .int .i64 0, .int .i64 0]) (blk_put (cs' := #[.string ((rd_T74 l0 xi).f0), .slice none 0 0, .int .i64 0, .int .i64 0, .int .i64 0]) (by (with_reducible repeat (first | refine blk_drewN ?_ _ | refine blk_drew ?_ | refine blk_alloc ?_ _)); exact BA.out) 0 (.string ((rd_T74 l0 xi).f0)) rfl) 1 (.slice Aa ((rd_T74 l0 xi).f1).length ca) rfl) 2 (.int .i64 ((rd_T74 l0 xi).f2)) rfl) 3 (.int .i64 ((rd_T74 l0 xi).f3)) rfl) 4 (.int .i64 ((rd_T74 l0 xi).f4)) rfl))); (try clear hc_BA_0); (try clear hf_BA_0); (try clear hc_BA_1); (try clear hf_BA_1); (try clear hc_BA_2); (try clear hf_BA_2); (try clear hc_BA_3); (try clear hf_BA_3); (try clear hc_BA_4); (try clear hf_BA_4); (try clear HB); (try clear BA); have HB := n0_; have BA := n1_; clear n0_ n1_; clear hw; (try simp only [Act.put, List.setIfInBounds_toArray, List.set_cons_zero, List.set_cons_succ]); have hc_BA_0 : w2.cell? ⟨ga, 0, none⟩ = some (.string ((rd_T74 l0 xi).f0)) := (blk_cell BA.out 0).trans rfl; have hf_BA_0 := blk_frozen BA.out 0; have hc_BA_1 : w2.cell? ⟨ga, 1, none⟩ = some (.slice Aa ((rd_T74 l0 xi).f1).length ca) := (blk_cell BA.out 1).trans rfl; have hf_BA_1 := blk_frozen BA.out 1; have hc_BA_2 : w2.cell? ⟨ga, 2, none⟩ = some (.int .i64 ((rd_T74 l0 xi).f2)) := (blk_cell BA.out 2).trans rfl; have hf_BA_2 := blk_frozen BA.out 2; have hc_BA_3 : w2.cell? ⟨ga, 3, none⟩ = some (.int .i64 ((rd_T74 l0 xi).f3)) := (blk_cell BA.out 3).trans rfl; have hf_BA_3 := blk_frozen BA.out 3; have hc_BA_4 : w2.cell? ⟨ga, 4, none⟩ = some (.int .i64 ((rd_T74 l0 xi).f4)) := (blk_cell BA.out 4).trans rfl; have hf_BA_4 := blk_frozen BA.out 4; (try clear hy0); have hy0 := (HB.out.cell (World.block_lt_of_cell? _ _ Y0.out)).trans Y0.out; (try clear hy1); have hy1 := (HB.out.cell (World.block_lt_of_cell? _ _ Y1.out)).trans Y1.out; (try clear hy2); have hy2 := (HB.out.cell (World.block_lt_of_cell? _ _ Y2.out)).trans Y2.out; (try clear hy3); have hy3 := (HB.out.cell (World.block_lt_of_cell? _ _ Y3.out)).trans Y3.out; (try clear hy4); have hy4 := (HB.out.cell (World.block_lt_of_cell? _ _ Y4.out)).trans Y4.out) | ((with_reducible refine gate_dst (N := 9) rfl ?_); refine box_event ?hg (N := 9) ?hd (cs := #[.string (⟨#[]⟩ : ByteArray), .slice none 0 0, .int .i64 0, .int .i64 0, .int .i64 0]) (t := 74) ?hr ?_; (case hd => rfl); (case hg => rfl); (case hr => first | (go_simp; done) | (go_simp; rfl)); intro gb hg w3 hbox hb; have n0_ := Aside0.mk (below_step (by repeat (first | (with_reducible first | exact HB.out | apply below_alloc | apply pw_below_drewN | apply below_drew1) | exact HB.out)) hb); have n1_ := Aside0.mk (blk_below (by (with_reducible repeat (first | refine blk_drewN ?_ _ | refine blk_drew ?_ | refine blk_alloc ?_ _)); exact BA.out) hb); have n2_ := Aside0.mk (hbox); have n3_ := Aside0.mk ((by rw [hg]; exact below_size (by repeat (first | (with_reducible first | exact HB.out | apply below_alloc | apply pw_below_drewN | apply below_drew1) | exact HB.out)) : w.heap.size ≤ gb)); have n4_ := Aside0.mk ((by rw [hg]; exact Nat.ne_of_lt (blk_lt (by (with_reducible repeat (first | refine blk_drewN ?_ _ | refine blk_drew ?_ | refine blk_alloc ?_ _)); exact BA.out)) : ga ≠ gb)); (try clear hc_BA_0); (try clear hf_BA_0); (try clear hc_BA_1); (try clear hf_BA_1); (try clear hc_BA_2); (try clear hf_BA_2); (try clear hc_BA_3); (try clear hf_BA_3); (try clear hc_BA_4); (try clear hf_BA_4); (try clear HB); (try clear BA); (try clear BB); (try clear GE_gb); (try clear NB_ga_gb); have HB := n0_; have BA := n1_; have BB := n2_; have GE_gb := n3_; have NB_ga_gb := n4_; clear n0_ n1_ n2_ n3_ n4_; clear hb hbox hg; have hc_BA_0 : w3.cell? ⟨ga, 0, none⟩ = some (.string ((rd_T74 l0 xi).f0)) := (blk_cell BA.out 0).trans rfl; have hf_BA_0 := blk_frozen BA.out 0; have hc_BA_1 : w3.cell? ⟨ga, 1, none⟩ = some (.slice Aa ((rd_T74 l0 xi).f1).length ca) := (blk_cell BA.out 1).trans rfl; have hf_BA_1 := blk_frozen BA.out 1; have hc_BA_2 : w3.cell? ⟨ga, 2, none⟩ = some (.int .i64 ((rd_T74 l0 xi).f2)) := (blk_cell BA.out 2).trans rfl; have hf_BA_2 := blk_frozen BA.out 2; have hc_BA_3 : w3.cell? ⟨ga, 3, none⟩ = some (.int .i64 ((rd_T74 l0 xi).f3)) := (blk_cell BA.out 3).trans rfl; have hf_BA_3 := blk_frozen BA.out 3; have hc_BA_4 : w3.cell? ⟨ga, 4, none⟩ = some (.int .i64 ((rd_T74 l0 xi).f4)) := (blk_cell BA.out 4).trans rfl; have hf_BA_4 := blk_frozen BA.out 4; have hc_BB_0 : w3.cell? ⟨gb, 0, none⟩ = some (.string (⟨#[]⟩ : ByteArray)) := (blk_cell BB.out 0).trans rfl; have hf_BB_0 := blk_frozen BB.out 0; have hc_BB_1 : w3.cell? ⟨gb, 1, none⟩ = some (.slice none 0 0) := (blk_cell BB.out 1).trans rfl; have hf_BB_1 := blk_frozen BB.out 1; have hc_BB_2 : w3.cell? ⟨gb, 2, none⟩ = some (.int .i64 0) := (blk_cell BB.out 2).trans rfl; have hf_BB_2 := blk_frozen BB.out 2; have hc_BB_3 : w3.cell? ⟨gb, 3, none⟩ = some (.int .i64 0) := (blk_cell BB.out 3).trans rfl; have hf_BB_3 := blk_frozen BB.out 3; have hc_BB_4 : w3.cell? ⟨gb, 4, none⟩ = some (.int .i64 0) := (blk_cell BB.out 4).trans rfl; have hf_BB_4 := blk_frozen BB.out 4) | ((with_reducible refine gate_store (t := 74) (p := 9) rfl ?_); refine store_event (t := 74) (p := 9) (v := ?vo_w4) (w1 := (((((w3.setCell ⟨gb, 0, none⟩ (.string ((rd_T74 l1 xi).f0))).setCell ⟨gb, 1, none⟩ (.slice Ab ((rd_T74 l1 xi).f1).length cb)).setCell ⟨gb, 2, none⟩ (.int .i64 ((rd_T74 l1 xi).f2))).setCell ⟨gb, 3, none⟩ (.int .i64 ((rd_T74 l1 xi).f3))).setCell ⟨gb, 4, none⟩ (.int .i64 ((rd_T74 l1 xi).f4)))) ?hg ?ho ?hn ?hr ?_; (case ho => rfl); (case hg => rfl); (case hn => rfl); (case hr => first | (go_simp; done) | (go_simp; rfl)); intro w4 hw; have n0_ := Aside0.mk (show Below w.heap.size w w4 from (by rw [hw]; exact below_set (below_set (below_set (below_set (below_set (by repeat (first | (with_reducible first | exact HB.out | apply below_alloc | apply pw_below_drewN | apply below_drew1) | exact HB.out)) GE_gb.out) GE_gb.out) GE_gb.out) GE_gb.out) GE_gb.out)); have n1_ := Aside0.mk (show w4.heap[ga]? = some (.cells #[.string ((rd_T74 l0 xi).f0), .slice Aa ((rd_T74 l0 xi).f1).length ca, .int .i64 ((rd_T74 l0 xi).f2), .int .i64 ((rd_T74 l0 xi).f3), .int .i64 ((rd_T74 l0 xi).f4)] 74 (0, 0)) from (by rw [hw]; exact (blk_far (blk_far (blk_far (blk_far (blk_far (by (with_reducible repeat (first | refine blk_drewN ?_ _ | refine blk_drew ?_ | refine blk_alloc ?_ _)); exact BA.out) (p := ⟨gb, 0, none⟩) NB_ga_gb.out (.string ((rd_T74 l1 xi).f0))) (p := ⟨gb, 1, none⟩) NB_ga_gb.out (.slice Ab ((rd_T74 l1 xi).f1).length cb)) (p := ⟨gb, 2, none⟩) NB_ga_gb.out (.int .i64 ((rd_T74 l1 xi).f2))) (p := ⟨gb, 3, none⟩) NB_ga_gb.out (.int .i64 ((rd_T74 l1 xi).f3))) (p := ⟨gb, 4, none⟩) NB_ga_gb.out (.int .i64 ((rd_T74 l1 xi).f4))))); have n2_ := Aside0.mk (show w4.heap[gb]? = some (.cells #[.string ((rd_T74 l1 xi).f0), .slice Ab ((rd_T74 l1 xi).f1).length cb, .int .i64 ((rd_T74 l1 xi).f2), .int .i64 ((rd_T74 l1 xi).f3), .int .i64 ((rd_T74 l1 xi).f4)] 74 (0, 0)) from (by rw [hw]; exact (blk_put (cs' := #[.string ((rd_T74 l1 xi).f0), .slice Ab ((rd_T74 l1 xi).f1).length cb, .int .i64 ((rd_T74 l1 xi).f2), .int .i64 ((rd_T74 l1 xi).f3), .int .i64 ((rd_T74 l1 xi).f4)]) (blk_put (cs' := #[.string ((rd_T74 l1 xi).f0), .slice Ab ((rd_T74 l1 xi).f1).length cb, .int .i64 ((rd_T74 l1 xi).f2), .int .i64 ((rd_T74 l1 xi).f3), .int .i64 0]) (blk_put (cs' := #[.string ((rd_T74 l1 xi).f0), .slice Ab ((rd_T74 l1 xi).f1).length cb, .int .i64 ((rd_T74 l1 xi).f2), .int .i64 0, .int .i64 0]) (blk_put (cs' := #[.string ((rd_T74 l1 xi).f0), .slice Ab ((rd_T74 l1 xi).f1).length cb, .int .i64 0, .int .i64 0, .int .i64 0]) (blk_put (cs' := #[.string ((rd_T74 l1 xi).f0), .slice none 0 0, .int .i64 0, .int .i64 0, .int .i64 0]) (by (with_reducible repeat (first | refine blk_drewN ?_ _ | refine blk_drew ?_ | refine blk_alloc ?_ _)); exact BB.out) 0 (.string ((rd_T74 l1 xi).f0)) rfl) 1 (.slice Ab ((rd_T74 l1 xi).f1).length cb) rfl) 2 (.int .i64 ((rd_T74 l1 xi).f2)) rfl) 3 (.int .i64 ((rd_T74 l1 xi).f3)) rfl) 4 (.int .i64 ((rd_T74 l1 xi).f4)) rfl))); (try clear hc_BA_0); (try clear hf_BA_0); (try clear hc_BA_1); (try clear hf_BA_1); (try clear hc_BA_2); (try clear hf_BA_2); (try clear hc_BA_3); (try clear hf_BA_3); (try clear hc_BA_4); (try clear hf_BA_4); (try clear hc_BB_0); (try clear hf_BB_0); (try clear hc_BB_1); (try clear hf_BB_1); (try clear hc_BB_2); (try clear hf_BB_2); (try clear hc_BB_3); (try clear hf_BB_3); (try clear hc_BB_4); (try clear hf_BB_4); (try clear HB); (try clear BA); (try clear BB); have HB := n0_; have BA := n1_; have BB := n2_; clear n0_ n1_ n2_; clear hw; (try simp only [Act.put, List.setIfInBounds_toArray, List.set_cons_zero, List.set_cons_succ]); have hc_BA_0 : w4.cell? ⟨ga, 0, none⟩ = some (.string ((rd_T74 l0 xi).f0)) := (blk_cell BA.out 0).trans rfl; have hf_BA_0 := blk_frozen BA.out 0; have hc_BA_1 : w4.cell? ⟨ga, 1, none⟩ = some (.slice Aa ((rd_T74 l0 xi).f1).length ca) := (blk_cell BA.out 1).trans rfl; have hf_BA_1 := blk_frozen BA.out 1; have hc_BA_2 : w4.cell? ⟨ga, 2, none⟩ = some (.int .i64 ((rd_T74 l0 xi).f2)) := (blk_cell BA.out 2).trans rfl; have hf_BA_2 := blk_frozen BA.out 2; have hc_BA_3 : w4.cell? ⟨ga, 3, none⟩ = some (.int .i64 ((rd_T74 l0 xi).f3)) := (blk_cell BA.out 3).trans rfl; have hf_BA_3 := blk_frozen BA.out 3; have hc_BA_4 : w4.cell? ⟨ga, 4, none⟩ = some (.int .i64 ((rd_T74 l0 xi).f4)) := (blk_cell BA.out 4).trans rfl; have hf_BA_4 := blk_frozen BA.out 4; have hc_BB_0 : w4.cell? ⟨gb, 0, none⟩ = some (.string ((rd_T74 l1 xi).f0)) := (blk_cell BB.out 0).trans rfl; have hf_BB_0 := blk_frozen BB.out 0; have hc_BB_1 : w4.cell? ⟨gb, 1, none⟩ = some (.slice Ab ((rd_T74 l1 xi).f1).length cb) := (blk_cell BB.out 1).trans rfl; have hf_BB_1 := blk_frozen BB.out 1; have hc_BB_2 : w4.cell? ⟨gb, 2, none⟩ = some (.int .i64 ((rd_T74 l1 xi).f2)) := (blk_cell BB.out 2).trans rfl; have hf_BB_2 := blk_frozen BB.out 2; have hc_BB_3 : w4.cell? ⟨gb, 3, none⟩ = some (.int .i64 ((rd_T74 l1 xi).f3)) := (blk_cell BB.out 3).trans rfl; have hf_BB_3 := blk_frozen BB.out 3; have hc_BB_4 : w4.cell? ⟨gb, 4, none⟩ = some (.int .i64 ((rd_T74 l1 xi).f4)) := (blk_cell BB.out 4).trans rfl; have hf_BB_4 := blk_frozen BB.out 4) | ((go_at_call 84); refine (impl_isIndex_1.calls k _ Aa ca _ _ _ _ _ Ab cb _ _ _ _ _ _ (Kd.C_below XR.out HB.out) XL.out (Kd.C_below YR.out HB.out) YL.out HBI.out).mono ?_; rintro e w5 ⟨rfl, hb⟩; have n0_ := Aside0.mk (below_step HB.out hb); clear hb HB BA BB; have HB := n0_; clear n0_))
          go_ret
          exact ⟨rfl, HB.out⟩
        | true =>
          rw [if_pos rfl] at hs
          have HI := Aside0.mk hs
          clear hs
          go_wp2_with (first | ((with_reducible refine gate_dst (N := 8) rfl ?_); refine box_event ?hg (N := 8) ?hd (cs := #[.string (⟨#[]⟩ : ByteArray), .slice none 0 0, .int .i64 0, .int .i64 0, .int .i64 0]) (t := 74) ?hr ?_; (case hd => rfl); (case hg => rfl); (case hr => first | (go_simp; done) | (go_simp; rfl)); intro ga hg w1 hbox hb; have n0_ := Aside0.mk (below_step (by repeat (first | (with_reducible first | exact HB.out | apply below_alloc | apply pw_below_drewN | apply below_drew1) | exact HB.out)) hb); have n1_ := Aside0.mk (hbox); have n2_ := Aside0.mk ((by rw [hg]; exact below_size (by repeat (first | (with_reducible first | exact HB.out | apply below_alloc | apply pw_below_drewN | apply below_drew1) | exact HB.out)) : w.heap.size ≤ ga)); (try clear HB); (try clear BA); (try clear GE_ga); have HB := n0_; have BA := n1_; have GE_ga := n2_; clear n0_ n1_ n2_; clear hb hbox hg; have hc_BA_0 : w1.cell? ⟨ga, 0, none⟩ = some (.string (⟨#[]⟩ : ByteArray)) := (blk_cell BA.out 0).trans rfl; have hf_BA_0 := blk_frozen BA.out 0; have hc_BA_1 : w1.cell? ⟨ga, 1, none⟩ = some (.slice none 0 0) := (blk_cell BA.out 1).trans rfl; have hf_BA_1 := blk_frozen BA.out 1; have hc_BA_2 : w1.cell? ⟨ga, 2, none⟩ = some (.int .i64 0) := (blk_cell BA.out 2).trans rfl; have hf_BA_2 := blk_frozen BA.out 2; have hc_BA_3 : w1.cell? ⟨ga, 3, none⟩ = some (.int .i64 0) := (blk_cell BA.out 3).trans rfl; have hf_BA_3 := blk_frozen BA.out 3; have hc_BA_4 : w1.cell? ⟨ga, 4, none⟩ = some (.int .i64 0) := (blk_cell BA.out 4).trans rfl; have hf_BA_4 := blk_frozen BA.out 4) | ((with_reducible refine gate_store (t := 74) (p := 8) rfl ?_); refine store_event (t := 74) (p := 8) (v := ?vo_w2) (w1 := (((((w1.setCell ⟨ga, 0, none⟩ (.string ((rd_T74 l0 xi).f0))).setCell ⟨ga, 1, none⟩ (.slice Aa ((rd_T74 l0 xi).f1).length ca)).setCell ⟨ga, 2, none⟩ (.int .i64 ((rd_T74 l0 xi).f2))).setCell ⟨ga, 3, none⟩ (.int .i64 ((rd_T74 l0 xi).f3))).setCell ⟨ga, 4, none⟩ (.int .i64 ((rd_T74 l0 xi).f4)))) ?hg ?ho ?hn ?hr ?_; (case ho => rfl); (case hg => rfl); (case hn => rfl); (case hr => first | (go_simp; done) | (go_simp; rfl)); intro w2 hw; have n0_ := Aside0.mk (show Below w.heap.size w w2 from (by rw [hw]; exact below_set (below_set (below_set (below_set (below_set (by repeat (first | (with_reducible first | exact HB.out | apply below_alloc | apply pw_below_drewN | apply below_drew1) | exact HB.out)) GE_ga.out) GE_ga.out) GE_ga.out) GE_ga.out) GE_ga.out)); have n1_ := Aside0.mk (show w2.heap[ga]? = some (.cells #[.string ((rd_T74 l0 xi).f0), .slice Aa ((rd_T74 l0 xi).f1).length ca, .int .i64 ((rd_T74 l0 xi).f2), .int .i64 ((rd_T74 l0 xi).f3), .int .i64 ((rd_T74 l0 xi).f4)] 74 (0, 0)) from (by rw [hw]; exact (blk_put (cs' := #[.string ((rd_T74 l0 xi).f0), .slice Aa ((rd_T74 l0 xi).f1).length ca, .int .i64 ((rd_T74 l0 xi).f2), .int .i64 ((rd_T74 l0 xi).f3), .int .i64 ((rd_T74 l0 xi).f4)]) (blk_put (cs' := #[.string ((rd_T74 l0 xi).f0), .slice Aa ((rd_T74 l0 xi).f1).length ca, .int .i64 ((rd_T74 l0 xi).f2), .int .i64 ((rd_T74 l0 xi).f3), .int .i64 0]) (blk_put (cs' := #[.string ((rd_T74 l0 xi).f0), .slice Aa ((rd_T74 l0 xi).f1).length ca, .int .i64 ((rd_T74 l0 xi).f2), .int .i64 0, .int .i64 0]) (blk_put (cs' := #[.string ((rd_T74 l0 xi).f0), .slice Aa ((rd_T74 l0 xi).f1).length ca, .int .i64 0, .int .i64 0, .int .i64 0]) (blk_put (cs' := #[.string ((rd_T74 l0 xi).f0), .slice none 0 0, .int .i64 0, .int .i64 0, .int .i64 0]) (by (with_reducible repeat (first | refine blk_drewN ?_ _ | refine blk_drew ?_ | refine blk_alloc ?_ _)); exact BA.out) 0 (.string ((rd_T74 l0 xi).f0)) rfl) 1 (.slice Aa ((rd_T74 l0 xi).f1).length ca) rfl) 2 (.int .i64 ((rd_T74 l0 xi).f2)) rfl) 3 (.int .i64 ((rd_T74 l0 xi).f3)) rfl) 4 (.int .i64 ((rd_T74 l0 xi).f4)) rfl))); (try clear hc_BA_0); (try clear hf_BA_0); (try clear hc_BA_1); (try clear hf_BA_1); (try clear hc_BA_2); (try clear hf_BA_2); (try clear hc_BA_3); (try clear hf_BA_3); (try clear hc_BA_4); (try clear hf_BA_4); (try clear HB); (try clear BA); have HB := n0_; have BA := n1_; clear n0_ n1_; clear hw; (try simp only [Act.put, List.setIfInBounds_toArray, List.set_cons_zero, List.set_cons_succ]); have hc_BA_0 : w2.cell? ⟨ga, 0, none⟩ = some (.string ((rd_T74 l0 xi).f0)) := (blk_cell BA.out 0).trans rfl; have hf_BA_0 := blk_frozen BA.out 0; have hc_BA_1 : w2.cell? ⟨ga, 1, none⟩ = some (.slice Aa ((rd_T74 l0 xi).f1).length ca) := (blk_cell BA.out 1).trans rfl; have hf_BA_1 := blk_frozen BA.out 1; have hc_BA_2 : w2.cell? ⟨ga, 2, none⟩ = some (.int .i64 ((rd_T74 l0 xi).f2)) := (blk_cell BA.out 2).trans rfl; have hf_BA_2 := blk_frozen BA.out 2; have hc_BA_3 : w2.cell? ⟨ga, 3, none⟩ = some (.int .i64 ((rd_T74 l0 xi).f3)) := (blk_cell BA.out 3).trans rfl; have hf_BA_3 := blk_frozen BA.out 3; have hc_BA_4 : w2.cell? ⟨ga, 4, none⟩ = some (.int .i64 ((rd_T74 l0 xi).f4)) := (blk_cell BA.out 4).trans rfl; have hf_BA_4 := blk_frozen BA.out 4; (try clear hy0); have hy0 := (HB.out.cell (World.block_lt_of_cell? _ _ Y0.out)).trans Y0.out; (try clear hy1); have hy1 := (HB.out.cell (World.block_lt_of_cell? _ _ Y1.out)).trans Y1.out; (try clear hy2); have hy2 := (HB.out.cell (World.block_lt_of_cell? _ _ Y2.out)).trans Y2.out; (try clear hy3); have hy3 := (HB.out.cell (World.block_lt_of_cell? _ _ Y3.out)).trans Y3.out; (try clear hy4); have hy4 := (HB.out.cell (World.block_lt_of_cell? _ _ Y4.out)).trans Y4.out) | ((with_reducible refine gate_dst (N := 9) rfl ?_); refine box_event ?hg (N := 9) ?hd (cs := #[.string (⟨#[]⟩ : ByteArray), .slice none 0 0, .int .i64 0, .int .i64 0, .int .i64 0]) (t := 74) ?hr ?_; (case hd => rfl); (case hg => rfl); (case hr => first | (go_simp; done) | (go_simp; rfl)); intro gb hg w3 hbox hb; have n0_ := Aside0.mk (below_step (by repeat (first | (with_reducible first | exact HB.out | apply below_alloc | apply pw_below_drewN | apply below_drew1) | exact HB.out)) hb); have n1_ := Aside0.mk (blk_below (by (with_reducible repeat (first | refine blk_drewN ?_ _ | refine blk_drew ?_ | refine blk_alloc ?_ _)); exact BA.out) hb); have n2_ := Aside0.mk (hbox); have n3_ := Aside0.mk ((by rw [hg]; exact below_size (by repeat (first | (with_reducible first | exact HB.out | apply below_alloc | apply pw_below_drewN | apply below_drew1) | exact HB.out)) : w.heap.size ≤ gb)); have n4_ := Aside0.mk ((by rw [hg]; exact Nat.ne_of_lt (blk_lt (by (with_reducible repeat (first | refine blk_drewN ?_ _ | refine blk_drew ?_ | refine blk_alloc ?_ _)); exact BA.out)) : ga ≠ gb)); (try clear hc_BA_0); (try clear hf_BA_0); (try clear hc_BA_1); (try clear hf_BA_1); (try clear hc_BA_2); (try clear hf_BA_2); (try clear hc_BA_3); (try clear hf_BA_3); (try clear hc_BA_4); (try clear hf_BA_4); (try clear HB); (try clear BA); (try clear BB); (try clear GE_gb); (try clear NB_ga_gb); have HB := n0_; have BA := n1_; have BB := n2_; have GE_gb := n3_; have NB_ga_gb := n4_; clear n0_ n1_ n2_ n3_ n4_; clear hb hbox hg; have hc_BA_0 : w3.cell? ⟨ga, 0, none⟩ = some (.string ((rd_T74 l0 xi).f0)) := (blk_cell BA.out 0).trans rfl; have hf_BA_0 := blk_frozen BA.out 0; have hc_BA_1 : w3.cell? ⟨ga, 1, none⟩ = some (.slice Aa ((rd_T74 l0 xi).f1).length ca) := (blk_cell BA.out 1).trans rfl; have hf_BA_1 := blk_frozen BA.out 1; have hc_BA_2 : w3.cell? ⟨ga, 2, none⟩ = some (.int .i64 ((rd_T74 l0 xi).f2)) := (blk_cell BA.out 2).trans rfl; have hf_BA_2 := blk_frozen BA.out 2; have hc_BA_3 : w3.cell? ⟨ga, 3, none⟩ = some (.int .i64 ((rd_T74 l0 xi).f3)) := (blk_cell BA.out 3).trans rfl; have hf_BA_3 := blk_frozen BA.out 3; have hc_BA_4 : w3.cell? ⟨ga, 4, none⟩ = some (.int .i64 ((rd_T74 l0 xi).f4)) := (blk_cell BA.out 4).trans rfl; have hf_BA_4 := blk_frozen BA.out 4; have hc_BB_0 : w3.cell? ⟨gb, 0, none⟩ = some (.string (⟨#[]⟩ : ByteArray)) := (blk_cell BB.out 0).trans rfl; have hf_BB_0 := blk_frozen BB.out 0; have hc_BB_1 : w3.cell? ⟨gb, 1, none⟩ = some (.slice none 0 0) := (blk_cell BB.out 1).trans rfl; have hf_BB_1 := blk_frozen BB.out 1; have hc_BB_2 : w3.cell? ⟨gb, 2, none⟩ = some (.int .i64 0) := (blk_cell BB.out 2).trans rfl; have hf_BB_2 := blk_frozen BB.out 2; have hc_BB_3 : w3.cell? ⟨gb, 3, none⟩ = some (.int .i64 0) := (blk_cell BB.out 3).trans rfl; have hf_BB_3 := blk_frozen BB.out 3; have hc_BB_4 : w3.cell? ⟨gb, 4, none⟩ = some (.int .i64 0) := (blk_cell BB.out 4).trans rfl; have hf_BB_4 := blk_frozen BB.out 4) | ((with_reducible refine gate_store (t := 74) (p := 9) rfl ?_); refine store_event (t := 74) (p := 9) (v := ?vo_w4) (w1 := (((((w3.setCell ⟨gb, 0, none⟩ (.string ((rd_T74 l1 xi).f0))).setCell ⟨gb, 1, none⟩ (.slice Ab ((rd_T74 l1 xi).f1).length cb)).setCell ⟨gb, 2, none⟩ (.int .i64 ((rd_T74 l1 xi).f2))).setCell ⟨gb, 3, none⟩ (.int .i64 ((rd_T74 l1 xi).f3))).setCell ⟨gb, 4, none⟩ (.int .i64 ((rd_T74 l1 xi).f4)))) ?hg ?ho ?hn ?hr ?_; (case ho => rfl); (case hg => rfl); (case hn => rfl); (case hr => first | (go_simp; done) | (go_simp; rfl)); intro w4 hw; have n0_ := Aside0.mk (show Below w.heap.size w w4 from (by rw [hw]; exact below_set (below_set (below_set (below_set (below_set (by repeat (first | (with_reducible first | exact HB.out | apply below_alloc | apply pw_below_drewN | apply below_drew1) | exact HB.out)) GE_gb.out) GE_gb.out) GE_gb.out) GE_gb.out) GE_gb.out)); have n1_ := Aside0.mk (show w4.heap[ga]? = some (.cells #[.string ((rd_T74 l0 xi).f0), .slice Aa ((rd_T74 l0 xi).f1).length ca, .int .i64 ((rd_T74 l0 xi).f2), .int .i64 ((rd_T74 l0 xi).f3), .int .i64 ((rd_T74 l0 xi).f4)] 74 (0, 0)) from (by rw [hw]; exact (blk_far (blk_far (blk_far (blk_far (blk_far (by (with_reducible repeat (first | refine blk_drewN ?_ _ | refine blk_drew ?_ | refine blk_alloc ?_ _)); exact BA.out) (p := ⟨gb, 0, none⟩) NB_ga_gb.out (.string ((rd_T74 l1 xi).f0))) (p := ⟨gb, 1, none⟩) NB_ga_gb.out (.slice Ab ((rd_T74 l1 xi).f1).length cb)) (p := ⟨gb, 2, none⟩) NB_ga_gb.out (.int .i64 ((rd_T74 l1 xi).f2))) (p := ⟨gb, 3, none⟩) NB_ga_gb.out (.int .i64 ((rd_T74 l1 xi).f3))) (p := ⟨gb, 4, none⟩) NB_ga_gb.out (.int .i64 ((rd_T74 l1 xi).f4))))); have n2_ := Aside0.mk (show w4.heap[gb]? = some (.cells #[.string ((rd_T74 l1 xi).f0), .slice Ab ((rd_T74 l1 xi).f1).length cb, .int .i64 ((rd_T74 l1 xi).f2), .int .i64 ((rd_T74 l1 xi).f3), .int .i64 ((rd_T74 l1 xi).f4)] 74 (0, 0)) from (by rw [hw]; exact (blk_put (cs' := #[.string ((rd_T74 l1 xi).f0), .slice Ab ((rd_T74 l1 xi).f1).length cb, .int .i64 ((rd_T74 l1 xi).f2), .int .i64 ((rd_T74 l1 xi).f3), .int .i64 ((rd_T74 l1 xi).f4)]) (blk_put (cs' := #[.string ((rd_T74 l1 xi).f0), .slice Ab ((rd_T74 l1 xi).f1).length cb, .int .i64 ((rd_T74 l1 xi).f2), .int .i64 ((rd_T74 l1 xi).f3), .int .i64 0]) (blk_put (cs' := #[.string ((rd_T74 l1 xi).f0), .slice Ab ((rd_T74 l1 xi).f1).length cb, .int .i64 ((rd_T74 l1 xi).f2), .int .i64 0, .int .i64 0]) (blk_put (cs' := #[.string ((rd_T74 l1 xi).f0), .slice Ab ((rd_T74 l1 xi).f1).length cb, .int .i64 0, .int .i64 0, .int .i64 0]) (blk_put (cs' := #[.string ((rd_T74 l1 xi).f0), .slice none 0 0, .int .i64 0, .int .i64 0, .int .i64 0]) (by (with_reducible repeat (first | refine blk_drewN ?_ _ | refine blk_drew ?_ | refine blk_alloc ?_ _)); exact BB.out) 0 (.string ((rd_T74 l1 xi).f0)) rfl) 1 (.slice Ab ((rd_T74 l1 xi).f1).length cb) rfl) 2 (.int .i64 ((rd_T74 l1 xi).f2)) rfl) 3 (.int .i64 ((rd_T74 l1 xi).f3)) rfl) 4 (.int .i64 ((rd_T74 l1 xi).f4)) rfl))); (try clear hc_BA_0); (try clear hf_BA_0); (try clear hc_BA_1); (try clear hf_BA_1); (try clear hc_BA_2); (try clear hf_BA_2); (try clear hc_BA_3); (try clear hf_BA_3); (try clear hc_BA_4); (try clear hf_BA_4); (try clear hc_BB_0); (try clear hf_BB_0); (try clear hc_BB_1); (try clear hf_BB_1); (try clear hc_BB_2); (try clear hf_BB_2); (try clear hc_BB_3); (try clear hf_BB_3); (try clear hc_BB_4); (try clear hf_BB_4); (try clear HB); (try clear BA); (try clear BB); have HB := n0_; have BA := n1_; have BB := n2_; clear n0_ n1_ n2_; clear hw; (try simp only [Act.put, List.setIfInBounds_toArray, List.set_cons_zero, List.set_cons_succ]); have hc_BA_0 : w4.cell? ⟨ga, 0, none⟩ = some (.string ((rd_T74 l0 xi).f0)) := (blk_cell BA.out 0).trans rfl; have hf_BA_0 := blk_frozen BA.out 0; have hc_BA_1 : w4.cell? ⟨ga, 1, none⟩ = some (.slice Aa ((rd_T74 l0 xi).f1).length ca) := (blk_cell BA.out 1).trans rfl; have hf_BA_1 := blk_frozen BA.out 1; have hc_BA_2 : w4.cell? ⟨ga, 2, none⟩ = some (.int .i64 ((rd_T74 l0 xi).f2)) := (blk_cell BA.out 2).trans rfl; have hf_BA_2 := blk_frozen BA.out 2; have hc_BA_3 : w4.cell? ⟨ga, 3, none⟩ = some (.int .i64 ((rd_T74 l0 xi).f3)) := (blk_cell BA.out 3).trans rfl; have hf_BA_3 := blk_frozen BA.out 3; have hc_BA_4 : w4.cell? ⟨ga, 4, none⟩ = some (.int .i64 ((rd_T74 l0 xi).f4)) := (blk_cell BA.out 4).trans rfl; have hf_BA_4 := blk_frozen BA.out 4; have hc_BB_0 : w4.cell? ⟨gb, 0, none⟩ = some (.string ((rd_T74 l1 xi).f0)) := (blk_cell BB.out 0).trans rfl; have hf_BB_0 := blk_frozen BB.out 0; have hc_BB_1 : w4.cell? ⟨gb, 1, none⟩ = some (.slice Ab ((rd_T74 l1 xi).f1).length cb) := (blk_cell BB.out 1).trans rfl; have hf_BB_1 := blk_frozen BB.out 1; have hc_BB_2 : w4.cell? ⟨gb, 2, none⟩ = some (.int .i64 ((rd_T74 l1 xi).f2)) := (blk_cell BB.out 2).trans rfl; have hf_BB_2 := blk_frozen BB.out 2; have hc_BB_3 : w4.cell? ⟨gb, 3, none⟩ = some (.int .i64 ((rd_T74 l1 xi).f3)) := (blk_cell BB.out 3).trans rfl; have hf_BB_3 := blk_frozen BB.out 3; have hc_BB_4 : w4.cell? ⟨gb, 4, none⟩ = some (.int .i64 ((rd_T74 l1 xi).f4)) := (blk_cell BB.out 4).trans rfl; have hf_BB_4 := blk_frozen BB.out 4) | ((go_at_call 84); refine (impl_isIndex_1.calls k _ Aa ca _ _ _ _ _ Ab cb _ _ _ _ _ _ (Kd.C_below XR.out HB.out) XL.out (Kd.C_below YR.out HB.out) YL.out HBI.out).mono ?_; rintro e w5 ⟨rfl, hb⟩; have n0_ := Aside0.mk (below_step HB.out hb); clear hb HB BA BB; have HB := n0_; clear n0_))
          go_roundg k1
          case measure => omega
          case rel => exact ⟨xi + 1, by first | rfl | rw [i1], ⟨by omega⟩, HI, HB⟩
  · rw [if_neg hl] at h
    obtain rfl := Option.some.inj h
    clear h
    have d1 : ((l0.length : Int) == (l1.length : Int)) = false := beq_false_of_ne hl
    have d2 : ((l0.length : Int) != (l1.length : Int)) = true := bne_iff_ne.2 hl
    have d3 : (l0.length != l1.length) = true := bne_iff_ne.2 (by omega)
    have d4 : (l0.length == l1.length) = false := beq_false_of_ne (by omega)
    have d5 : (l0.length = l1.length) = False := eq_false (by omega)
    clear hl
    go_enter Try.func83, Try.ntmps83
    go_wp2
    go_ret
    exact ⟨rfl, HB.out⟩

/-! ### impl_isIndex: function 55 -/
def impl_isIndex.f (k : Nat) (l0 : List (S74)) : Option (Bool) := (impl_pairsIn.f k l0).bind fun t292 => (if (l0.length : Int) ≤ 40 then ((impl_arePairs.f k t292).bind fun t295 => (if t295 = true then ((impl_indexOf.f k t292).bind fun t296 => ((impl_Fork.f k t296 l0 84).bind fun t299 => (some t299))) else (some false))) else (some false))
theorem impl_isIndex.mono : ∀ a0 k, LeO (impl_isIndex.f k a0) (impl_isIndex.f (k + 1) a0) := by
  intro a0 k
  unfold impl_isIndex.f
  repeat' first
      | (with_reducible exact impl_Fork.mono _ _ _ _)
      | (with_reducible exact impl_arePairs.mono _ _)
      | (with_reducible exact impl_indexOf.mono _ _)
      | (with_reducible exact impl_pairsIn.mono _ _)
      | (with_reducible exact LeO.refl _)
      | (with_reducible exact LeO.none _)
      | (with_reducible refine LeO.ite ?_ ?_)
      | (with_reducible refine LeO.bind ?_ (fun _ => ?_))
      | exact impl_Fork.mono _ _ _ _
      | exact impl_arePairs.mono _ _
      | exact impl_indexOf.mono _ _
      | exact impl_pairsIn.mono _ _
      | exact LeO.none _
      | refine LeO.ite ?_ ?_
      | refine LeO.bind ?_ (fun _ => ?_)
set_option maxHeartbeats 8000000 in
set_option maxRecDepth 100000 in
theorem impl_isIndex.calls (k : Nat) (A0 : Option Addr) (c0 : Nat) (l0 : List (S74)) (r : Bool) (w : World) (hr0 : Kd.C k74 w A0 l0.length l0) (hc0 : l0.length ≤ c0) (h : impl_isIndex.f k l0 = some r) :
    Calls Try.prog 55 #[.slice A0 l0.length c0] w fun e w' => e = .returned (.bool r) ∧ Below w.heap.size w w' := by
  have HR0 := Aside0.mk hr0
  have HC0 := Aside0.mk hc0
  clear hr0 hc0
  have HB := Aside0.mk (Below.refl w.heap.size w)
  have H : ((impl_pairsIn.f k l0).bind fun t292 => (if (l0.length : Int) ≤ 40 then ((impl_arePairs.f k t292).bind fun t295 => (if t295 = true then ((impl_indexOf.f k t292).bind fun t296 => ((impl_Fork.f k t296 l0 84).bind fun t299 => (some t299))) else (some false))) else (some false))) = some r := h
  clear h
  replace H := Option.bind_eq_some_iff.mp H
  obtain ⟨t292, A20, H⟩ := H
  replace H : (if (l0.length : Int) ≤ 40 then ((impl_arePairs.f k t292).bind fun t295 => (if t295 = true then ((impl_indexOf.f k t292).bind fun t296 => ((impl_Fork.f k t296 l0 84).bind fun t299 => (some t299))) else (some false))) else (some false)) = some r := H
  have A2 := Aside0.mk A20
  clear A20
  by_cases c3 : (l0.length : Int) ≤ 40
  · rw [if_pos c3] at H
    have c3b0 : decide ((l0.length : Int) ≤ 40) = true := decide_eq_true c3
    have c3b1 : decide (l0.length ≤ 40) = true := decide_eq_true (by omega)
    clear c3
    replace H := Option.bind_eq_some_iff.mp H
    obtain ⟨t295, A40, H⟩ := H
    replace H : (if t295 = true then ((impl_indexOf.f k t292).bind fun t296 => ((impl_Fork.f k t296 l0 84).bind fun t299 => (some t299))) else (some false)) = some r := H
    have A4 := Aside0.mk A40
    clear A40
    by_cases c5 : t295 = true
    · subst c5
      have H1 : ((impl_indexOf.f k t292).bind fun t296 => ((impl_Fork.f k t296 l0 84).bind fun t299 => (some t299))) = some r := by rw [if_pos rfl] at H; exact H
      clear H
      have H := H1
      clear H1
      replace H := Option.bind_eq_some_iff.mp H
      obtain ⟨t296, A60, H⟩ := H
      replace H : ((impl_Fork.f k t296 l0 84).bind fun t299 => (some t299)) = some r := H
      have A6 := Aside0.mk A60
      clear A60
      replace H := Option.bind_eq_some_iff.mp H
      obtain ⟨t299, A70, H⟩ := H
      replace H : (some t299) = some r := H
      have A7 := Aside0.mk A70
      clear A70
      obtain rfl := Option.some.inj H
      go_enter Try.func55, Try.ntmps55
      go_wp2_with (first | ((with_reducible refine gate_callee (f := 64) rfl ?_); refine goesL_ (some 5) rfl rfl Try.func64 (by kernel_rfl) rfl #[.slice A0 l0.length c0] rfl (by (try simp only [List.map_toArray, List.map_cons, List.map_nil]); first | done | rfl | (simp only [List.length_drop, List.length_take]; rfl)) ?_; (with_reducible refine (impl_pairsIn.calls k _ _ l0 t292 _ ?side1 ?side2 A2.out).mono ?_); (case side1 => repeat (first | exact HR0.out | (with_reducible refine Kd.C_alloc ?_ _) | (with_reducible refine Kd.C_drewN ?_ _) | (with_reducible refine Kd.C_drew ?_))); (case side2 => exact HC0.out); rintro e w8 ⟨v293, rfl, ho0, hb⟩; refine ⟨_, rfl, ?_⟩; have n0_ := Aside0.mk (Kd.R_lower ho0 (below_size (by repeat (first | (with_reducible first | exact HB.out | apply below_alloc | apply pw_below_drewN | apply below_drew1) | exact HB.out)))); have n1_ := Aside0.mk (below_step (by repeat (first | (with_reducible first | exact HB.out | apply below_alloc | apply pw_below_drewN | apply below_drew1) | exact HB.out)) hb); clear HB; have HO294 := n0_; have HB := n1_; clear n0_ n1_; (try clear hb); (try clear hb2); (try clear hk); (try clear hi); (try clear ho0); obtain ⟨Ao9, co9, eo9⟩ := Kd.R_slice HO294.out; subst eo9) | (go_at_call 57; (with_reducible refine (impl_arePairs.calls k _ _ t292 true _ ?side1 ?side2 A4.out).mono ?_); (case side1 => repeat (first | exact (Kd.R_reads' HO294.out).2.2 | (with_reducible refine Kd.C_alloc ?_ _) | (with_reducible refine Kd.C_drewN ?_ _) | (with_reducible refine Kd.C_drew ?_))); (case side2 => exact (Kd.R_reads' HO294.out).2.1); rintro e w10 ⟨rfl, hb⟩; have n0_ := Aside0.mk (Kd.R_below (by (with_reducible repeat (first | apply Kd.R_alloc | apply Kd.R_drewN | apply Kd.R_drew)); exact HO294.out) hb); have n1_ := Aside0.mk (below_step (by repeat (first | (with_reducible first | exact HB.out | apply below_alloc | apply pw_below_drewN | apply below_drew1) | exact HB.out)) hb); clear HO294; clear HB; have HO294 := n0_; have HB := n1_; clear n0_ n1_; (try clear hb); (try clear hb2); (try clear hk); (try clear hi)) | (go_at_call 58; (with_reducible refine (impl_indexOf.calls k _ _ t292 t296 _ ?side1 ?side2 A6.out).mono ?_); (case side1 => repeat (first | exact (Kd.R_reads' HO294.out).2.2 | (with_reducible refine Kd.C_alloc ?_ _) | (with_reducible refine Kd.C_drewN ?_ _) | (with_reducible refine Kd.C_drew ?_))); (case side2 => exact (Kd.R_reads' HO294.out).2.1); rintro e w11 ⟨v297, rfl, ho0, hb⟩; have n0_ := Aside0.mk (Kd.R_below (by (with_reducible repeat (first | apply Kd.R_alloc | apply Kd.R_drewN | apply Kd.R_drew)); exact HO294.out) hb); have n1_ := Aside0.mk (Kd.S_lower ho0 (below_size (by repeat (first | (with_reducible first | exact HB.out | apply below_alloc | apply pw_below_drewN | apply below_drew1) | exact HB.out)))); have n2_ := Aside0.mk (below_step (by repeat (first | (with_reducible first | exact HB.out | apply below_alloc | apply pw_below_drewN | apply below_drew1) | exact HB.out)) hb); clear HO294; clear HB; have HO294 := n0_; have HO298 := n1_; have HB := n2_; clear n0_ n1_ n2_; (try clear hb); (try clear hb2); (try clear hk); (try clear hi); (try clear ho0); obtain ⟨Ao12, co12, eo12⟩ := Kd.S_slice HO298.out; subst eo12) | (go_at_call 83; (with_reducible refine (impl_Fork.calls k _ _ t296 _ _ l0 84 t299 _ ?side1 ?side2 ?side3 ?side4 A7.out).mono ?_); (case side1 => repeat (first | exact (Kd.S_reads' HO298.out).2.2 | (with_reducible refine Kd.C_alloc ?_ _) | (with_reducible refine Kd.C_drewN ?_ _) | (with_reducible refine Kd.C_drew ?_))); (case side2 => exact (Kd.S_reads' HO298.out).2.1); (case side3 => repeat (first | exact (Kd.C_below HR0.out HB.out) | (with_reducible refine Kd.C_alloc ?_ _) | (with_reducible refine Kd.C_drewN ?_ _) | (with_reducible refine Kd.C_drew ?_))); (case side4 => exact HC0.out); rintro e w13 ⟨rfl, hb⟩; have n0_ := Aside0.mk (Kd.R_below (by (with_reducible repeat (first | apply Kd.R_alloc | apply Kd.R_drewN | apply Kd.R_drew)); exact HO294.out) hb); have n1_ := Aside0.mk (Kd.S_below (by (with_reducible repeat (first | apply Kd.S_alloc | apply Kd.S_drewN | apply Kd.S_drew)); exact HO298.out) hb); have n2_ := Aside0.mk (below_step (by repeat (first | (with_reducible first | exact HB.out | apply below_alloc | apply pw_below_drewN | apply below_drew1) | exact HB.out)) hb); clear HO294; clear HO298; clear HB; have HO294 := n0_; have HO298 := n1_; have HB := n2_; clear n0_ n1_ n2_; (try clear hb); (try clear hb2); (try clear hk); (try clear hi)))
      go_ret
      exact ⟨by first | rfl | (simp [errW_none, errW_some] <;> rfl) | (simp [*, errW_none, errW_some] <;> rfl), by repeat (first | (with_reducible first | exact HB.out | apply below_alloc | apply pw_below_drewN | apply below_drew1) | exact HB.out)⟩
    · replace c5 := Bool.eq_false_iff.mpr c5
      subst c5
      have H1 : (some false) = some r := by rw [if_neg (show ¬ (false = true) by decide)] at H; exact H
      clear H
      have H := H1
      clear H1
      obtain rfl := Option.some.inj H
      go_enter Try.func55, Try.ntmps55
      go_wp2_with (first | ((with_reducible refine gate_callee (f := 64) rfl ?_); refine goesL_ (some 5) rfl rfl Try.func64 (by kernel_rfl) rfl #[.slice A0 l0.length c0] rfl (by (try simp only [List.map_toArray, List.map_cons, List.map_nil]); first | done | rfl | (simp only [List.length_drop, List.length_take]; rfl)) ?_; (with_reducible refine (impl_pairsIn.calls k _ _ l0 t292 _ ?side1 ?side2 A2.out).mono ?_); (case side1 => repeat (first | exact HR0.out | (with_reducible refine Kd.C_alloc ?_ _) | (with_reducible refine Kd.C_drewN ?_ _) | (with_reducible refine Kd.C_drew ?_))); (case side2 => exact HC0.out); rintro e w14 ⟨v293, rfl, ho0, hb⟩; refine ⟨_, rfl, ?_⟩; have n0_ := Aside0.mk (Kd.R_lower ho0 (below_size (by repeat (first | (with_reducible first | exact HB.out | apply below_alloc | apply pw_below_drewN | apply below_drew1) | exact HB.out)))); have n1_ := Aside0.mk (below_step (by repeat (first | (with_reducible first | exact HB.out | apply below_alloc | apply pw_below_drewN | apply below_drew1) | exact HB.out)) hb); clear HB; have HO294 := n0_; have HB := n1_; clear n0_ n1_; (try clear hb); (try clear hb2); (try clear hk); (try clear hi); (try clear ho0); obtain ⟨Ao15, co15, eo15⟩ := Kd.R_slice HO294.out; subst eo15) | (go_at_call 57; (with_reducible refine (impl_arePairs.calls k _ _ t292 false _ ?side1 ?side2 A4.out).mono ?_); (case side1 => repeat (first | exact (Kd.R_reads' HO294.out).2.2 | (with_reducible refine Kd.C_alloc ?_ _) | (with_reducible refine Kd.C_drewN ?_ _) | (with_reducible refine Kd.C_drew ?_))); (case side2 => exact (Kd.R_reads' HO294.out).2.1); rintro e w16 ⟨rfl, hb⟩; have n0_ := Aside0.mk (Kd.R_below (by (with_reducible repeat (first | apply Kd.R_alloc | apply Kd.R_drewN | apply Kd.R_drew)); exact HO294.out) hb); have n1_ := Aside0.mk (below_step (by repeat (first | (with_reducible first | exact HB.out | apply below_alloc | apply pw_below_drewN | apply below_drew1) | exact HB.out)) hb); clear HO294; clear HB; have HO294 := n0_; have HB := n1_; clear n0_ n1_; (try clear hb); (try clear hb2); (try clear hk); (try clear hi)))
      go_ret
      exact ⟨by first | rfl | (simp [errW_none, errW_some] <;> rfl) | (simp [*, errW_none, errW_some] <;> rfl), by repeat (first | (with_reducible first | exact HB.out | apply below_alloc | apply pw_below_drewN | apply below_drew1) | exact HB.out)⟩
  · rw [if_neg c3] at H
    have c3b0 : decide ((l0.length : Int) ≤ 40) = false := decide_eq_false c3
    have c3b1 : decide (l0.length ≤ 40) = false := decide_eq_false (by omega)
    clear c3
    obtain rfl := Option.some.inj H
    go_enter Try.func55, Try.ntmps55
    go_wp2_with (first | ((with_reducible refine gate_callee (f := 64) rfl ?_); refine goesL_ (some 5) rfl rfl Try.func64 (by kernel_rfl) rfl #[.slice A0 l0.length c0] rfl (by (try simp only [List.map_toArray, List.map_cons, List.map_nil]); first | done | rfl | (simp only [List.length_drop, List.length_take]; rfl)) ?_; (with_reducible refine (impl_pairsIn.calls k _ _ l0 t292 _ ?side1 ?side2 A2.out).mono ?_); (case side1 => repeat (first | exact HR0.out | (with_reducible refine Kd.C_alloc ?_ _) | (with_reducible refine Kd.C_drewN ?_ _) | (with_reducible refine Kd.C_drew ?_))); (case side2 => exact HC0.out); rintro e w17 ⟨v293, rfl, ho0, hb⟩; refine ⟨_, rfl, ?_⟩; have n0_ := Aside0.mk (Kd.R_lower ho0 (below_size (by repeat (first | (with_reducible first | exact HB.out | apply below_alloc | apply pw_below_drewN | apply below_drew1) | exact HB.out)))); have n1_ := Aside0.mk (below_step (by repeat (first | (with_reducible first | exact HB.out | apply below_alloc | apply pw_below_drewN | apply below_drew1) | exact HB.out)) hb); clear HB; have HO294 := n0_; have HB := n1_; clear n0_ n1_; (try clear hb); (try clear hb2); (try clear hk); (try clear hi); (try clear ho0)))
    go_ret
    exact ⟨by first | rfl | (simp [errW_none, errW_some] <;> rfl) | (simp [*, errW_none, errW_some] <;> rfl), by repeat (first | (with_reducible first | exact HB.out | apply below_alloc | apply pw_below_drewN | apply below_drew1) | exact HB.out)⟩

/-! ### strings_HasPrefix: function 66 -/
def strings_HasPrefix.f (a0 a1 : ByteArray) : Option Bool := some (Lib.hasPrefix a0.data.toList a1.data.toList)
theorem strings_HasPrefix.calls (a0 a1 : ByteArray) (r : Bool) (w : World) (h : strings_HasPrefix.f a0 a1 = some r) :
    Calls Try.prog 66 #[.string a0, .string a1] w fun e w' => e = .returned (.bool r) ∧ Drawn0 w w' := by
  obtain rfl := Option.some.inj h
  exact (Try.strings_HasPrefix a0 a1 w).mono fun e w' ⟨he, hw⟩ => ⟨he, hw ▸ Drawn0.refl _⟩

/-! ### slices_Sort_int_int: function 67 -/
theorem own_sortedInts {base e g cap q : Nat} {ok : Nat → Prop} {W : World} {xs ts : List Int} {os : Array Obj} (h : (Kd.int .i64).R e W base ok (.slice (some ⟨g, 0, none⟩) xs.length cap) xs) (hl : ts.length = xs.length) :
    (Kd.int .i64).R e (Sort.grow (Sort.putRow (Value.int .i64) (Sort.ahead W q) g 0 ts.toArray) os) base ok (.slice (some ⟨g, 0, none⟩) xs.length cap) ts ∧ W.grownBy (Sort.grow (Sort.putRow (Value.int .i64) (Sort.ahead W q) g 0 ts.toArray) os) (some g) := by
  have hown := Kd.own_of_R h
  refine ⟨?_, grownBy_sortedI _⟩
  rcases hown.2 with ⟨hv, _⟩ | ⟨g', cap', cur, hv, hb, hh, hnc, hcm, hcs, ht⟩
  · cases hv
  injection hv with ha _ hc
  injection ha with ha
  injection ha with hg
  subst hg; subst hc
  have hr := ownsRow_sortedI (n := q) (os := os) hl hb hh hnc hcm hcs
  refine Kd.R_of_own ?_ h.1
  rw [hl]
  exact hr
theorem holds_of_R {base e g cap : Nat} {ok : Nat → Prop} {W : World} {xs : List Int} (h : (Kd.int .i64).R e W base ok (.slice (some ⟨g, 0, none⟩) xs.length cap) xs) : Sort.Holds (Value.int .i64) W g 0 xs.toArray := by
  have hown := Kd.own_of_R h
  intro j hj
  have hj' : j < xs.length := by simpa using hj
  rcases hown.2 with ⟨hv, _⟩ | ⟨g', cap', cur, hv, hb, hh, hnc, hcm, hcs, ht⟩
  · cases hv
  injection hv with ha _ hc
  injection ha with ha
  injection ha with hg
  subst hg
  have h1 : cur[j]? = some (.int .i64 xs[j]) := by
    have h2 := congrArg (fun l => l[j]?) ht
    simp only [Nat.mul_one] at h2
    rw [List.getElem?_take_of_lt hj', Array.getElem?_toList] at h2
    rw [h2]
    simp [encs, hj']
  refine ⟨?_, ?_⟩
  · rw [Nat.zero_add]
    exact (blk_cell hh j).trans (by rw [h1]; simp [hj'])
  · rw [Nat.zero_add]
    exact blk_frozen hh j
def slices_Sort_int_int.f (l0 : List Int) : Option (List Int) := if l0.length < 1000000000000 then some (l0.mergeSort fun x y => decide (x ≤ y)) else none
theorem slices_Sort_int_int.calls (P0_ : Nat → Prop) (u9000_ : Value) (l0 : List Int) (r : List Int) (w0 w : World) (hB : Below w0.heap.size w0 w) (ho0 : Kd.R (Kd.int .i64) 3 w w0.heap.size P0_ u9000_ l0) (h : slices_Sort_int_int.f l0 = some r) :
    Calls Try.prog 67 #[u9000_] w fun e w' => e = .returned (.tuple #[]) ∧ Kd.R (Kd.int .i64) 3 w' w0.heap.size (fun k_ => (P0_ k_ ∨ w.heap.size ≤ k_)) u9000_ r ∧ Below w0.heap.size w0 w' ∧ Kept w w' (fun k_ => P0_ k_) := by
  unfold slices_Sort_int_int.f at h
  by_cases hl : l0.length < 1000000000000
  rotate_left
  · rw [if_neg hl] at h; cases h
  rw [if_pos hl] at h
  obtain rfl := Option.some.inj h
  have hown := Kd.own_of_R ho0
  rcases hown.2 with ⟨hv, hz⟩ | ⟨g, cap, cur, hv, hb, hh, hnc, hcm, hcs, ht⟩
  · obtain rfl : l0 = [] := List.eq_nil_of_length_eq_zero (by omega)
    subst hv
    refine (Try.slices_Sort_int_none none 0 w).mono ?_
    rintro e w' ⟨rfl, rfl⟩
    exact ⟨rfl, by rw [List.mergeSort_nil]; exact Kd.R_nil _ _ _ _ _, hB, Kept.refl _ _⟩
  · subst hv
    refine (Try.slices_Sort_int g 0 cap l0 w (holds_of_R ho0) (blk_lt hh) (by omega)).mono ?_
    rintro e w' ⟨rfl, n, os, rfl⟩
    obtain ⟨h1, h2⟩ := own_sortedInts (q := n) (os := os) (ts := l0.mergeSort fun x y => decide (x ≤ y)) ho0 (List.length_mergeSort _)
    refine ⟨rfl, Kd.R_mono h1 (fun k hk => .inl hk), hB.grown h2 hB.size (fun k hk => by injection hk with hk; subst hk; exact hb), Kept.of_grown h2 (Kept.refl _ _) (fun k hk => .inl (ho0.1 k (by rw [← hk]; simp [Value.ownBlock])))⟩

/-! ### slices_Compact_int_int: function 68 -/
def slices_Compact_int_int.f (l0 : List Int) : Option (List Int) := if l0.length < 1000000000000 then some (Lib.compact l0) else none
theorem compact_le : ∀ (l : List Int), (Lib.compact l).length ≤ l.length := by
  intro l
  exact Lib.compact_length_le l
theorem slices_Compact_int_int.calls (P0_ : Nat → Prop) (u9000_ : Value) (l0 : List Int) (r : List Int) (w0 w : World) (hB : Below w0.heap.size w0 w) (ho0 : Kd.R (Kd.int .i64) 3 w w0.heap.size P0_ u9000_ l0) (h : slices_Compact_int_int.f l0 = some r) :
    Calls Try.prog 68 #[u9000_] w fun e w' => ∃ v0_ : Value, e = .returned (v0_) ∧ Kd.R (Kd.int .i64) 3 w' w0.heap.size (fun k_ => (P0_ k_ ∨ w.heap.size ≤ k_)) v0_ r ∧ Below w0.heap.size w0 w' ∧ Kept w w' (fun k_ => P0_ k_) := by
  unfold slices_Compact_int_int.f at h
  by_cases hl : l0.length < 1000000000000
  rotate_left
  · rw [if_neg hl] at h; cases h
  rw [if_pos hl] at h
  obtain rfl := Option.some.inj h
  have hown := Kd.own_of_R ho0
  rcases hown.2 with ⟨hv, hz⟩ | ⟨g, cap, cur, hv, hb, hh, hnc, hcm, hcs, ht⟩
  · obtain rfl : l0 = [] := List.eq_nil_of_length_eq_zero (by omega)
    subst hv
    refine (Try.slices_Compact_int_empty none 0 w).mono ?_
    rintro e w' ⟨rfl, rfl⟩
    exact ⟨_, rfl, Kd.R_nil _ _ _ _ _, hB, Kept.refl _ _⟩
  · subst hv
    refine (Try.slices_Compact_int g 0 cap l0 w (holds_of_R ho0) (by omega) hnc).mono ?_
    rintro e w' ⟨rfl, n, rfl⟩
    have hle := compact_le l0
    obtain ⟨h1, h2⟩ := own_sortedInts (q := n) (os := #[]) (ts := Lib.compact l0 ++ List.replicate (l0.length - (Lib.compact l0).length) 0) ho0 (by simp; omega)
    have h0 : ∀ W : World, Sort.grow W #[] = W := fun W => by simp [Sort.grow]
    rw [h0] at h1 h2
    have h3 := Kd.R_take h1 (m := (Lib.compact l0).length) (by simp)
    rw [List.take_left'] at h3
    · refine ⟨_, rfl, Kd.R_mono h3 (fun k hk => .inl hk), hB.grown h2 hB.size (fun k hk => by injection hk with hk; subst hk; exact hb), Kept.of_grown h2 (Kept.refl _ _) (fun k hk => .inl (ho0.1 k (by rw [← hk]; simp [Value.ownBlock])))⟩
    · rfl

/-! ### impl_FindBeginning: function 37 -/
mutual
def impl_FindBeginning.j0 : Nat → List (S74) → ByteArray → Bool → Option (List Int × Bool)
  | 0, _, _, _ => none
  | k + 1, x0, x1, x16 => if x16 = true then (some (([] : List Int), false)) else (impl_FindBeginning.l0 k x1 ([] : List Int) x0 (x0.length : Int) 0)
def impl_FindBeginning.l0 : Nat → ByteArray → List Int → List (S74) → Int → Int → Option (List Int × Bool)
  | 0, _, _, _, _, _ => none
  | k + 1, x1, x6, x17, x18, x19 => if x19 < x18 then (if 0 ≤ x19 then (if x19 < (x17.length : Int) then (if ((rd_T74 x17 x19).f0).toList = ([] : List UInt8) then (impl_FindBeginning.l0 k x1 x6 x17 x18 (wrap64 (x19 + 1))) else ((strings_HasPrefix.f ((rd_T74 x17 x19).f0) x1).bind fun t303 => (if t303 = true then (if x6.length + ((rd_T74 x17 x19).f1).length < 17592186044416 then (impl_FindBeginning.l0 k x1 (x6 ++ ((rd_T74 x17 x19).f1)) x17 x18 (wrap64 (x19 + 1))) else (none)) else (impl_FindBeginning.l0 k x1 x6 x17 x18 (wrap64 (x19 + 1)))))) else (none)) else (none)) else ((slices_Sort_int_int.f x6).bind fun t307 => ((slices_Compact_int_int.f t307).bind fun t308 => (some (t308, true))))
end
def impl_FindBeginning.f (k : Nat) (l0 : List (S74)) (a1 : ByteArray) : Option (List Int × Bool) := (impl_isIndex.f k l0).bind fun t300 => (if t300 = true then (impl_FindBeginning.j0 k l0 a1 (decide ((a1.size : Int) > 4))) else (impl_FindBeginning.j0 k l0 a1 true))
theorem impl_FindBeginning.mono_l : ∀ k, (∀ y0 y1 y2, LeO (impl_FindBeginning.j0 k y0 y1 y2) (impl_FindBeginning.j0 (k + 1) y0 y1 y2)) ∧ (∀ y0 y1 y2 y3 y4, LeO (impl_FindBeginning.l0 k y0 y1 y2 y3 y4) (impl_FindBeginning.l0 (k + 1) y0 y1 y2 y3 y4))
  | 0 => ⟨fun _ _ _ r h => by simp [impl_FindBeginning.j0] at h, fun _ _ _ _ _ r h => by simp [impl_FindBeginning.l0] at h⟩
  | k + 1 => by
    obtain ⟨ih0, ih1⟩ := impl_FindBeginning.mono_l k
    refine ⟨?_, ?_⟩
    · intro y0 y1 y2
      unfold impl_FindBeginning.j0
      repeat' first
      | (with_reducible exact ih0 _ _ _)
      | (with_reducible exact ih1 _ _ _ _ _)
      | (with_reducible exact impl_isIndex.mono _ _)
      | (with_reducible exact LeO.refl _)
      | (with_reducible exact LeO.none _)
      | (with_reducible refine LeO.ite ?_ ?_)
      | (with_reducible refine LeO.bind ?_ (fun _ => ?_))
      | exact ih0 _ _ _
      | exact ih1 _ _ _ _ _
      | exact impl_isIndex.mono _ _
      | exact LeO.none _
      | refine LeO.ite ?_ ?_
      | refine LeO.bind ?_ (fun _ => ?_)
    · intro y0 y1 y2 y3 y4
      unfold impl_FindBeginning.l0
      repeat' first
      | (with_reducible exact ih0 _ _ _)
      | (with_reducible exact ih1 _ _ _ _ _)
      | (with_reducible exact impl_isIndex.mono _ _)
      | (with_reducible exact LeO.refl _)
      | (with_reducible exact LeO.none _)
      | (with_reducible refine LeO.ite ?_ ?_)
      | (with_reducible refine LeO.bind ?_ (fun _ => ?_))
      | exact ih0 _ _ _
      | exact ih1 _ _ _ _ _
      | exact impl_isIndex.mono _ _
      | exact LeO.none _
      | refine LeO.ite ?_ ?_
      | refine LeO.bind ?_ (fun _ => ?_)
theorem impl_FindBeginning.mono : ∀ a0 a1 k, LeO (impl_FindBeginning.f k a0 a1) (impl_FindBeginning.f (k + 1) a0 a1) := by
  intro a0 a1 k
  obtain ⟨ih0, ih1⟩ := impl_FindBeginning.mono_l k
  unfold impl_FindBeginning.f
  repeat' first
      | (with_reducible exact ih0 _ _ _)
      | (with_reducible exact ih1 _ _ _ _ _)
      | (with_reducible exact impl_isIndex.mono _ _)
      | (with_reducible exact LeO.refl _)
      | (with_reducible exact LeO.none _)
      | (with_reducible refine LeO.ite ?_ ?_)
      | (with_reducible refine LeO.bind ?_ (fun _ => ?_))
      | exact ih0 _ _ _
      | exact ih1 _ _ _ _ _
      | exact impl_isIndex.mono _ _
      | exact LeO.none _
      | refine LeO.ite ?_ ?_
      | refine LeO.bind ?_ (fun _ => ?_)
set_option maxHeartbeats 8000000 in
set_option maxRecDepth 100000 in
theorem impl_FindBeginning.calls (k : Nat) (A0 : Option Addr) (c0 : Nat) (l0 : List (S74)) (a1 : ByteArray) (r1 : List Int) (r2 : Bool) (w : World) (hr0 : Kd.C k74 w A0 l0.length l0) (hc0 : l0.length ≤ c0) (h : impl_FindBeginning.f k l0 a1 = some (r1, r2)) :
    Calls Try.prog 37 #[.slice A0 l0.length c0, .string a1] w fun e w' => ∃ v0_ : Value, e = .returned (.tuple #[v0_, .bool r2]) ∧ Kd.R (Kd.int .i64) 3 w' w.heap.size (fun _ => True) v0_ r1 ∧ Below w.heap.size w w' := by
  have hu74 := Try.underlying74
  have HR0 := Aside0.mk hr0
  have HC0 := Aside0.mk hc0
  clear hr0 hc0
  have HB := Aside0.mk (Below.refl w.heap.size w)
  have H : ((impl_isIndex.f k l0).bind fun t300 => (if t300 = true then (impl_FindBeginning.j0 k l0 a1 (decide ((a1.size : Int) > 4))) else (impl_FindBeginning.j0 k l0 a1 true))) = some (r1, r2) := h
  clear h
  have HC3 := Aside0.mk H
  clear H
  go_enter Try.func37, Try.ntmps37
  go_upto_region 1 with (fail)
  go_cut [16] (fun v16 wc => ∃ (kq : Nat) (x16_2 : Bool), v16 = .bool x16_2 ∧ Aside0 (impl_FindBeginning.j0 kq l0 a1 x16_2 = some (r1, r2)) ∧ Aside0 (kq ≤ k) ∧ Aside0 (Below w.heap.size w wc))
  case first =>
    have H := HC3.out
    clear HC3
    replace H := Option.bind_eq_some_iff.mp H
    obtain ⟨t300, A40, H⟩ := H
    replace H : (if t300 = true then (impl_FindBeginning.j0 k l0 a1 (decide ((a1.size : Int) > 4))) else (impl_FindBeginning.j0 k l0 a1 true)) = some (r1, r2) := H
    have A4 := Aside0.mk A40
    clear A40
    by_cases c5 : t300 = true
    · subst c5
      have H1 : (impl_FindBeginning.j0 k l0 a1 (decide ((a1.size : Int) > 4))) = some (r1, r2) := by rw [if_pos rfl] at H; exact H
      clear H
      have H := H1
      clear H1
      have H' := Aside0.mk H
      clear H
      go_wp2_with (first | ((with_reducible refine gate_callee (f := 55) rfl ?_); refine goesL_ (some 10) rfl rfl Try.func55 (by kernel_rfl) rfl #[.slice A0 l0.length c0] rfl (by (try simp only [List.map_toArray, List.map_cons, List.map_nil]); first | done | rfl | (simp only [List.length_drop, List.length_take]; rfl)) ?_; (with_reducible refine (impl_isIndex.calls k _ _ l0 true _ ?side1 ?side2 A4.out).mono ?_); (case side1 => repeat (first | exact (Kd.C_below HR0.out HB.out) | (with_reducible refine Kd.C_alloc ?_ _) | (with_reducible refine Kd.C_drewN ?_ _) | (with_reducible refine Kd.C_drew ?_))); (case side2 => exact HC0.out); rintro e w6 ⟨rfl, hb⟩; refine ⟨_, rfl, ?_⟩; have n0_ := Aside0.mk (below_step (by repeat (first | (with_reducible first | exact HB.out | apply below_alloc | apply pw_below_drewN | apply below_drew1) | exact HB.out)) hb); clear HB; have HB := n0_; clear n0_; (try clear hb); (try clear hb2); (try clear hk); (try clear hi)))
      go_meet
      case rel => exact ⟨_, (decide ((a1.size : Int) > 4)), (by first | rfl | (simp; done) | (simp [*]; done) | (simp; apply Bool.eq_iff_iff.mpr; simp only [bne_iff_ne, ne_eq, beq_iff_eq]; omega)), H', ⟨by first | omega | exact Nat.le_refl _⟩, ⟨by repeat (first | (with_reducible first | exact HB.out | apply below_alloc | apply pw_below_drewN | apply below_drew1) | exact HB.out)⟩⟩
    · replace c5 := Bool.eq_false_iff.mpr c5
      subst c5
      have H1 : (impl_FindBeginning.j0 k l0 a1 true) = some (r1, r2) := by rw [if_neg (show ¬ (false = true) by decide)] at H; exact H
      clear H
      have H := H1
      clear H1
      have H' := Aside0.mk H
      clear H
      go_wp2_with (first | ((with_reducible refine gate_callee (f := 55) rfl ?_); refine goesL_ (some 10) rfl rfl Try.func55 (by kernel_rfl) rfl #[.slice A0 l0.length c0] rfl (by (try simp only [List.map_toArray, List.map_cons, List.map_nil]); first | done | rfl | (simp only [List.length_drop, List.length_take]; rfl)) ?_; (with_reducible refine (impl_isIndex.calls k _ _ l0 false _ ?side1 ?side2 A4.out).mono ?_); (case side1 => repeat (first | exact (Kd.C_below HR0.out HB.out) | (with_reducible refine Kd.C_alloc ?_ _) | (with_reducible refine Kd.C_drewN ?_ _) | (with_reducible refine Kd.C_drew ?_))); (case side2 => exact HC0.out); rintro e w7 ⟨rfl, hb⟩; refine ⟨_, rfl, ?_⟩; have n0_ := Aside0.mk (below_step (by repeat (first | (with_reducible first | exact HB.out | apply below_alloc | apply pw_below_drewN | apply below_drew1) | exact HB.out)) hb); clear HB; have HB := n0_; clear n0_; (try clear hb); (try clear hb2); (try clear hk); (try clear hi)))
      go_meet
      case rel => exact ⟨_, (true), (by first | rfl | (simp; done) | (simp [*]; done) | (simp; apply Bool.eq_iff_iff.mpr; simp only [bne_iff_ne, ne_eq, beq_iff_eq]; omega)), H', ⟨by first | omega | exact Nat.le_refl _⟩, ⟨by repeat (first | (with_reducible first | exact HB.out | apply below_alloc | apply pw_below_drewN | apply below_drew1) | exact HB.out)⟩⟩
  case rest =>
    clear HC3
    try clear p2
    try clear c3
    try clear c5
    obtain ⟨kq, x16_2, rfl, HA, HJ2, HB⟩ := hcut
    cases kq with
    | zero => exact absurd HA.out (by simp [impl_FindBeginning.j0])
    | succ kj2 =>
      have H := HA.out
      clear HA
      simp only [impl_FindBeginning.j0] at H
      by_cases c8 : x16_2 = true
      · subst c8
        have H1 : (some (([] : List Int), false)) = some (r1, r2) := by rw [if_pos rfl] at H; exact H
        clear H
        have H := H1
        clear H1
        simp only [Option.some.injEq, Prod.mk.injEq] at H
        obtain ⟨rfl, rfl⟩ := H
        go_wp2
        go_ret2
        exact ⟨_, by first | rfl | (simp [errW_none, errW_some] <;> rfl) | (simp [*, errW_none, errW_some] <;> rfl), by first | exact Kd.R_nil _ _ _ _ _ | exact Kd.N_nil _ _ _ _ _ | exact Kd.V_nil _ _ _ _ _ | exact Kd.Q_nil _ _ _ _ _ | exact Kd.S_nil _ _ _ _ _, by repeat (first | (with_reducible first | exact HB.out | apply below_alloc | apply pw_below_drewN | apply below_drew1) | exact HB.out)⟩
      · replace c8 := Bool.eq_false_iff.mpr c8
        subst c8
        have H1 : (impl_FindBeginning.l0 kj2 a1 ([] : List Int) l0 (l0.length : Int) 0) = some (r1, r2) := by rw [if_neg (show ¬ (false = true) by decide)] at H; exact H
        clear H
        have H := H1
        clear H1
        have H' := Aside0.mk H
        clear H
        go_wp2
        go_loopg [6, 19] kj2 (fun kq v6 v19 w' => ∃ (x6_2 : List Int) (x19_2 : Int), v19 = .int .i64 x19_2 ∧ Aside0 (impl_FindBeginning.l0 kq a1 x6_2 l0 (l0.length : Int) x19_2 = some (r1, r2)) ∧ Aside0 (kq ≤ kj2) ∧ Aside0 (Kd.R (Kd.int .i64) 3 w' w.heap.size (fun _ => True) v6 x6_2) ∧ Aside0 (Below w.heap.size w w'))
        case atStart => exact ⟨(([] : List Int)), (0), (by first | rfl | (simp; done) | (simp [*]; done) | (simp; apply Bool.eq_iff_iff.mpr; simp only [bne_iff_ne, ne_eq, beq_iff_eq]; omega)), H', ⟨Nat.le_refl _⟩, ⟨by first | exact Kd.R_nil _ _ _ _ _ | exact Kd.N_nil _ _ _ _ _ | exact Kd.V_nil _ _ _ _ _ | exact Kd.Q_nil _ _ _ _ _ | exact Kd.S_nil _ _ _ _ _⟩, ⟨by repeat (first | (with_reducible first | exact HB.out | apply below_alloc | apply pw_below_drewN | apply below_drew1) | exact HB.out)⟩⟩
        case round =>
          clear H'
          try clear p2
          try clear c3
          try clear c5
          try clear c8
          try clear p2
          obtain ⟨x6_2, x19_2, rfl, HA, HK2, HO_6, HB⟩ := hrel
          cases gk with
          | zero => exact absurd HA.out (by simp [impl_FindBeginning.l0])
          | succ k2 =>
            have H := HA.out
            clear HA
            simp only [impl_FindBeginning.l0] at H
            by_cases c9 : x19_2 < (l0.length : Int)
            · rw [if_pos c9] at H
              have c9b0 : decide (x19_2 < (l0.length : Int)) = true := decide_eq_true c9
              clear c9
              by_cases c10 : 0 ≤ x19_2
              · rw [if_pos c10] at H
                have c10b0 : decide (0 ≤ x19_2) = true := decide_eq_true c10
                clear c10
                by_cases c11 : x19_2 < (l0.length : Int)
                · rw [if_pos c11] at H
                  have c11b0 : decide (x19_2 < (l0.length : Int)) = true := decide_eq_true c11
                  clear c11
                  by_cases c12 : ((rd_T74 l0 x19_2).f0).toList = ([] : List UInt8)
                  · rw [if_pos c12] at H
                    have c12b0 : (((rd_T74 l0 x19_2).f0).toList == ([] : List UInt8)) = true := beq_iff_eq.mpr c12
                    have c12b1 : (((rd_T74 l0 x19_2).f0).toList != ([] : List UInt8)) = false := bne_eq_false_iff_eq.mpr c12
                    clear c12
                    have H' := Aside0.mk H
                    clear H
                    have p301 : 0 ≤ (x19_2 : Int) := of_decide_eq_true (by first | (with_reducible assumption) | assumption)
                    have q301 : x19_2 < (l0.length : Int) := of_decide_eq_true (by first | (with_reducible assumption) | assumption)
                    obtain ⟨ad301, A301_1, c301_1, e301, hx301_0, hx301_1, hx301_2, hx301_3, hx301_4, hl301_1, hi301_1⟩ := at_T74 HR0.out x19_2 p301 q301
                    cases e301
                    replace hx301_0 := (HB.out.cell (World.block_lt_of_cell? w _ hx301_0)).trans hx301_0
                    replace hx301_1 := (HB.out.cell (World.block_lt_of_cell? w _ hx301_1)).trans hx301_1
                    replace hx301_2 := (HB.out.cell (World.block_lt_of_cell? w _ hx301_2)).trans hx301_2
                    replace hx301_3 := (HB.out.cell (World.block_lt_of_cell? w _ hx301_3)).trans hx301_3
                    replace hx301_4 := (HB.out.cell (World.block_lt_of_cell? w _ hx301_4)).trans hx301_4
                    have HR301_1 := Aside0.mk hi301_1
                    have HC301_1 := Aside0.mk hl301_1
                    clear hi301_1 hl301_1
                    replace p301 := eq_true p301
                    replace q301 := eq_true q301
                    go_wp2_with (first | ((with_reducible refine gate_dst (N := 8) rfl ?_); (try (refine gate_guard (by rfl) ?_; dsimp only)); refine box_event ?hg (N := 8) ?hd (cs := #[.string (⟨#[]⟩ : ByteArray), .slice none 0 0, .int .i64 0, .int .i64 0, .int .i64 0]) (t := 74) ?hr ?_; (case hd => rfl); (case hg => rfl); (case hr => first | (go_simp; done) | (go_simp; rfl)); intro gb302 hg w13 hbox hb; have n0_ := Aside0.mk (Kd.R_below (by (with_reducible repeat (first | apply Kd.R_alloc | apply Kd.R_drewN | apply Kd.R_drew)); exact HO_6.out) hb); have n1_ := Aside0.mk (below_step (by repeat (first | (with_reducible first | exact HB.out | apply below_alloc | apply pw_below_drewN | apply below_drew1) | exact HB.out)) hb); have n2_ := Aside0.mk (hbox); have n3_ := Aside0.mk ((by rw [hg]; exact (below_size (by repeat (first | (with_reducible first | exact HB.out | apply below_alloc | apply pw_below_drewN | apply below_drew1) | exact HB.out))) : w.heap.size ≤ gb302)); have n4_ := Aside0.mk ((by rw [hg]; exact (below_size (by repeat (first | (with_reducible first | exact HB.out | apply below_alloc | apply pw_below_drewN | apply below_drew1) | exact HB.out))) : w.heap.size ≤ gb302)); clear HO_6; clear HB; have HO_6 := n0_; have HB := n1_; have BK302 := n2_; have GW302 := n3_; have GE302 := n4_; clear n0_ n1_ n2_ n3_ n4_; clear hb hbox hg; have hcz14_0 : w13.cell? ⟨gb302, 0, none⟩ = some (.string (⟨#[]⟩ : ByteArray)) := (blk_cell BK302.out 0).trans rfl; have hcz14_1 : w13.cell? ⟨gb302, 1, none⟩ = some (.slice none 0 0) := (blk_cell BK302.out 1).trans rfl; have hcz14_2 : w13.cell? ⟨gb302, 2, none⟩ = some (.int .i64 0) := (blk_cell BK302.out 2).trans rfl; have hcz14_3 : w13.cell? ⟨gb302, 3, none⟩ = some (.int .i64 0) := (blk_cell BK302.out 3).trans rfl; have hcz14_4 : w13.cell? ⟨gb302, 4, none⟩ = some (.int .i64 0) := (blk_cell BK302.out 4).trans rfl; have hfz14_0 := blk_frozen BK302.out 0; have hfz14_1 := blk_frozen BK302.out 1; have hfz14_2 := blk_frozen BK302.out 2; have hfz14_3 := blk_frozen BK302.out 3; have hfz14_4 := blk_frozen BK302.out 4))
                    go_roundg k2
                    case measure => have := HJ2.out; have := HK2.out; omega
                    case rel => exact ⟨(x6_2), (wrap64 (x19_2 + 1)), (by first | rfl | (simp; done) | (simp [*]; done) | (simp; apply Bool.eq_iff_iff.mpr; simp only [bne_iff_ne, ne_eq, beq_iff_eq]; omega)), H', ⟨by have := HJ2.out; have := HK2.out; omega⟩, ⟨by (with_reducible repeat (first | apply Kd.R_alloc | apply Kd.R_drewN | apply Kd.R_drew)); exact Kd.R_mono (Kd.R_far (p := ⟨gb302, 4, none⟩) (Kd.R_far (p := ⟨gb302, 3, none⟩) (Kd.R_far (p := ⟨gb302, 2, none⟩) (Kd.R_far (p := ⟨gb302, 1, none⟩) (Kd.R_far (p := ⟨gb302, 0, none⟩) (Kd.R_types HO_6.out BK302.out (by decide)) (fun _ hk => hk.2) (.string ((rd_T74 l0 x19_2).f0))) (fun _ hk => hk.2) (.slice A301_1 ((rd_T74 l0 x19_2).f1).length c301_1)) (fun _ hk => hk.2) (.int .i64 ((rd_T74 l0 x19_2).f2))) (fun _ hk => hk.2) (.int .i64 ((rd_T74 l0 x19_2).f3))) (fun _ hk => hk.2) (.int .i64 ((rd_T74 l0 x19_2).f4))) (fun _ hk => trivial)⟩, ⟨by repeat (first | (with_reducible first | exact HB.out | apply below_alloc | apply pw_below_drewN | apply below_drew1 | refine below_set ?_ GE302.out) | exact HB.out)⟩⟩
                  · rw [if_neg c12] at H
                    have c12b0 : (((rd_T74 l0 x19_2).f0).toList == ([] : List UInt8)) = false := beq_eq_false_iff_ne.mpr c12
                    have c12b1 : (((rd_T74 l0 x19_2).f0).toList != ([] : List UInt8)) = true := bne_iff_ne.mpr c12
                    replace H := Option.bind_eq_some_iff.mp H
                    obtain ⟨t303, A150, H⟩ := H
                    replace H : (if t303 = true then (if x6_2.length + ((rd_T74 l0 x19_2).f1).length < 17592186044416 then (impl_FindBeginning.l0 k2 a1 (x6_2 ++ ((rd_T74 l0 x19_2).f1)) l0 (l0.length : Int) (wrap64 (x19_2 + 1))) else (none)) else (impl_FindBeginning.l0 k2 a1 x6_2 l0 (l0.length : Int) (wrap64 (x19_2 + 1)))) = some (r1, r2) := H
                    have A15 := Aside0.mk A150
                    clear A150
                    by_cases c16 : t303 = true
                    · subst c16
                      have H1 : (if x6_2.length + ((rd_T74 l0 x19_2).f1).length < 17592186044416 then (impl_FindBeginning.l0 k2 a1 (x6_2 ++ ((rd_T74 l0 x19_2).f1)) l0 (l0.length : Int) (wrap64 (x19_2 + 1))) else (none)) = some (r1, r2) := by rw [if_pos rfl] at H; exact H
                      clear H
                      have H := H1
                      clear H1
                      by_cases c17 : x6_2.length + ((rd_T74 l0 x19_2).f1).length < 17592186044416
                      · rw [if_pos c17] at H
                        have LMc17 := Aside0.mk c17
                        clear c17
                        obtain ⟨y304, hy304⟩ : ∃ y_ : List Int, y_ = (x6_2 ++ ((rd_T74 l0 x19_2).f1)) := ⟨_, rfl⟩
                        replace H : (impl_FindBeginning.l0 k2 a1 y304 l0 (l0.length : Int) (wrap64 (x19_2 + 1))) = some (r1, r2) := by first | (rw [hy304]; with_reducible exact H) | (have H2_ := (Option.bind_some _ _).symm.trans H; rw [hy304]; with_reducible exact H2_) | (have H2_ := (Option.bind_some _ _).symm.trans H; with_reducible exact H2_) | with_reducible exact H | (rw [hy304]; exact H) | exact H
                        have Ny304 := Aside0.mk hy304
                        clear hy304
                        have H' := Aside0.mk H
                        clear H
                        have p301 : 0 ≤ (x19_2 : Int) := of_decide_eq_true (by first | (with_reducible assumption) | assumption)
                        have q301 : x19_2 < (l0.length : Int) := of_decide_eq_true (by first | (with_reducible assumption) | assumption)
                        obtain ⟨ad301, A301_1, c301_1, e301, hx301_0, hx301_1, hx301_2, hx301_3, hx301_4, hl301_1, hi301_1⟩ := at_T74 HR0.out x19_2 p301 q301
                        cases e301
                        replace hx301_0 := (HB.out.cell (World.block_lt_of_cell? w _ hx301_0)).trans hx301_0
                        replace hx301_1 := (HB.out.cell (World.block_lt_of_cell? w _ hx301_1)).trans hx301_1
                        replace hx301_2 := (HB.out.cell (World.block_lt_of_cell? w _ hx301_2)).trans hx301_2
                        replace hx301_3 := (HB.out.cell (World.block_lt_of_cell? w _ hx301_3)).trans hx301_3
                        replace hx301_4 := (HB.out.cell (World.block_lt_of_cell? w _ hx301_4)).trans hx301_4
                        have HR301_1 := Aside0.mk hi301_1
                        have HC301_1 := Aside0.mk hl301_1
                        clear hi301_1 hl301_1
                        replace p301 := eq_true p301
                        replace q301 := eq_true q301
                        go_wp2_with (first | ((with_reducible refine gate_dst (N := 8) rfl ?_); (try (refine gate_guard (by rfl) ?_; dsimp only)); refine box_event ?hg (N := 8) ?hd (cs := #[.string (⟨#[]⟩ : ByteArray), .slice none 0 0, .int .i64 0, .int .i64 0, .int .i64 0]) (t := 74) ?hr ?_; (case hd => rfl); (case hg => rfl); (case hr => first | (go_simp; done) | (go_simp; rfl)); intro gb302 hg w18 hbox hb; have n0_ := Aside0.mk (Kd.R_below (by (with_reducible repeat (first | apply Kd.R_alloc | apply Kd.R_drewN | apply Kd.R_drew)); exact HO_6.out) hb); have n1_ := Aside0.mk (below_step (by repeat (first | (with_reducible first | exact HB.out | apply below_alloc | apply pw_below_drewN | apply below_drew1) | exact HB.out)) hb); have n2_ := Aside0.mk (hbox); have n3_ := Aside0.mk ((by rw [hg]; exact (below_size (by repeat (first | (with_reducible first | exact HB.out | apply below_alloc | apply pw_below_drewN | apply below_drew1) | exact HB.out))) : w.heap.size ≤ gb302)); have n4_ := Aside0.mk ((by rw [hg]; exact (below_size (by repeat (first | (with_reducible first | exact HB.out | apply below_alloc | apply pw_below_drewN | apply below_drew1) | exact HB.out))) : w.heap.size ≤ gb302)); clear HO_6; clear HB; have HO_6 := n0_; have HB := n1_; have BK302 := n2_; have GW302 := n3_; have GE302 := n4_; clear n0_ n1_ n2_ n3_ n4_; clear hb hbox hg; have hcz19_0 : w18.cell? ⟨gb302, 0, none⟩ = some (.string (⟨#[]⟩ : ByteArray)) := (blk_cell BK302.out 0).trans rfl; have hcz19_1 : w18.cell? ⟨gb302, 1, none⟩ = some (.slice none 0 0) := (blk_cell BK302.out 1).trans rfl; have hcz19_2 : w18.cell? ⟨gb302, 2, none⟩ = some (.int .i64 0) := (blk_cell BK302.out 2).trans rfl; have hcz19_3 : w18.cell? ⟨gb302, 3, none⟩ = some (.int .i64 0) := (blk_cell BK302.out 3).trans rfl; have hcz19_4 : w18.cell? ⟨gb302, 4, none⟩ = some (.int .i64 0) := (blk_cell BK302.out 4).trans rfl; have hfz19_0 := blk_frozen BK302.out 0; have hfz19_1 := blk_frozen BK302.out 1; have hfz19_2 := blk_frozen BK302.out 2; have hfz19_3 := blk_frozen BK302.out 3; have hfz19_4 := blk_frozen BK302.out 4) | (go_at_call 66; (with_reducible refine (strings_HasPrefix.calls ((rd_T74 l0 x19_2).f0) a1 true _ A15.out).mono ?_); rintro e w' ⟨rfl, ⟨nd, rfl⟩⟩) | ((with_reducible refine gate_builtin (b := .append) (xs := #[.tmp 32, .tmp 34]) rfl ?_); (try (refine gate_guard (by rfl) ?_; dsimp only)); at_builtin; refine Kd.R_append_rows (Kd.int .i64) (w0 := w) w.heap.size rfl (.tmp 32) (.tmp 34) 39 3 (.int .i64 0) 8 rfl Try.underlying39 info3 rfl (by decide) (by omega) u6 x6_2 ((rd_T74 l0 x19_2).f1) _ _ _ (fun _ => True) (fun _ => False) rfl rfl ?aO ?aR (fun _ _ h => h) (fun _ h => h.elim) ?aF ?aB ?aS ?aL ?_; (case aR => exact Kd.C_below HR301_1.out (by repeat (first | (with_reducible first | exact HB.out | apply below_alloc | apply pw_below_drewN | apply below_drew1 | refine below_set ?_ GE302.out) | exact HB.out))); (case aB => exact (by repeat (first | (with_reducible first | exact HB.out | apply below_alloc | apply pw_below_drewN | apply below_drew1 | refine below_set ?_ GE302.out) | exact HB.out))); (case aF => exact (fun _ _ => trivial)); (case aO => exact (by (with_reducible repeat (first | apply Kd.R_alloc | apply Kd.R_drewN | apply Kd.R_drew)); exact Kd.R_mono (Kd.R_far (p := ⟨gb302, 4, none⟩) (Kd.R_far (p := ⟨gb302, 3, none⟩) (Kd.R_far (p := ⟨gb302, 2, none⟩) (Kd.R_far (p := ⟨gb302, 1, none⟩) (Kd.R_far (p := ⟨gb302, 0, none⟩) (Kd.R_types HO_6.out BK302.out (by decide)) (fun _ hk => hk.2) (.string ((rd_T74 l0 x19_2).f0))) (fun _ hk => hk.2) (.slice A301_1 ((rd_T74 l0 x19_2).f1).length c301_1)) (fun _ hk => hk.2) (.int .i64 ((rd_T74 l0 x19_2).f2))) (fun _ hk => hk.2) (.int .i64 ((rd_T74 l0 x19_2).f3))) (fun _ hk => hk.2) (.int .i64 ((rd_T74 l0 x19_2).f4))) (fun _ hk => trivial))); (case aS => exact (below_size (by repeat (first | (with_reducible first | exact HB.out | apply below_alloc | apply pw_below_drewN | apply below_drew1 | refine below_set ?_ GE302.out) | exact HB.out)))); (case aL => have := LMc17.out; omega); intro v305 w20 ho hb hg hat; rw [← Ny304.out] at ho; have n0_ := Aside0.mk (blk_grown (g := gb302) (o := .cells #[.string ((rd_T74 l0 x19_2).f0), .slice A301_1 ((rd_T74 l0 x19_2).f1).length c301_1, .int .i64 ((rd_T74 l0 x19_2).f2), .int .i64 ((rd_T74 l0 x19_2).f3), .int .i64 ((rd_T74 l0 x19_2).f4)] 74 (0, 0)) (by (with_reducible repeat (first | refine blk_drewN ?_ _ | refine blk_drew ?_ | refine blk_alloc ?_ _)); refine blk_put (cs := #[.string ((rd_T74 l0 x19_2).f0), .slice A301_1 ((rd_T74 l0 x19_2).f1).length c301_1, .int .i64 ((rd_T74 l0 x19_2).f2), .int .i64 ((rd_T74 l0 x19_2).f3), .int .i64 0]) ?_ 4 _ rfl; (with_reducible repeat (first | refine blk_drewN ?_ _ | refine blk_drew ?_ | refine blk_alloc ?_ _)); refine blk_put (cs := #[.string ((rd_T74 l0 x19_2).f0), .slice A301_1 ((rd_T74 l0 x19_2).f1).length c301_1, .int .i64 ((rd_T74 l0 x19_2).f2), .int .i64 0, .int .i64 0]) ?_ 3 _ rfl; (with_reducible repeat (first | refine blk_drewN ?_ _ | refine blk_drew ?_ | refine blk_alloc ?_ _)); refine blk_put (cs := #[.string ((rd_T74 l0 x19_2).f0), .slice A301_1 ((rd_T74 l0 x19_2).f1).length c301_1, .int .i64 0, .int .i64 0, .int .i64 0]) ?_ 2 _ rfl; (with_reducible repeat (first | refine blk_drewN ?_ _ | refine blk_drew ?_ | refine blk_alloc ?_ _)); refine blk_put (cs := #[.string ((rd_T74 l0 x19_2).f0), .slice none 0 0, .int .i64 0, .int .i64 0, .int .i64 0]) ?_ 1 _ rfl; (with_reducible repeat (first | refine blk_drewN ?_ _ | refine blk_drew ?_ | refine blk_alloc ?_ _)); refine blk_put (cs := #[.string (⟨#[]⟩ : ByteArray), .slice none 0 0, .int .i64 0, .int .i64 0, .int .i64 0]) ?_ 0 _ rfl; (with_reducible repeat (first | refine blk_drewN ?_ _ | refine blk_drew ?_ | refine blk_alloc ?_ _)); exact BK302.out) hg (Kd.R_ne HO_6.out BK302.out (by decide))); have n1_ := Aside0.mk (hb); have n2_ := Aside0.mk (ho); clear BK302; clear HB; clear HO_6; have BK302 := n0_; have HB := n1_; have HO306 := n2_; clear n0_ n1_ n2_; clear ho hb hg hat))
                        go_roundg k2
                        case measure => have := HJ2.out; have := HK2.out; omega
                        case rel => exact ⟨(y304), (wrap64 (x19_2 + 1)), (by first | rfl | (simp; done) | (simp [*]; done) | (simp; apply Bool.eq_iff_iff.mpr; simp only [bne_iff_ne, ne_eq, beq_iff_eq]; omega)), H', ⟨by have := HJ2.out; have := HK2.out; omega⟩, ⟨by (with_reducible repeat (first | apply Kd.R_alloc | apply Kd.R_drewN | apply Kd.R_drew)); exact HO306.out⟩, ⟨by repeat (first | (with_reducible first | exact HB.out | apply below_alloc | apply pw_below_drewN | apply below_drew1 | refine below_set ?_ GE302.out) | exact HB.out)⟩⟩
                      · rw [if_neg c17] at H
                        exact absurd H (by simp)
                    · replace c16 := Bool.eq_false_iff.mpr c16
                      subst c16
                      have H1 : (impl_FindBeginning.l0 k2 a1 x6_2 l0 (l0.length : Int) (wrap64 (x19_2 + 1))) = some (r1, r2) := by rw [if_neg (show ¬ (false = true) by decide)] at H; exact H
                      clear H
                      have H := H1
                      clear H1
                      have H' := Aside0.mk H
                      clear H
                      have p301 : 0 ≤ (x19_2 : Int) := of_decide_eq_true (by first | (with_reducible assumption) | assumption)
                      have q301 : x19_2 < (l0.length : Int) := of_decide_eq_true (by first | (with_reducible assumption) | assumption)
                      obtain ⟨ad301, A301_1, c301_1, e301, hx301_0, hx301_1, hx301_2, hx301_3, hx301_4, hl301_1, hi301_1⟩ := at_T74 HR0.out x19_2 p301 q301
                      cases e301
                      replace hx301_0 := (HB.out.cell (World.block_lt_of_cell? w _ hx301_0)).trans hx301_0
                      replace hx301_1 := (HB.out.cell (World.block_lt_of_cell? w _ hx301_1)).trans hx301_1
                      replace hx301_2 := (HB.out.cell (World.block_lt_of_cell? w _ hx301_2)).trans hx301_2
                      replace hx301_3 := (HB.out.cell (World.block_lt_of_cell? w _ hx301_3)).trans hx301_3
                      replace hx301_4 := (HB.out.cell (World.block_lt_of_cell? w _ hx301_4)).trans hx301_4
                      have HR301_1 := Aside0.mk hi301_1
                      have HC301_1 := Aside0.mk hl301_1
                      clear hi301_1 hl301_1
                      replace p301 := eq_true p301
                      replace q301 := eq_true q301
                      go_wp2_with (first | ((with_reducible refine gate_dst (N := 8) rfl ?_); (try (refine gate_guard (by rfl) ?_; dsimp only)); refine box_event ?hg (N := 8) ?hd (cs := #[.string (⟨#[]⟩ : ByteArray), .slice none 0 0, .int .i64 0, .int .i64 0, .int .i64 0]) (t := 74) ?hr ?_; (case hd => rfl); (case hg => rfl); (case hr => first | (go_simp; done) | (go_simp; rfl)); intro gb302 hg w21 hbox hb; have n0_ := Aside0.mk (Kd.R_below (by (with_reducible repeat (first | apply Kd.R_alloc | apply Kd.R_drewN | apply Kd.R_drew)); exact HO_6.out) hb); have n1_ := Aside0.mk (below_step (by repeat (first | (with_reducible first | exact HB.out | apply below_alloc | apply pw_below_drewN | apply below_drew1) | exact HB.out)) hb); have n2_ := Aside0.mk (hbox); have n3_ := Aside0.mk ((by rw [hg]; exact (below_size (by repeat (first | (with_reducible first | exact HB.out | apply below_alloc | apply pw_below_drewN | apply below_drew1) | exact HB.out))) : w.heap.size ≤ gb302)); have n4_ := Aside0.mk ((by rw [hg]; exact (below_size (by repeat (first | (with_reducible first | exact HB.out | apply below_alloc | apply pw_below_drewN | apply below_drew1) | exact HB.out))) : w.heap.size ≤ gb302)); clear HO_6; clear HB; have HO_6 := n0_; have HB := n1_; have BK302 := n2_; have GW302 := n3_; have GE302 := n4_; clear n0_ n1_ n2_ n3_ n4_; clear hb hbox hg; have hcz22_0 : w21.cell? ⟨gb302, 0, none⟩ = some (.string (⟨#[]⟩ : ByteArray)) := (blk_cell BK302.out 0).trans rfl; have hcz22_1 : w21.cell? ⟨gb302, 1, none⟩ = some (.slice none 0 0) := (blk_cell BK302.out 1).trans rfl; have hcz22_2 : w21.cell? ⟨gb302, 2, none⟩ = some (.int .i64 0) := (blk_cell BK302.out 2).trans rfl; have hcz22_3 : w21.cell? ⟨gb302, 3, none⟩ = some (.int .i64 0) := (blk_cell BK302.out 3).trans rfl; have hcz22_4 : w21.cell? ⟨gb302, 4, none⟩ = some (.int .i64 0) := (blk_cell BK302.out 4).trans rfl; have hfz22_0 := blk_frozen BK302.out 0; have hfz22_1 := blk_frozen BK302.out 1; have hfz22_2 := blk_frozen BK302.out 2; have hfz22_3 := blk_frozen BK302.out 3; have hfz22_4 := blk_frozen BK302.out 4) | (go_at_call 66; (with_reducible refine (strings_HasPrefix.calls ((rd_T74 l0 x19_2).f0) a1 false _ A15.out).mono ?_); rintro e w' ⟨rfl, ⟨nd, rfl⟩⟩))
                      go_roundg k2
                      case measure => have := HJ2.out; have := HK2.out; omega
                      case rel => exact ⟨(x6_2), (wrap64 (x19_2 + 1)), (by first | rfl | (simp; done) | (simp [*]; done) | (simp; apply Bool.eq_iff_iff.mpr; simp only [bne_iff_ne, ne_eq, beq_iff_eq]; omega)), H', ⟨by have := HJ2.out; have := HK2.out; omega⟩, ⟨by (with_reducible repeat (first | apply Kd.R_alloc | apply Kd.R_drewN | apply Kd.R_drew)); exact Kd.R_mono (Kd.R_far (p := ⟨gb302, 4, none⟩) (Kd.R_far (p := ⟨gb302, 3, none⟩) (Kd.R_far (p := ⟨gb302, 2, none⟩) (Kd.R_far (p := ⟨gb302, 1, none⟩) (Kd.R_far (p := ⟨gb302, 0, none⟩) (Kd.R_types HO_6.out BK302.out (by decide)) (fun _ hk => hk.2) (.string ((rd_T74 l0 x19_2).f0))) (fun _ hk => hk.2) (.slice A301_1 ((rd_T74 l0 x19_2).f1).length c301_1)) (fun _ hk => hk.2) (.int .i64 ((rd_T74 l0 x19_2).f2))) (fun _ hk => hk.2) (.int .i64 ((rd_T74 l0 x19_2).f3))) (fun _ hk => hk.2) (.int .i64 ((rd_T74 l0 x19_2).f4))) (fun _ hk => trivial)⟩, ⟨by repeat (first | (with_reducible first | exact HB.out | apply below_alloc | apply pw_below_drewN | apply below_drew1 | refine below_set ?_ GE302.out) | exact HB.out)⟩⟩
                · rw [if_neg c11] at H
                  exact absurd H (by simp)
              · rw [if_neg c10] at H
                exact absurd H (by simp)
            · rw [if_neg c9] at H
              have c9b0 : decide (x19_2 < (l0.length : Int)) = false := decide_eq_false c9
              clear c9
              replace H := Option.bind_eq_some_iff.mp H
              obtain ⟨t307, A230, H⟩ := H
              replace H : ((slices_Compact_int_int.f t307).bind fun t308 => (some (t308, true))) = some (r1, r2) := H
              have A23 := Aside0.mk A230
              clear A230
              replace H := Option.bind_eq_some_iff.mp H
              obtain ⟨t308, A240, H⟩ := H
              replace H : (some (t308, true)) = some (r1, r2) := H
              have A24 := Aside0.mk A240
              clear A240
              simp only [Option.some.injEq, Prod.mk.injEq] at H
              obtain ⟨rfl, rfl⟩ := H
              obtain ⟨Ao25, co25, eo25⟩ := Kd.R_slice HO_6.out
              subst eo25
              go_wp2_with (first | ((with_reducible refine gate_callee (f := 67) rfl ?_); refine goesL_ (some 38) rfl rfl Try.func67 (by kernel_rfl) rfl #[.slice Ao25 x6_2.length co25] rfl (by (try simp only [List.map_toArray, List.map_cons, List.map_nil]); first | done | rfl | (simp only [List.length_drop, List.length_take]; rfl)) ?_; (with_reducible refine (slices_Sort_int_int.calls (fun k_ => some k_ = (.slice Ao25 x6_2.length co25 : Value).ownBlock) (.slice Ao25 x6_2.length co25) x6_2 t307 w _ ?side1 ?side2 A23.out).mono ?_); (case side1 => repeat (first | (with_reducible first | exact HB.out | apply below_alloc | apply pw_below_drewN | apply below_drew1) | exact HB.out)); (case side2 => exact Kd.R_tight rfl HO_6.out); rintro e w26 ⟨rfl, hy0, hb, hkp⟩; refine ⟨_, rfl, ?_⟩; have n0_ := Aside0.mk (Kd.R_reok rfl hy0 (fun k_ e_ => HO_6.out.1 k_ e_)); have n1_ := Aside0.mk (hb); clear HO_6; clear HB; have HO_6 := n0_; have HB := n1_; clear n0_ n1_; (try clear hb); (try clear hkp); (try clear hy0)) | ((with_reducible refine gate_callee (f := 68) rfl ?_); refine goesL_ (some 40) rfl rfl Try.func68 (by kernel_rfl) rfl #[.slice Ao25 x6_2.length co25] rfl (by (try simp only [List.map_toArray, List.map_cons, List.map_nil]); first | done | rfl | (simp only [List.length_drop, List.length_take]; rfl)) ?_; (with_reducible refine (slices_Compact_int_int.calls (fun k_ => some k_ = (.slice Ao25 x6_2.length co25 : Value).ownBlock) (.slice Ao25 x6_2.length co25) t307 t308 w _ ?side1 ?side2 A24.out).mono ?_); (case side1 => repeat (first | (with_reducible first | exact HB.out | apply below_alloc | apply pw_below_drewN | apply below_drew1) | exact HB.out)); (case side2 => exact Kd.R_tight rfl HO_6.out); rintro e w27 ⟨v309, rfl, ho0, hb, hkp⟩; refine ⟨_, rfl, ?_⟩; have n0_ := Aside0.mk (Kd.R_mono (ok' := fun k_ => True) ho0 (fun k_ hk_ => trivial)); have n1_ := Aside0.mk (hb); clear HB; clear HO_6; have HO310 := n0_; have HB := n1_; clear n0_ n1_; (try clear hb); (try clear hkp); (try clear ho0)))
              go_ret2
              exact ⟨_, by first | rfl | (simp [errW_none, errW_some] <;> rfl) | (simp [*, errW_none, errW_some] <;> rfl), by (with_reducible repeat (first | apply Kd.R_alloc | apply Kd.R_drewN | apply Kd.R_drew)); exact HO310.out, by repeat (first | (with_reducible first | exact HB.out | apply below_alloc | apply pw_below_drewN | apply below_drew1) | exact HB.out)⟩

end
end Go.Proofs.Ytkkphbjemnifiaa.PFnExactFindBeginning
