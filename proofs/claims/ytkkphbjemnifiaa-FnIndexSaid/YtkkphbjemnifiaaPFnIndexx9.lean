-- Printed for this claim by a changed copy of the kit's printing program (wip/tools/patch_print.py); Lean checks it.
import Derived.Test.YtkkphbjemnifiaaPFnIndexx0
import Derived.Test.YtkkphbjemnifiaaPFnIndexx3
import Derived.Test.YtkkphbjemnifiaaPFnIndexx5
import Derived.Test.YtkkphbjemnifiaaPFnIndexx6
import Derived.Test.YtkkphbjemnifiaaPFnIndexx7
import Derived.Test.YtkkphbjemnifiaaPFnIndexx8
namespace Go.Proofs.Ytkkphbjemnifiaa.PFnIndex
open Go.RowKit Go.Proofs.YtkkphbjemnifiaaW.PrintWords Go.Proofs.YtkkphbjemnifiaaW.PrintLast Go.Proofs.YtkkphbjemnifiaaW.PrintMore
attribute [local go_sem] max2_int min2_int max_two min_two max_three min_three max_four min_four   -- for this text's walks alone
set_option linter.unusedVariables false
set_option linter.unusedSimpArgs false

noncomputable section
/-! ### impl_pairsIn: function 64 -/
mutual
def impl_pairsIn.l0 : Nat → List (S51) → List (S74) → Int → Int → Option ((List (S51)))
 | 0, _, _, _, _ => none
 | k + 1, x3, x8, x9, x10 => if x10 < x9 then (if 0 ≤ x10 then (if x10 < (x8.length : Int) then (impl_pairsIn.l1 k x3 x8 x9 x10 ((rd_T74 x8 x10).f1) (((rd_T74 x8 x10).f1).length : Int) 0 ((rd_T74 x8 x10).f0) ((rd_T74 x8 x10).f1) ((rd_T74 x8 x10).f2) ((rd_T74 x8 x10).f3) ((rd_T74 x8 x10).f4)) else (none)) else (none)) else (some x3)
def impl_pairsIn.l1 : Nat → List (S51) → List (S74) → Int → Int → List Int → Int → Int → ByteArray → List Int → Int → Int → Int → Option ((List (S51)))
 | 0, _, _, _, _, _, _, _, _, _, _, _, _ => none
 | k + 1, x3, x8, x9, x10, x15, x16, x17, x254000, x254001, x254002, x254003, x254004 => if x17 < x16 then (if 0 ≤ x17 then (if x17 < (x15.length : Int) then (if x3.length < 5864062014805 then (impl_pairsIn.l1 k (x3 ++ [(⟨x254000, rd x15 x17⟩ : S51)]) x8 x9 x10 x15 x16 (wrap64 (x17 + 1)) x254000 x254001 x254002 x254003 x254004) else (none)) else (none)) else (none)) else (impl_pairsIn.l0 k x3 x8 x9 (wrap64 (x10 + 1)))
end
def impl_pairsIn.f (k : Nat) (l0 : List (S74)) : Option ((List (S51))) := impl_pairsIn.l0 k ([] : List (S51)) l0 (l0.length : Int) 0
theorem impl_pairsIn.mono_l : ∀ k, (∀ y0 y1 y2 y3, LeO (impl_pairsIn.l0 k y0 y1 y2 y3) (impl_pairsIn.l0 (k + 1) y0 y1 y2 y3)) ∧ (∀ y0 y1 y2 y3 y4 y5 y6 y7 y8 y9 y10 y11, LeO (impl_pairsIn.l1 k y0 y1 y2 y3 y4 y5 y6 y7 y8 y9 y10 y11) (impl_pairsIn.l1 (k + 1) y0 y1 y2 y3 y4 y5 y6 y7 y8 y9 y10 y11))
 | 0 => ⟨fun _ _ _ _ r h => by simp [impl_pairsIn.l0] at h, fun _ _ _ _ _ _ _ _ _ _ _ _ r h => by simp [impl_pairsIn.l1] at h⟩
 | k + 1 => by
  obtain ⟨ih0, ih1⟩ := impl_pairsIn.mono_l k
  refine ⟨?_, ?_⟩
  ·intro y0 y1 y2 y3
   unfold impl_pairsIn.l0
   repeat' first
   | (with_reducible exact ih0 _ _ _ _)
   | (with_reducible exact ih1 _ _ _ _ _ _ _ _ _ _ _ _)
   | (with_reducible exact LeO.refl _)
   | (with_reducible exact LeO.none _)
   | (with_reducible refine LeO.ite ?_ ?_)
   | (with_reducible refine LeO.bind ?_ (fun _ => ?_))
   | exact LeO.none _
   | refine LeO.ite ?_ ?_
   | refine LeO.bind ?_ (fun _ => ?_)
  ·intro y0 y1 y2 y3 y4 y5 y6 y7 y8 y9 y10 y11
   unfold impl_pairsIn.l1
   repeat' first
   | (with_reducible exact ih0 _ _ _ _)
   | (with_reducible exact ih1 _ _ _ _ _ _ _ _ _ _ _ _)
   | (with_reducible exact LeO.refl _)
   | (with_reducible exact LeO.none _)
   | (with_reducible refine LeO.ite ?_ ?_)
   | (with_reducible refine LeO.bind ?_ (fun _ => ?_))
   | exact LeO.none _
   | refine LeO.ite ?_ ?_
   | refine LeO.bind ?_ (fun _ => ?_)
theorem impl_pairsIn.mono : ∀ a0 k, LeO (impl_pairsIn.f k a0) (impl_pairsIn.f (k + 1) a0) := by
 intro a0 k
 obtain ⟨ih0, ih1⟩ := impl_pairsIn.mono_l k
 unfold impl_pairsIn.f
 repeat' first
   | (with_reducible exact ih0 _ _ _ _)
   | (with_reducible exact ih1 _ _ _ _ _ _ _ _ _ _ _ _)
   | (with_reducible exact LeO.refl _)
   | (with_reducible exact LeO.none _)
   | (with_reducible refine LeO.ite ?_ ?_)
   | (with_reducible refine LeO.bind ?_ (fun _ => ?_))
   | exact LeO.none _
   | refine LeO.ite ?_ ?_
   | refine LeO.bind ?_ (fun _ => ?_)
set_option maxHeartbeats 8000000 in
set_option maxRecDepth 100000 in
theorem impl_pairsIn.calls (k : Nat) (A0 : Option Addr) (c0 : Nat) (l0 : List (S74)) (r : List (S51)) (w : World) (hr0 : Kd.C k74 w A0 l0.length l0) (hc0 : l0.length ≤ c0) (h : impl_pairsIn.f k l0 = some r) :
  Calls Try.prog 64 #[.slice A0 l0.length c0] w fun e w' => ∃ v0_ : Value, e = .returned (v0_) ∧ Kd.R k51 51 w' w.heap.size (fun _ => True) v0_ r ∧ Below w.heap.size w w' := by
 have hu74 := Try.underlying74
 have hu51 := Try.underlying51
 have HR0 := Aside0.mk hr0
 have HC0 := Aside0.mk hc0
 clear hr0 hc0
 have HB := Aside0.mk (Below.refl w.heap.size w)
 have H : (impl_pairsIn.l0 k ([] : List (S51)) l0 (l0.length : Int) 0) = some r := h
 clear h
 have H' := Aside0.mk H
 clear H
 go_enter Try.func64, Try.ntmps64
 go_wp2
 go_loopg [3, 10] k (fun kq v3 v10 w' => ∃ (x3_1 : List (S51)) (x10_1 : Int), v10 = .int .i64 x10_1 ∧ Aside0 (impl_pairsIn.l0 kq x3_1 l0 (l0.length : Int) x10_1 = some r) ∧ Aside0 (kq ≤ k) ∧ Aside0 (Kd.R k51 51 w' w.heap.size (fun _ => True) v3 x3_1) ∧ Aside0 (Below w.heap.size w w'))
 case atStart => exact ⟨(([] : List (S51))), (0), rfl, H', ⟨Nat.le_refl _⟩, ⟨by first | exact Kd.R_nil _ _ _ _ _ | exact Kd.N_nil _ _ _ _ _ | exact Kd.V_nil _ _ _ _ _ | exact Kd.Q_nil _ _ _ _ _ | exact Kd.S_nil _ _ _ _ _⟩, ⟨by exact HB.out⟩⟩
 case round =>
  clear H'
  obtain ⟨x3_1, x10_1, rfl, HA, HK1, HO_3, HB⟩ := hrel
  cases gk with
  | zero => exact absurd HA.out (by simp [impl_pairsIn.l0])
  | succ k1 =>
   have H := HA.out
   clear HA
   simp only [impl_pairsIn.l0] at H
   by_cases c2 : x10_1 < (l0.length : Int)
   ·rw [if_pos c2] at H
    have c2b0 : decide (x10_1 < (l0.length : Int)) = true := decide_eq_true c2
    clear c2
    by_cases c3 : 0 ≤ x10_1
    ·rw [if_pos c3] at H
     have c3b0 : decide (0 ≤ x10_1) = true := decide_eq_true c3
     clear c3
     by_cases c4 : x10_1 < (l0.length : Int)
     ·rw [if_pos c4] at H
      have c4b0 : decide (x10_1 < (l0.length : Int)) = true := decide_eq_true c4
      clear c4
      have H' := Aside0.mk H
      clear H
      have p252 : 0 ≤ (x10_1 : Int) := of_decide_eq_true (by assumption)
      have q252 : x10_1 < (l0.length : Int) := of_decide_eq_true (by assumption)
      obtain ⟨ad252, A252_1, c252_1, e252, hx252_0, hx252_1, hx252_2, hx252_3, hx252_4, hl252_1, hi252_1⟩ := at_T74 HR0.out x10_1 p252 q252
      cases e252
      replace hx252_0 := (HB.out.cell (World.block_lt_of_cell? w _ hx252_0)).trans hx252_0
      replace hx252_1 := (HB.out.cell (World.block_lt_of_cell? w _ hx252_1)).trans hx252_1
      replace hx252_2 := (HB.out.cell (World.block_lt_of_cell? w _ hx252_2)).trans hx252_2
      replace hx252_3 := (HB.out.cell (World.block_lt_of_cell? w _ hx252_3)).trans hx252_3
      replace hx252_4 := (HB.out.cell (World.block_lt_of_cell? w _ hx252_4)).trans hx252_4
      have HR252_1 := Aside0.mk hi252_1
      have HC252_1 := Aside0.mk hl252_1
      clear hi252_1 hl252_1
      replace p252 := eq_true p252
      replace q252 := eq_true q252
      go_wp2_with (first | ((with_reducible refine gate_dst (N := 5) rfl ?_); refine box_event ?hg (N := 5) ?hd (cs := #[.string (⟨#[]⟩ : ByteArray), .slice none 0 0, .int .i64 0, .int .i64 0, .int .i64 0]) (t := 74) ?hr ?_; (case hd => rfl); (case hg => rfl); (case hr => go_simp); intro gb253 hg w5 hbox hb; have n0_ := Aside0.mk (Kd.R_below HO_3.out hb); have n1_ := Aside0.mk (below_step HB.out hb); have n2_ := Aside0.mk (hbox); have n3_ := Aside0.mk ((by rw [hg]; exact (below_size HB.out) : w.heap.size ≤ gb253)); have n4_ := Aside0.mk ((by rw [hg]; exact (below_size HB.out) : w.heap.size ≤ gb253)); clear HO_3; clear HB; have HO_3 := n0_; have HB := n1_; have BK253 := n2_; have GW253 := n3_; have GE253 := n4_; clear n0_ n1_ n2_ n3_ n4_; clear hb hbox hg; have hcz6_0 : w5.cell? ⟨gb253, 0, none⟩ = some (.string (⟨#[]⟩ : ByteArray)) := (blk_cell BK253.out 0).trans rfl; have hcz6_1 : w5.cell? ⟨gb253, 1, none⟩ = some (.slice none 0 0) := (blk_cell BK253.out 1).trans rfl; have hcz6_2 : w5.cell? ⟨gb253, 2, none⟩ = some (.int .i64 0) := (blk_cell BK253.out 2).trans rfl; have hcz6_3 : w5.cell? ⟨gb253, 3, none⟩ = some (.int .i64 0) := (blk_cell BK253.out 3).trans rfl; have hcz6_4 : w5.cell? ⟨gb253, 4, none⟩ = some (.int .i64 0) := (blk_cell BK253.out 4).trans rfl; have hfz6_0 := blk_frozen BK253.out 0; have hfz6_1 := blk_frozen BK253.out 1; have hfz6_2 := blk_frozen BK253.out 2; have hfz6_3 := blk_frozen BK253.out 3; have hfz6_4 := blk_frozen BK253.out 4))
      go_loopg [3, 17] k1 (fun kq v3 v17 w' => ∃ (x3_2 : List (S51)) (x17_2 : Int), v17 = .int .i64 x17_2 ∧ Aside0 (impl_pairsIn.l1 kq x3_2 l0 (l0.length : Int) x10_1 ((rd_T74 l0 x10_1).f1) (((rd_T74 l0 x10_1).f1).length : Int) x17_2 ((rd_T74 l0 x10_1).f0) ((rd_T74 l0 x10_1).f1) ((rd_T74 l0 x10_1).f2) ((rd_T74 l0 x10_1).f3) ((rd_T74 l0 x10_1).f4) = some r) ∧ Aside0 (kq ≤ k1) ∧ Aside0 (Kd.R k51 51 w' w.heap.size (fun _ => True) v3 x3_2) ∧ Aside0 (w'.heap[gb253]? = some (.cells #[.string ((rd_T74 l0 x10_1).f0), (.slice A252_1 ((rd_T74 l0 x10_1).f1).length c252_1), .int .i64 ((rd_T74 l0 x10_1).f2), .int .i64 ((rd_T74 l0 x10_1).f3), .int .i64 ((rd_T74 l0 x10_1).f4)] 74 (0, 0))) ∧ Aside0 (Below w.heap.size w w'))
      case atStart => exact ⟨(x3_1), (0), rfl, H', ⟨Nat.le_refl _⟩, ⟨by (with_reducible repeat (first | apply Kd.R_alloc | apply Kd.R_drewN | apply Kd.R_drew)); exact Kd.R_mono (Kd.R_far (p := ⟨gb253, 4, none⟩) (Kd.R_far (p := ⟨gb253, 3, none⟩) (Kd.R_far (p := ⟨gb253, 2, none⟩) (Kd.R_far (p := ⟨gb253, 1, none⟩) (Kd.R_far (p := ⟨gb253, 0, none⟩) (Kd.R_types HO_3.out BK253.out (by decide)) (fun _ hk => hk.2) (.string ((rd_T74 l0 x10_1).f0))) (fun _ hk => hk.2) (.slice A252_1 ((rd_T74 l0 x10_1).f1).length c252_1)) (fun _ hk => hk.2) (.int .i64 ((rd_T74 l0 x10_1).f2))) (fun _ hk => hk.2) (.int .i64 ((rd_T74 l0 x10_1).f3))) (fun _ hk => hk.2) (.int .i64 ((rd_T74 l0 x10_1).f4))) (fun _ hk => trivial)⟩, ⟨by (with_reducible repeat first | apply q1_ | apply q2_ | apply q3_); refine blk_put (cs := #[.string ((rd_T74 l0 x10_1).f0), .slice A252_1 ((rd_T74 l0 x10_1).f1).length c252_1, .int .i64 ((rd_T74 l0 x10_1).f2), .int .i64 ((rd_T74 l0 x10_1).f3), .int .i64 0]) ?_ 4 _ rfl; (with_reducible repeat first | apply q1_ | apply q2_ | apply q3_); refine blk_put (cs := #[.string ((rd_T74 l0 x10_1).f0), .slice A252_1 ((rd_T74 l0 x10_1).f1).length c252_1, .int .i64 ((rd_T74 l0 x10_1).f2), .int .i64 0, .int .i64 0]) ?_ 3 _ rfl; (with_reducible repeat first | apply q1_ | apply q2_ | apply q3_); refine blk_put (cs := #[.string ((rd_T74 l0 x10_1).f0), .slice A252_1 ((rd_T74 l0 x10_1).f1).length c252_1, .int .i64 0, .int .i64 0, .int .i64 0]) ?_ 2 _ rfl; (with_reducible repeat first | apply q1_ | apply q2_ | apply q3_); refine blk_put (cs := #[.string ((rd_T74 l0 x10_1).f0), .slice none 0 0, .int .i64 0, .int .i64 0, .int .i64 0]) ?_ 1 _ rfl; (with_reducible repeat first | apply q1_ | apply q2_ | apply q3_); refine blk_put (cs := #[.string (⟨#[]⟩ : ByteArray), .slice none 0 0, .int .i64 0, .int .i64 0, .int .i64 0]) ?_ 0 _ rfl; (with_reducible repeat first | apply q1_ | apply q2_ | apply q3_); exact BK253.out⟩, ⟨by repeat (first | (with_reducible first | exact HB.out | apply q4_ | apply q5_ | apply q6_ | refine below_set ?_ GE253.out) | exact HB.out)⟩⟩
      case round =>
       clear H'
       try clear c2
       try clear c2b0
       try clear p2
       try clear q2
       try clear hx2
       try clear c3
       try clear c3b0
       try clear c4
       try clear c4b0
       try clear c6
       try clear hcz6_0
       try clear hcz6_1
       try clear hcz6_2
       try clear hcz6_3
       try clear hcz6_4
       try clear hfz6_0
       try clear hfz6_1
       try clear hfz6_2
       try clear hfz6_3
       try clear hfz6_4
       try clear hx252_0
       try clear hx252_1
       try clear hx252_2
       try clear hx252_3
       try clear hx252_4
       try clear p252
       try clear q252
       obtain ⟨x3_2, x17_2, rfl, HA, HK2, HO_3, BK253, HB⟩ := hrel
       cases gk with
       | zero => exact absurd HA.out (by simp [impl_pairsIn.l1])
       | succ k2 =>
        have H := HA.out
        clear HA
        simp only [impl_pairsIn.l1] at H
        by_cases c7 : x17_2 < (((rd_T74 l0 x10_1).f1).length : Int)
        ·rw [if_pos c7] at H
         have c7b0 : decide (x17_2 < (((rd_T74 l0 x10_1).f1).length : Int)) = true := decide_eq_true c7
         clear c7
         by_cases c8 : 0 ≤ x17_2
         ·rw [if_pos c8] at H
          have c8b0 : decide (0 ≤ x17_2) = true := decide_eq_true c8
          clear c8
          by_cases c9 : x17_2 < (((rd_T74 l0 x10_1).f1).length : Int)
          ·rw [if_pos c9] at H
           have c9b0 : decide (x17_2 < (((rd_T74 l0 x10_1).f1).length : Int)) = true := decide_eq_true c9
           clear c9
           by_cases c10 : x3_2.length < 5864062014805
           ·rw [if_pos c10] at H
            have LMc10 := Aside0.mk c10
            clear c10
            obtain ⟨y255, hy255⟩ : ∃ y_ : List (S51), y_ = (x3_2 ++ [(⟨((rd_T74 l0 x10_1).f0), rd ((rd_T74 l0 x10_1).f1) x17_2⟩ : S51)]) := ⟨_, rfl⟩
            replace H : (impl_pairsIn.l1 k2 y255 l0 (l0.length : Int) x10_1 ((rd_T74 l0 x10_1).f1) (((rd_T74 l0 x10_1).f1).length : Int) (wrap64 (x17_2 + 1)) ((rd_T74 l0 x10_1).f0) ((rd_T74 l0 x10_1).f1) ((rd_T74 l0 x10_1).f2) ((rd_T74 l0 x10_1).f3) ((rd_T74 l0 x10_1).f4)) = some r := by first | (rw [hy255]; with_reducible exact H) | (have H2_ := (Option.bind_some _ _).symm.trans H; rw [hy255]; with_reducible exact H2_) | (have H2_ := (Option.bind_some _ _).symm.trans H; with_reducible exact H2_) | with_reducible exact H | (rw [hy255]; exact H) | exact H
            have Ny255 := Aside0.mk hy255
            clear hy255
            have H' := Aside0.mk H
            clear H
            have p254 : 0 ≤ (x17_2 : Int) := of_decide_eq_true (by assumption)
            have q254 : x17_2 < (((rd_T74 l0 x10_1).f1).length : Int) := of_decide_eq_true (by assumption)
            obtain ⟨ad254, e254, hx254_0⟩ := Kd.at_int HR252_1.out x17_2 p254 q254
            cases e254
            replace hx254_0 := (HB.out.cell (World.block_lt_of_cell? w _ hx254_0)).trans hx254_0
            replace p254 := eq_true p254
            replace q254 := eq_true q254
            have hcz11_0 : wr.cell? ⟨gb253, 0, none⟩ = some (.string ((rd_T74 l0 x10_1).f0)) := (blk_cell BK253.out 0).trans rfl
            have hcz11_1 : wr.cell? ⟨gb253, 1, none⟩ = some (.slice (some ad254) ((rd_T74 l0 x10_1).f1).length c252_1) := (blk_cell BK253.out 1).trans rfl
            have hcz11_2 : wr.cell? ⟨gb253, 2, none⟩ = some (.int .i64 ((rd_T74 l0 x10_1).f2)) := (blk_cell BK253.out 2).trans rfl
            have hcz11_3 : wr.cell? ⟨gb253, 3, none⟩ = some (.int .i64 ((rd_T74 l0 x10_1).f3)) := (blk_cell BK253.out 3).trans rfl
            have hcz11_4 : wr.cell? ⟨gb253, 4, none⟩ = some (.int .i64 ((rd_T74 l0 x10_1).f4)) := (blk_cell BK253.out 4).trans rfl
            have hfz11_0 := blk_frozen BK253.out 0
            have hfz11_1 := blk_frozen BK253.out 1
            have hfz11_2 := blk_frozen BK253.out 2
            have hfz11_3 := blk_frozen BK253.out 3
            have hfz11_4 := blk_frozen BK253.out 4
            go_wp2_with (first | ((with_reducible refine gate_builtin (b := .append) (xs := #[.tmp 21, .tmp 26]) rfl ?_); at_builtin; refine Kd.R_append k51 (w0 := w) w.heap.size rfl (.tmp 21) (.tmp 26) 33 51 (.agg #[(.string ⟨#[]⟩), (.int .i64 0)]) 24 rfl Try.underlying33 info51 rfl (by decide) (by omega) u3 x3_2 (⟨((rd_T74 l0 x10_1).f0), rd ((rd_T74 l0 x10_1).f1) x17_2⟩ : S51) [.string ((rd_T74 l0 x10_1).f0), .int .i64 (rd ((rd_T74 l0 x10_1).f1) x17_2)] (fun _ => True) (fun _ => False) rfl rfl ?aP (fun _ hk => hk.elim) ?aF ?aO ?aB ?aS ?aL ?_; (case aP => exact k51_mkM _ _ _ (⟨((rd_T74 l0 x10_1).f0), rd ((rd_T74 l0 x10_1).f1) x17_2⟩ : S51)); (case aB => exact HB.out); (case aF => exact (fun _ _ => trivial)); (case aO => exact HO_3.out); (case aS => exact (below_size HB.out)); (case aL => have := LMc10.out; omega); intro v256 w12 ho hb hg hat; rw [← Ny255.out] at ho; have n0_ := Aside0.mk (blk_grown (g := gb253) (o := .cells #[.string ((rd_T74 l0 x10_1).f0), .slice (some ad254) ((rd_T74 l0 x10_1).f1).length c252_1, .int .i64 ((rd_T74 l0 x10_1).f2), .int .i64 ((rd_T74 l0 x10_1).f3), .int .i64 ((rd_T74 l0 x10_1).f4)] 74 (0, 0)) BK253.out hg (Kd.R_ne HO_3.out BK253.out (by decide))); have n1_ := Aside0.mk (hb); have n2_ := Aside0.mk (ho); clear BK253; clear HB; clear HO_3; have BK253 := n0_; have HB := n1_; have HO257 := n2_; clear n0_ n1_ n2_; clear ho hb hg hat))
            go_roundg k2
            case measure => have := HK1.out; have := HK2.out; omega
            case rel => exact ⟨(y255), (wrap64 (x17_2 + 1)), rfl, H', ⟨by have := HK1.out; have := HK2.out; omega⟩, ⟨by (with_reducible repeat (first | apply Kd.R_alloc | apply Kd.R_drewN | apply Kd.R_drew)); exact HO257.out⟩, ⟨by (with_reducible repeat first | apply q1_ | apply q2_ | apply q3_); exact BK253.out⟩, ⟨by exact HB.out⟩⟩
           ·rw [if_neg c10] at H
            exact absurd H (by simp)
          ·rw [if_neg c9] at H
           exact absurd H (by simp)
         ·rw [if_neg c8] at H
          exact absurd H (by simp)
        ·rw [if_neg c7] at H
         have c7b0 : decide (x17_2 < (((rd_T74 l0 x10_1).f1).length : Int)) = false := decide_eq_false c7
         clear c7
         have H' := Aside0.mk H
         clear H
         go_wp2
         go_roundg k2
         case measure => have := HK1.out; have := HK2.out; omega
         case rel => exact ⟨(x3_2), (wrap64 (x10_1 + 1)), rfl, H', ⟨by have := HK1.out; have := HK2.out; omega⟩, ⟨by (with_reducible repeat (first | apply Kd.R_alloc | apply Kd.R_drewN | apply Kd.R_drew)); exact HO_3.out⟩, ⟨by exact HB.out⟩⟩
     ·rw [if_neg c4] at H
      exact absurd H (by simp)
    ·rw [if_neg c3] at H
     exact absurd H (by simp)
   ·rw [if_neg c2] at H
    have c2b0 : decide (x10_1 < (l0.length : Int)) = false := decide_eq_false c2
    clear c2
    obtain rfl := Option.some.inj H
    go_wp2
    go_ret
    exact ⟨_, by first | rfl | (simp [errW_none, errW_some] <;> rfl) | (simp [*, errW_none, errW_some] <;> rfl), by (with_reducible repeat (first | apply Kd.R_alloc | apply Kd.R_drewN | apply Kd.R_drew)); exact HO_3.out, by exact HB.out⟩
/-! ### impl_Fork: function 83 -/
def impl_Fork.l (k : Nat) : List S74 → List S74 → Option Bool
 | x :: l, y :: m => (impl_isIndex_1.f k x.f0 x.f1 x.f2 x.f3 x.f4 y.f0 y.f1 y.f2 y.f3 y.f4).bind fun b => if b = true then impl_Fork.l k l m else some false
 | _, _ => some true
def impl_Fork.f (k : Nat) (l0 l1 : List S74) (g : Nat) : Option Bool := if g = 84 then (if (l0.length : Int) = (l1.length : Int) then impl_Fork.l k l0 l1 else some false) else none
theorem impl_Fork.mono_l (k : Nat) : ∀ l0 l1, LeO (impl_Fork.l k l0 l1) (impl_Fork.l (k + 1) l0 l1)
 | x :: l, y :: m => by
  rw [impl_Fork.l, impl_Fork.l]
  exact LeO.bind (impl_isIndex_1.mono _ _ _ _ _ _ _ _ _ _ _) (fun _ => LeO.ite (impl_Fork.mono_l k l m) (LeO.refl _))
 | [], _ => by rw [impl_Fork.l, impl_Fork.l] <;> first | exact LeO.refl _ | (intros; simp_all)
 | _ :: _, [] => by rw [impl_Fork.l, impl_Fork.l] <;> first | exact LeO.refl _ | (intros; simp_all)
theorem impl_Fork.mono : ∀ l0 l1 g k, LeO (impl_Fork.f k l0 l1 g) (impl_Fork.f (k + 1) l0 l1 g) := fun l0 l1 g k => LeO.ite (LeO.ite (impl_Fork.mono_l k l0 l1) (LeO.refl _)) (LeO.refl _)
theorem impl_Fork.step (k : Nat) (l0 l1 : List S74) (i : Int) (h0 : 0 ≤ i) (hi : i < (l0.length : Int)) (hj : i < (l1.length : Int)) : impl_Fork.l k (l0.drop i.toNat) (l1.drop i.toNat) = (impl_isIndex_1.f k (rd_T74 l0 i).f0 (rd_T74 l0 i).f1 (rd_T74 l0 i).f2 (rd_T74 l0 i).f3 (rd_T74 l0 i).f4 (rd_T74 l1 i).f0 (rd_T74 l1 i).f1 (rd_T74 l1 i).f2 (rd_T74 l1 i).f3 (rd_T74 l1 i).f4).bind fun b => if b = true then impl_Fork.l k (l0.drop (i + 1).toNat) (l1.drop (i + 1).toNat) else some false := by
 rw [List.drop_eq_getElem_cons (show i.toNat < l0.length by omega), List.drop_eq_getElem_cons (show i.toNat < l1.length by omega), impl_Fork.l, show (i + 1).toNat = i.toNat + 1 by omega]
 have e : rd_T74 l0 i = l0[i.toNat] := by simp [rd_T74, List.getD_eq_getElem?_getD, List.getElem?_eq_getElem (show i.toNat < l0.length by omega)]
 have e2 : rd_T74 l1 i = l1[i.toNat] := by simp [rd_T74, List.getD_eq_getElem?_getD, List.getElem?_eq_getElem (show i.toNat < l1.length by omega)]
 rw [e, e2]
set_option maxHeartbeats 8000000 in
set_option maxRecDepth 100000 in
theorem impl_Fork.calls (k : Nat) (A0 : Option Addr) (c0 : Nat) (l0 : List S74) (A1 : Option Addr) (c1 : Nat) (l1 : List S74) (g : Nat) (r : Bool) (w : World) (hr0 : Kd.C k74 w A0 l0.length l0) (hc0 : l0.length ≤ c0) (hr1 : Kd.C k74 w A1 l1.length l1) (hc1 : l1.length ≤ c1) (h : impl_Fork.f k l0 l1 g = some r) :
  Calls Try.prog 83 #[.slice A0 l0.length c0, .slice A1 l1.length c1, .func (.func g) #[] #[]] w fun e w' => e = .returned (.bool r) ∧ Below w.heap.size w w' := by
 unfold impl_Fork.f at h
 by_cases hg : g = 84
 rotate_left
 ·rw [if_neg hg] at h; cases h
 rw [if_pos hg] at h
 subst hg
 have hu74 := Try.underlying74
 have HR0 := Aside0.mk hr0
 have HR1 := Aside0.mk hr1
 have HB := Aside0.mk (Below.refl w.heap.size w)
 clear hr0 hr1
 by_cases hl : (l0.length : Int) = (l1.length : Int)
 ·rw [if_pos hl] at h
  have HI := Aside0.mk h
  have hle : l1.length = l0.length := by omega
  have HLE := Aside0.mk hle
  rw [hle]
  rw [hle] at hc1
  clear h hl hle
  go_enter Try.func83, Try.ntmps83
  go_wp2
  go_loopg [17] l0.length (fun kq v17 w' => ∃ (xi : Int), v17 = .int .i64 xi ∧ Aside0 (0 ≤ xi ∧ xi + kq = l0.length) ∧ Aside0 (impl_Fork.l k (l0.drop xi.toNat) (l1.drop xi.toNat) = some r) ∧ Aside0 (Below w.heap.size w w'))
  case atStart => exact ⟨0, rfl, ⟨by omega⟩, HI, HB⟩
  case round =>
   clear HI HB
   obtain ⟨xi, rfl, ⟨hxi, hxk⟩, HI, HB⟩ := hrel
   cases gk with
   | zero =>
    have e0 : decide (xi < (l0.length : Int)) = false := decide_eq_false (by omega)
    have hr : true = r := by
     have := HI.out
     rw [List.drop_eq_nil_of_le (by omega), impl_Fork.l] at this
     ·exact Option.some.inj this
     ·intros; simp_all
    subst hr
    go_wp2
    go_ret
    exact ⟨rfl, HB.out⟩
   | succ k1 =>
    have e0 : decide (xi < (l0.length : Int)) = true := decide_eq_true (by omega)
    have hs := HI.out
    have hl1 := HLE.out
    rw [impl_Fork.step k l0 l1 xi hxi (by omega) (by omega)] at hs
    obtain ⟨b, hb, hs⟩ := Option.bind_eq_some_iff.mp hs
    have HBI := Aside0.mk hb
    clear hb HI
    obtain ⟨ad2, Aa, ca, e2, hx0, hx1, hx2, hx3, hx4, hxl, hxr⟩ := at_T74 HR0.out xi hxi (by omega)
    cases e2
    obtain ⟨ad3, Ab, cb, e3, hy0, hy1, hy2, hy3, hy4, hyl, hyr⟩ := at_T74 HR1.out xi hxi (by omega)
    cases e3
    replace hx0 := (HB.out.cell (World.block_lt_of_cell? _ _ hx0)).trans hx0
    replace hx1 := (HB.out.cell (World.block_lt_of_cell? _ _ hx1)).trans hx1
    replace hx2 := (HB.out.cell (World.block_lt_of_cell? _ _ hx2)).trans hx2
    replace hx3 := (HB.out.cell (World.block_lt_of_cell? _ _ hx3)).trans hx3
    replace hx4 := (HB.out.cell (World.block_lt_of_cell? _ _ hx4)).trans hx4
    have Y0 := Aside0.mk hy0
    have Y1 := Aside0.mk hy1
    have Y2 := Aside0.mk hy2
    have Y3 := Aside0.mk hy3
    have Y4 := Aside0.mk hy4
    have XR := Aside0.mk hxr
    have YR := Aside0.mk hyr
    have XL := Aside0.mk hxl
    have YL := Aside0.mk hyl
    clear hy0 hy1 hy2 hy3 hy4 hxr hyr hxl hyl hl1
    have p0 : (0 ≤ xi) = True := eq_true hxi
    have q0 : (xi < (l0.length : Int)) = True := eq_true (by omega)
    have i1 : wrap64 (xi + 1) = xi + 1 := by
     have := HR0.out.2.1
     unfold wrap64; omega
    cases b with
    | false =>
     rw [if_neg (by decide)] at hs
     obtain rfl := Option.some.inj hs
     clear hs
     go_wp2_with (first | ((with_reducible refine gate_dst (N := 8) rfl ?_); refine box_event ?hg (N := 8) ?hd (cs := #[.string (⟨#[]⟩ : ByteArray), .slice none 0 0, .int .i64 0, .int .i64 0, .int .i64 0]) (t := 74) ?hr ?_; (case hd => rfl); (case hg => rfl); (case hr => go_simp); intro ga hg w1 hbox hb; have n0_ := Aside0.mk (below_step HB.out hb); have n1_ := Aside0.mk (hbox); have n2_ := Aside0.mk ((by rw [hg]; exact below_size HB.out : w.heap.size ≤ ga)); (try clear HB); (try clear BA); (try clear GE_ga); have HB := n0_; have BA := n1_; have GE_ga := n2_; clear n0_ n1_ n2_; clear hb hbox hg; have hc_BA_0 : w1.cell? ⟨ga, 0, none⟩ = some (.string (⟨#[]⟩ : ByteArray)) := (blk_cell BA.out 0).trans rfl; have hf_BA_0 := blk_frozen BA.out 0; have hc_BA_1 : w1.cell? ⟨ga, 1, none⟩ = some (.slice none 0 0) := (blk_cell BA.out 1).trans rfl; have hf_BA_1 := blk_frozen BA.out 1; have hc_BA_2 : w1.cell? ⟨ga, 2, none⟩ = some (.int .i64 0) := (blk_cell BA.out 2).trans rfl; have hf_BA_2 := blk_frozen BA.out 2; have hc_BA_3 : w1.cell? ⟨ga, 3, none⟩ = some (.int .i64 0) := (blk_cell BA.out 3).trans rfl; have hf_BA_3 := blk_frozen BA.out 3; have hc_BA_4 : w1.cell? ⟨ga, 4, none⟩ = some (.int .i64 0) := (blk_cell BA.out 4).trans rfl; have hf_BA_4 := blk_frozen BA.out 4) | ((with_reducible refine gate_store (t := 74) (p := 8) rfl ?_); refine store_event (t := 74) (p := 8) (v := ?vo_w2) (w1 := (((((w1.setCell ⟨ga, 0, none⟩ (.string ((rd_T74 l0 xi).f0))).setCell ⟨ga, 1, none⟩ (.slice Aa ((rd_T74 l0 xi).f1).length ca)).setCell ⟨ga, 2, none⟩ (.int .i64 ((rd_T74 l0 xi).f2))).setCell ⟨ga, 3, none⟩ (.int .i64 ((rd_T74 l0 xi).f3))).setCell ⟨ga, 4, none⟩ (.int .i64 ((rd_T74 l0 xi).f4)))) ?hg ?ho ?hn ?hr ?_; (case ho => rfl); (case hg => rfl); (case hn => rfl); (case hr => go_simp); intro w2 hw; have n0_ := Aside0.mk (show Below w.heap.size w w2 from (by rw [hw]; exact below_set (below_set (below_set (below_set (below_set HB.out GE_ga.out) GE_ga.out) GE_ga.out) GE_ga.out) GE_ga.out)); have n1_ := Aside0.mk (show w2.heap[ga]? = some (.cells #[.string ((rd_T74 l0 xi).f0), .slice Aa ((rd_T74 l0 xi).f1).length ca, .int .i64 ((rd_T74 l0 xi).f2), .int .i64 ((rd_T74 l0 xi).f3), .int .i64 ((rd_T74 l0 xi).f4)] 74 (0, 0)) from (by rw [hw]; exact (blk_put (cs' := #[.string ((rd_T74 l0 xi).f0), .slice Aa ((rd_T74 l0 xi).f1).length ca, .int .i64 ((rd_T74 l0 xi).f2), .int .i64 ((rd_T74 l0 xi).f3), .int .i64 ((rd_T74 l0 xi).f4)]) (blk_put (cs' := #[.string ((rd_T74 l0 xi).f0), .slice Aa ((rd_T74 l0 xi).f1).length ca, .int .i64 ((rd_T74 l0 xi).f2), .int .i64 ((rd_T74 l0 xi).f3), .int .i64 0]) (blk_put (cs' := #[.string ((rd_T74 l0 xi).f0), .slice Aa ((rd_T74 l0 xi).f1).length ca, .int .i64 ((rd_T74 l0 xi).f2), .int .i64 0, .int .i64 0]) (blk_put (cs' := #[.string ((rd_T74 l0 xi).f0), .slice Aa ((rd_T74 l0 xi).f1).length ca, .int .i64 0, .int .i64 0, .int .i64 0]) (blk_put (cs' := #[.string ((rd_T74 l0 xi).f0), .slice none 0 0, .int .i64 0, .int .i64 0, .int .i64 0]) BA.out 0 (.string ((rd_T74 l0 xi).f0)) rfl) 1 (.slice Aa ((rd_T74 l0 xi).f1).length ca) rfl) 2 (.int .i64 ((rd_T74 l0 xi).f2)) rfl) 3 (.int .i64 ((rd_T74 l0 xi).f3)) rfl) 4 (.int .i64 ((rd_T74 l0 xi).f4)) rfl))); (try clear hc_BA_0); (try clear hf_BA_0); (try clear hc_BA_1); (try clear hf_BA_1); (try clear hc_BA_2); (try clear hf_BA_2); (try clear hc_BA_3); (try clear hf_BA_3); (try clear hc_BA_4); (try clear hf_BA_4); (try clear HB); (try clear BA); have HB := n0_; have BA := n1_; clear n0_ n1_; clear hw; (try simp only [Act.put, List.setIfInBounds_toArray, List.set_cons_zero, List.set_cons_succ]); have hc_BA_0 : w2.cell? ⟨ga, 0, none⟩ = some (.string ((rd_T74 l0 xi).f0)) := (blk_cell BA.out 0).trans rfl; have hf_BA_0 := blk_frozen BA.out 0; have hc_BA_1 : w2.cell? ⟨ga, 1, none⟩ = some (.slice Aa ((rd_T74 l0 xi).f1).length ca) := (blk_cell BA.out 1).trans rfl; have hf_BA_1 := blk_frozen BA.out 1; have hc_BA_2 : w2.cell? ⟨ga, 2, none⟩ = some (.int .i64 ((rd_T74 l0 xi).f2)) := (blk_cell BA.out 2).trans rfl; have hf_BA_2 := blk_frozen BA.out 2; have hc_BA_3 : w2.cell? ⟨ga, 3, none⟩ = some (.int .i64 ((rd_T74 l0 xi).f3)) := (blk_cell BA.out 3).trans rfl; have hf_BA_3 := blk_frozen BA.out 3; have hc_BA_4 : w2.cell? ⟨ga, 4, none⟩ = some (.int .i64 ((rd_T74 l0 xi).f4)) := (blk_cell BA.out 4).trans rfl; have hf_BA_4 := blk_frozen BA.out 4; (try clear hy0); have hy0 := (HB.out.cell (World.block_lt_of_cell? _ _ Y0.out)).trans Y0.out; (try clear hy1); have hy1 := (HB.out.cell (World.block_lt_of_cell? _ _ Y1.out)).trans Y1.out; (try clear hy2); have hy2 := (HB.out.cell (World.block_lt_of_cell? _ _ Y2.out)).trans Y2.out; (try clear hy3); have hy3 := (HB.out.cell (World.block_lt_of_cell? _ _ Y3.out)).trans Y3.out; (try clear hy4); have hy4 := (HB.out.cell (World.block_lt_of_cell? _ _ Y4.out)).trans Y4.out) | ((with_reducible refine gate_dst (N := 9) rfl ?_); refine box_event ?hg (N := 9) ?hd (cs := #[.string (⟨#[]⟩ : ByteArray), .slice none 0 0, .int .i64 0, .int .i64 0, .int .i64 0]) (t := 74) ?hr ?_; (case hd => rfl); (case hg => rfl); (case hr => go_simp); intro gb hg w3 hbox hb; have n0_ := Aside0.mk (below_step HB.out hb); have n1_ := Aside0.mk (blk_below BA.out hb); have n2_ := Aside0.mk (hbox); have n3_ := Aside0.mk ((by rw [hg]; exact below_size HB.out : w.heap.size ≤ gb)); have n4_ := Aside0.mk ((by rw [hg]; exact Nat.ne_of_lt (blk_lt BA.out) : ga ≠ gb)); (try clear hc_BA_0); (try clear hf_BA_0); (try clear hc_BA_1); (try clear hf_BA_1); (try clear hc_BA_2); (try clear hf_BA_2); (try clear hc_BA_3); (try clear hf_BA_3); (try clear hc_BA_4); (try clear hf_BA_4); (try clear HB); (try clear BA); (try clear BB); (try clear GE_gb); (try clear NB_ga_gb); have HB := n0_; have BA := n1_; have BB := n2_; have GE_gb := n3_; have NB_ga_gb := n4_; clear n0_ n1_ n2_ n3_ n4_; clear hb hbox hg; have hc_BA_0 : w3.cell? ⟨ga, 0, none⟩ = some (.string ((rd_T74 l0 xi).f0)) := (blk_cell BA.out 0).trans rfl; have hf_BA_0 := blk_frozen BA.out 0; have hc_BA_1 : w3.cell? ⟨ga, 1, none⟩ = some (.slice Aa ((rd_T74 l0 xi).f1).length ca) := (blk_cell BA.out 1).trans rfl; have hf_BA_1 := blk_frozen BA.out 1; have hc_BA_2 : w3.cell? ⟨ga, 2, none⟩ = some (.int .i64 ((rd_T74 l0 xi).f2)) := (blk_cell BA.out 2).trans rfl; have hf_BA_2 := blk_frozen BA.out 2; have hc_BA_3 : w3.cell? ⟨ga, 3, none⟩ = some (.int .i64 ((rd_T74 l0 xi).f3)) := (blk_cell BA.out 3).trans rfl; have hf_BA_3 := blk_frozen BA.out 3; have hc_BA_4 : w3.cell? ⟨ga, 4, none⟩ = some (.int .i64 ((rd_T74 l0 xi).f4)) := (blk_cell BA.out 4).trans rfl; have hf_BA_4 := blk_frozen BA.out 4; have hc_BB_0 : w3.cell? ⟨gb, 0, none⟩ = some (.string (⟨#[]⟩ : ByteArray)) := (blk_cell BB.out 0).trans rfl; have hf_BB_0 := blk_frozen BB.out 0; have hc_BB_1 : w3.cell? ⟨gb, 1, none⟩ = some (.slice none 0 0) := (blk_cell BB.out 1).trans rfl; have hf_BB_1 := blk_frozen BB.out 1; have hc_BB_2 : w3.cell? ⟨gb, 2, none⟩ = some (.int .i64 0) := (blk_cell BB.out 2).trans rfl; have hf_BB_2 := blk_frozen BB.out 2; have hc_BB_3 : w3.cell? ⟨gb, 3, none⟩ = some (.int .i64 0) := (blk_cell BB.out 3).trans rfl; have hf_BB_3 := blk_frozen BB.out 3; have hc_BB_4 : w3.cell? ⟨gb, 4, none⟩ = some (.int .i64 0) := (blk_cell BB.out 4).trans rfl; have hf_BB_4 := blk_frozen BB.out 4) | ((with_reducible refine gate_store (t := 74) (p := 9) rfl ?_); refine store_event (t := 74) (p := 9) (v := ?vo_w4) (w1 := (((((w3.setCell ⟨gb, 0, none⟩ (.string ((rd_T74 l1 xi).f0))).setCell ⟨gb, 1, none⟩ (.slice Ab ((rd_T74 l1 xi).f1).length cb)).setCell ⟨gb, 2, none⟩ (.int .i64 ((rd_T74 l1 xi).f2))).setCell ⟨gb, 3, none⟩ (.int .i64 ((rd_T74 l1 xi).f3))).setCell ⟨gb, 4, none⟩ (.int .i64 ((rd_T74 l1 xi).f4)))) ?hg ?ho ?hn ?hr ?_; (case ho => rfl); (case hg => rfl); (case hn => rfl); (case hr => go_simp); intro w4 hw; have n0_ := Aside0.mk (show Below w.heap.size w w4 from (by rw [hw]; exact below_set (below_set (below_set (below_set (below_set HB.out GE_gb.out) GE_gb.out) GE_gb.out) GE_gb.out) GE_gb.out)); have n1_ := Aside0.mk (show w4.heap[ga]? = some (.cells #[.string ((rd_T74 l0 xi).f0), .slice Aa ((rd_T74 l0 xi).f1).length ca, .int .i64 ((rd_T74 l0 xi).f2), .int .i64 ((rd_T74 l0 xi).f3), .int .i64 ((rd_T74 l0 xi).f4)] 74 (0, 0)) from (by rw [hw]; exact (blk_far (blk_far (blk_far (blk_far (blk_far BA.out (p := ⟨gb, 0, none⟩) NB_ga_gb.out (.string ((rd_T74 l1 xi).f0))) (p := ⟨gb, 1, none⟩) NB_ga_gb.out (.slice Ab ((rd_T74 l1 xi).f1).length cb)) (p := ⟨gb, 2, none⟩) NB_ga_gb.out (.int .i64 ((rd_T74 l1 xi).f2))) (p := ⟨gb, 3, none⟩) NB_ga_gb.out (.int .i64 ((rd_T74 l1 xi).f3))) (p := ⟨gb, 4, none⟩) NB_ga_gb.out (.int .i64 ((rd_T74 l1 xi).f4))))); have n2_ := Aside0.mk (show w4.heap[gb]? = some (.cells #[.string ((rd_T74 l1 xi).f0), .slice Ab ((rd_T74 l1 xi).f1).length cb, .int .i64 ((rd_T74 l1 xi).f2), .int .i64 ((rd_T74 l1 xi).f3), .int .i64 ((rd_T74 l1 xi).f4)] 74 (0, 0)) from (by rw [hw]; exact (blk_put (cs' := #[.string ((rd_T74 l1 xi).f0), .slice Ab ((rd_T74 l1 xi).f1).length cb, .int .i64 ((rd_T74 l1 xi).f2), .int .i64 ((rd_T74 l1 xi).f3), .int .i64 ((rd_T74 l1 xi).f4)]) (blk_put (cs' := #[.string ((rd_T74 l1 xi).f0), .slice Ab ((rd_T74 l1 xi).f1).length cb, .int .i64 ((rd_T74 l1 xi).f2), .int .i64 ((rd_T74 l1 xi).f3), .int .i64 0]) (blk_put (cs' := #[.string ((rd_T74 l1 xi).f0), .slice Ab ((rd_T74 l1 xi).f1).length cb, .int .i64 ((rd_T74 l1 xi).f2), .int .i64 0, .int .i64 0]) (blk_put (cs' := #[.string ((rd_T74 l1 xi).f0), .slice Ab ((rd_T74 l1 xi).f1).length cb, .int .i64 0, .int .i64 0, .int .i64 0]) (blk_put (cs' := #[.string ((rd_T74 l1 xi).f0), .slice none 0 0, .int .i64 0, .int .i64 0, .int .i64 0]) BB.out 0 (.string ((rd_T74 l1 xi).f0)) rfl) 1 (.slice Ab ((rd_T74 l1 xi).f1).length cb) rfl) 2 (.int .i64 ((rd_T74 l1 xi).f2)) rfl) 3 (.int .i64 ((rd_T74 l1 xi).f3)) rfl) 4 (.int .i64 ((rd_T74 l1 xi).f4)) rfl))); (try clear hc_BA_0); (try clear hf_BA_0); (try clear hc_BA_1); (try clear hf_BA_1); (try clear hc_BA_2); (try clear hf_BA_2); (try clear hc_BA_3); (try clear hf_BA_3); (try clear hc_BA_4); (try clear hf_BA_4); (try clear hc_BB_0); (try clear hf_BB_0); (try clear hc_BB_1); (try clear hf_BB_1); (try clear hc_BB_2); (try clear hf_BB_2); (try clear hc_BB_3); (try clear hf_BB_3); (try clear hc_BB_4); (try clear hf_BB_4); (try clear HB); (try clear BA); (try clear BB); have HB := n0_; have BA := n1_; have BB := n2_; clear n0_ n1_ n2_; clear hw; (try simp only [Act.put, List.setIfInBounds_toArray, List.set_cons_zero, List.set_cons_succ]); have hc_BA_0 : w4.cell? ⟨ga, 0, none⟩ = some (.string ((rd_T74 l0 xi).f0)) := (blk_cell BA.out 0).trans rfl; have hf_BA_0 := blk_frozen BA.out 0; have hc_BA_1 : w4.cell? ⟨ga, 1, none⟩ = some (.slice Aa ((rd_T74 l0 xi).f1).length ca) := (blk_cell BA.out 1).trans rfl; have hf_BA_1 := blk_frozen BA.out 1; have hc_BA_2 : w4.cell? ⟨ga, 2, none⟩ = some (.int .i64 ((rd_T74 l0 xi).f2)) := (blk_cell BA.out 2).trans rfl; have hf_BA_2 := blk_frozen BA.out 2; have hc_BA_3 : w4.cell? ⟨ga, 3, none⟩ = some (.int .i64 ((rd_T74 l0 xi).f3)) := (blk_cell BA.out 3).trans rfl; have hf_BA_3 := blk_frozen BA.out 3; have hc_BA_4 : w4.cell? ⟨ga, 4, none⟩ = some (.int .i64 ((rd_T74 l0 xi).f4)) := (blk_cell BA.out 4).trans rfl; have hf_BA_4 := blk_frozen BA.out 4; have hc_BB_0 : w4.cell? ⟨gb, 0, none⟩ = some (.string ((rd_T74 l1 xi).f0)) := (blk_cell BB.out 0).trans rfl; have hf_BB_0 := blk_frozen BB.out 0; have hc_BB_1 : w4.cell? ⟨gb, 1, none⟩ = some (.slice Ab ((rd_T74 l1 xi).f1).length cb) := (blk_cell BB.out 1).trans rfl; have hf_BB_1 := blk_frozen BB.out 1; have hc_BB_2 : w4.cell? ⟨gb, 2, none⟩ = some (.int .i64 ((rd_T74 l1 xi).f2)) := (blk_cell BB.out 2).trans rfl; have hf_BB_2 := blk_frozen BB.out 2; have hc_BB_3 : w4.cell? ⟨gb, 3, none⟩ = some (.int .i64 ((rd_T74 l1 xi).f3)) := (blk_cell BB.out 3).trans rfl; have hf_BB_3 := blk_frozen BB.out 3; have hc_BB_4 : w4.cell? ⟨gb, 4, none⟩ = some (.int .i64 ((rd_T74 l1 xi).f4)) := (blk_cell BB.out 4).trans rfl; have hf_BB_4 := blk_frozen BB.out 4) | ((go_at_call 84); refine (impl_isIndex_1.calls k _ Aa ca _ _ _ _ _ Ab cb _ _ _ _ _ _ (Kd.C_below XR.out HB.out) XL.out (Kd.C_below YR.out HB.out) YL.out HBI.out).mono ?_; rintro e w5 ⟨rfl, hb⟩; have n0_ := Aside0.mk (below_step HB.out hb); clear hb HB BA BB; have HB := n0_; clear n0_))
     go_ret
     exact ⟨rfl, HB.out⟩
    | true =>
     rw [if_pos rfl] at hs
     have HI := Aside0.mk hs
     clear hs
     go_wp2_with (first | ((with_reducible refine gate_dst (N := 8) rfl ?_); refine box_event ?hg (N := 8) ?hd (cs := #[.string (⟨#[]⟩ : ByteArray), .slice none 0 0, .int .i64 0, .int .i64 0, .int .i64 0]) (t := 74) ?hr ?_; (case hd => rfl); (case hg => rfl); (case hr => go_simp); intro ga hg w1 hbox hb; have n0_ := Aside0.mk (below_step HB.out hb); have n1_ := Aside0.mk (hbox); have n2_ := Aside0.mk ((by rw [hg]; exact below_size HB.out : w.heap.size ≤ ga)); (try clear HB); (try clear BA); (try clear GE_ga); have HB := n0_; have BA := n1_; have GE_ga := n2_; clear n0_ n1_ n2_; clear hb hbox hg; have hc_BA_0 : w1.cell? ⟨ga, 0, none⟩ = some (.string (⟨#[]⟩ : ByteArray)) := (blk_cell BA.out 0).trans rfl; have hf_BA_0 := blk_frozen BA.out 0; have hc_BA_1 : w1.cell? ⟨ga, 1, none⟩ = some (.slice none 0 0) := (blk_cell BA.out 1).trans rfl; have hf_BA_1 := blk_frozen BA.out 1; have hc_BA_2 : w1.cell? ⟨ga, 2, none⟩ = some (.int .i64 0) := (blk_cell BA.out 2).trans rfl; have hf_BA_2 := blk_frozen BA.out 2; have hc_BA_3 : w1.cell? ⟨ga, 3, none⟩ = some (.int .i64 0) := (blk_cell BA.out 3).trans rfl; have hf_BA_3 := blk_frozen BA.out 3; have hc_BA_4 : w1.cell? ⟨ga, 4, none⟩ = some (.int .i64 0) := (blk_cell BA.out 4).trans rfl; have hf_BA_4 := blk_frozen BA.out 4) | ((with_reducible refine gate_store (t := 74) (p := 8) rfl ?_); refine store_event (t := 74) (p := 8) (v := ?vo_w2) (w1 := (((((w1.setCell ⟨ga, 0, none⟩ (.string ((rd_T74 l0 xi).f0))).setCell ⟨ga, 1, none⟩ (.slice Aa ((rd_T74 l0 xi).f1).length ca)).setCell ⟨ga, 2, none⟩ (.int .i64 ((rd_T74 l0 xi).f2))).setCell ⟨ga, 3, none⟩ (.int .i64 ((rd_T74 l0 xi).f3))).setCell ⟨ga, 4, none⟩ (.int .i64 ((rd_T74 l0 xi).f4)))) ?hg ?ho ?hn ?hr ?_; (case ho => rfl); (case hg => rfl); (case hn => rfl); (case hr => go_simp); intro w2 hw; have n0_ := Aside0.mk (show Below w.heap.size w w2 from (by rw [hw]; exact below_set (below_set (below_set (below_set (below_set HB.out GE_ga.out) GE_ga.out) GE_ga.out) GE_ga.out) GE_ga.out)); have n1_ := Aside0.mk (show w2.heap[ga]? = some (.cells #[.string ((rd_T74 l0 xi).f0), .slice Aa ((rd_T74 l0 xi).f1).length ca, .int .i64 ((rd_T74 l0 xi).f2), .int .i64 ((rd_T74 l0 xi).f3), .int .i64 ((rd_T74 l0 xi).f4)] 74 (0, 0)) from (by rw [hw]; exact (blk_put (cs' := #[.string ((rd_T74 l0 xi).f0), .slice Aa ((rd_T74 l0 xi).f1).length ca, .int .i64 ((rd_T74 l0 xi).f2), .int .i64 ((rd_T74 l0 xi).f3), .int .i64 ((rd_T74 l0 xi).f4)]) (blk_put (cs' := #[.string ((rd_T74 l0 xi).f0), .slice Aa ((rd_T74 l0 xi).f1).length ca, .int .i64 ((rd_T74 l0 xi).f2), .int .i64 ((rd_T74 l0 xi).f3), .int .i64 0]) (blk_put (cs' := #[.string ((rd_T74 l0 xi).f0), .slice Aa ((rd_T74 l0 xi).f1).length ca, .int .i64 ((rd_T74 l0 xi).f2), .int .i64 0, .int .i64 0]) (blk_put (cs' := #[.string ((rd_T74 l0 xi).f0), .slice Aa ((rd_T74 l0 xi).f1).length ca, .int .i64 0, .int .i64 0, .int .i64 0]) (blk_put (cs' := #[.string ((rd_T74 l0 xi).f0), .slice none 0 0, .int .i64 0, .int .i64 0, .int .i64 0]) BA.out 0 (.string ((rd_T74 l0 xi).f0)) rfl) 1 (.slice Aa ((rd_T74 l0 xi).f1).length ca) rfl) 2 (.int .i64 ((rd_T74 l0 xi).f2)) rfl) 3 (.int .i64 ((rd_T74 l0 xi).f3)) rfl) 4 (.int .i64 ((rd_T74 l0 xi).f4)) rfl))); (try clear hc_BA_0); (try clear hf_BA_0); (try clear hc_BA_1); (try clear hf_BA_1); (try clear hc_BA_2); (try clear hf_BA_2); (try clear hc_BA_3); (try clear hf_BA_3); (try clear hc_BA_4); (try clear hf_BA_4); (try clear HB); (try clear BA); have HB := n0_; have BA := n1_; clear n0_ n1_; clear hw; (try simp only [Act.put, List.setIfInBounds_toArray, List.set_cons_zero, List.set_cons_succ]); have hc_BA_0 : w2.cell? ⟨ga, 0, none⟩ = some (.string ((rd_T74 l0 xi).f0)) := (blk_cell BA.out 0).trans rfl; have hf_BA_0 := blk_frozen BA.out 0; have hc_BA_1 : w2.cell? ⟨ga, 1, none⟩ = some (.slice Aa ((rd_T74 l0 xi).f1).length ca) := (blk_cell BA.out 1).trans rfl; have hf_BA_1 := blk_frozen BA.out 1; have hc_BA_2 : w2.cell? ⟨ga, 2, none⟩ = some (.int .i64 ((rd_T74 l0 xi).f2)) := (blk_cell BA.out 2).trans rfl; have hf_BA_2 := blk_frozen BA.out 2; have hc_BA_3 : w2.cell? ⟨ga, 3, none⟩ = some (.int .i64 ((rd_T74 l0 xi).f3)) := (blk_cell BA.out 3).trans rfl; have hf_BA_3 := blk_frozen BA.out 3; have hc_BA_4 : w2.cell? ⟨ga, 4, none⟩ = some (.int .i64 ((rd_T74 l0 xi).f4)) := (blk_cell BA.out 4).trans rfl; have hf_BA_4 := blk_frozen BA.out 4; (try clear hy0); have hy0 := (HB.out.cell (World.block_lt_of_cell? _ _ Y0.out)).trans Y0.out; (try clear hy1); have hy1 := (HB.out.cell (World.block_lt_of_cell? _ _ Y1.out)).trans Y1.out; (try clear hy2); have hy2 := (HB.out.cell (World.block_lt_of_cell? _ _ Y2.out)).trans Y2.out; (try clear hy3); have hy3 := (HB.out.cell (World.block_lt_of_cell? _ _ Y3.out)).trans Y3.out; (try clear hy4); have hy4 := (HB.out.cell (World.block_lt_of_cell? _ _ Y4.out)).trans Y4.out) | ((with_reducible refine gate_dst (N := 9) rfl ?_); refine box_event ?hg (N := 9) ?hd (cs := #[.string (⟨#[]⟩ : ByteArray), .slice none 0 0, .int .i64 0, .int .i64 0, .int .i64 0]) (t := 74) ?hr ?_; (case hd => rfl); (case hg => rfl); (case hr => go_simp); intro gb hg w3 hbox hb; have n0_ := Aside0.mk (below_step HB.out hb); have n1_ := Aside0.mk (blk_below BA.out hb); have n2_ := Aside0.mk (hbox); have n3_ := Aside0.mk ((by rw [hg]; exact below_size HB.out : w.heap.size ≤ gb)); have n4_ := Aside0.mk ((by rw [hg]; exact Nat.ne_of_lt (blk_lt BA.out) : ga ≠ gb)); (try clear hc_BA_0); (try clear hf_BA_0); (try clear hc_BA_1); (try clear hf_BA_1); (try clear hc_BA_2); (try clear hf_BA_2); (try clear hc_BA_3); (try clear hf_BA_3); (try clear hc_BA_4); (try clear hf_BA_4); (try clear HB); (try clear BA); (try clear BB); (try clear GE_gb); (try clear NB_ga_gb); have HB := n0_; have BA := n1_; have BB := n2_; have GE_gb := n3_; have NB_ga_gb := n4_; clear n0_ n1_ n2_ n3_ n4_; clear hb hbox hg; have hc_BA_0 : w3.cell? ⟨ga, 0, none⟩ = some (.string ((rd_T74 l0 xi).f0)) := (blk_cell BA.out 0).trans rfl; have hf_BA_0 := blk_frozen BA.out 0; have hc_BA_1 : w3.cell? ⟨ga, 1, none⟩ = some (.slice Aa ((rd_T74 l0 xi).f1).length ca) := (blk_cell BA.out 1).trans rfl; have hf_BA_1 := blk_frozen BA.out 1; have hc_BA_2 : w3.cell? ⟨ga, 2, none⟩ = some (.int .i64 ((rd_T74 l0 xi).f2)) := (blk_cell BA.out 2).trans rfl; have hf_BA_2 := blk_frozen BA.out 2; have hc_BA_3 : w3.cell? ⟨ga, 3, none⟩ = some (.int .i64 ((rd_T74 l0 xi).f3)) := (blk_cell BA.out 3).trans rfl; have hf_BA_3 := blk_frozen BA.out 3; have hc_BA_4 : w3.cell? ⟨ga, 4, none⟩ = some (.int .i64 ((rd_T74 l0 xi).f4)) := (blk_cell BA.out 4).trans rfl; have hf_BA_4 := blk_frozen BA.out 4; have hc_BB_0 : w3.cell? ⟨gb, 0, none⟩ = some (.string (⟨#[]⟩ : ByteArray)) := (blk_cell BB.out 0).trans rfl; have hf_BB_0 := blk_frozen BB.out 0; have hc_BB_1 : w3.cell? ⟨gb, 1, none⟩ = some (.slice none 0 0) := (blk_cell BB.out 1).trans rfl; have hf_BB_1 := blk_frozen BB.out 1; have hc_BB_2 : w3.cell? ⟨gb, 2, none⟩ = some (.int .i64 0) := (blk_cell BB.out 2).trans rfl; have hf_BB_2 := blk_frozen BB.out 2; have hc_BB_3 : w3.cell? ⟨gb, 3, none⟩ = some (.int .i64 0) := (blk_cell BB.out 3).trans rfl; have hf_BB_3 := blk_frozen BB.out 3; have hc_BB_4 : w3.cell? ⟨gb, 4, none⟩ = some (.int .i64 0) := (blk_cell BB.out 4).trans rfl; have hf_BB_4 := blk_frozen BB.out 4) | ((with_reducible refine gate_store (t := 74) (p := 9) rfl ?_); refine store_event (t := 74) (p := 9) (v := ?vo_w4) (w1 := (((((w3.setCell ⟨gb, 0, none⟩ (.string ((rd_T74 l1 xi).f0))).setCell ⟨gb, 1, none⟩ (.slice Ab ((rd_T74 l1 xi).f1).length cb)).setCell ⟨gb, 2, none⟩ (.int .i64 ((rd_T74 l1 xi).f2))).setCell ⟨gb, 3, none⟩ (.int .i64 ((rd_T74 l1 xi).f3))).setCell ⟨gb, 4, none⟩ (.int .i64 ((rd_T74 l1 xi).f4)))) ?hg ?ho ?hn ?hr ?_; (case ho => rfl); (case hg => rfl); (case hn => rfl); (case hr => go_simp); intro w4 hw; have n0_ := Aside0.mk (show Below w.heap.size w w4 from (by rw [hw]; exact below_set (below_set (below_set (below_set (below_set HB.out GE_gb.out) GE_gb.out) GE_gb.out) GE_gb.out) GE_gb.out)); have n1_ := Aside0.mk (show w4.heap[ga]? = some (.cells #[.string ((rd_T74 l0 xi).f0), .slice Aa ((rd_T74 l0 xi).f1).length ca, .int .i64 ((rd_T74 l0 xi).f2), .int .i64 ((rd_T74 l0 xi).f3), .int .i64 ((rd_T74 l0 xi).f4)] 74 (0, 0)) from (by rw [hw]; exact (blk_far (blk_far (blk_far (blk_far (blk_far BA.out (p := ⟨gb, 0, none⟩) NB_ga_gb.out (.string ((rd_T74 l1 xi).f0))) (p := ⟨gb, 1, none⟩) NB_ga_gb.out (.slice Ab ((rd_T74 l1 xi).f1).length cb)) (p := ⟨gb, 2, none⟩) NB_ga_gb.out (.int .i64 ((rd_T74 l1 xi).f2))) (p := ⟨gb, 3, none⟩) NB_ga_gb.out (.int .i64 ((rd_T74 l1 xi).f3))) (p := ⟨gb, 4, none⟩) NB_ga_gb.out (.int .i64 ((rd_T74 l1 xi).f4))))); have n2_ := Aside0.mk (show w4.heap[gb]? = some (.cells #[.string ((rd_T74 l1 xi).f0), .slice Ab ((rd_T74 l1 xi).f1).length cb, .int .i64 ((rd_T74 l1 xi).f2), .int .i64 ((rd_T74 l1 xi).f3), .int .i64 ((rd_T74 l1 xi).f4)] 74 (0, 0)) from (by rw [hw]; exact (blk_put (cs' := #[.string ((rd_T74 l1 xi).f0), .slice Ab ((rd_T74 l1 xi).f1).length cb, .int .i64 ((rd_T74 l1 xi).f2), .int .i64 ((rd_T74 l1 xi).f3), .int .i64 ((rd_T74 l1 xi).f4)]) (blk_put (cs' := #[.string ((rd_T74 l1 xi).f0), .slice Ab ((rd_T74 l1 xi).f1).length cb, .int .i64 ((rd_T74 l1 xi).f2), .int .i64 ((rd_T74 l1 xi).f3), .int .i64 0]) (blk_put (cs' := #[.string ((rd_T74 l1 xi).f0), .slice Ab ((rd_T74 l1 xi).f1).length cb, .int .i64 ((rd_T74 l1 xi).f2), .int .i64 0, .int .i64 0]) (blk_put (cs' := #[.string ((rd_T74 l1 xi).f0), .slice Ab ((rd_T74 l1 xi).f1).length cb, .int .i64 0, .int .i64 0, .int .i64 0]) (blk_put (cs' := #[.string ((rd_T74 l1 xi).f0), .slice none 0 0, .int .i64 0, .int .i64 0, .int .i64 0]) BB.out 0 (.string ((rd_T74 l1 xi).f0)) rfl) 1 (.slice Ab ((rd_T74 l1 xi).f1).length cb) rfl) 2 (.int .i64 ((rd_T74 l1 xi).f2)) rfl) 3 (.int .i64 ((rd_T74 l1 xi).f3)) rfl) 4 (.int .i64 ((rd_T74 l1 xi).f4)) rfl))); (try clear hc_BA_0); (try clear hf_BA_0); (try clear hc_BA_1); (try clear hf_BA_1); (try clear hc_BA_2); (try clear hf_BA_2); (try clear hc_BA_3); (try clear hf_BA_3); (try clear hc_BA_4); (try clear hf_BA_4); (try clear hc_BB_0); (try clear hf_BB_0); (try clear hc_BB_1); (try clear hf_BB_1); (try clear hc_BB_2); (try clear hf_BB_2); (try clear hc_BB_3); (try clear hf_BB_3); (try clear hc_BB_4); (try clear hf_BB_4); (try clear HB); (try clear BA); (try clear BB); have HB := n0_; have BA := n1_; have BB := n2_; clear n0_ n1_ n2_; clear hw; (try simp only [Act.put, List.setIfInBounds_toArray, List.set_cons_zero, List.set_cons_succ]); have hc_BA_0 : w4.cell? ⟨ga, 0, none⟩ = some (.string ((rd_T74 l0 xi).f0)) := (blk_cell BA.out 0).trans rfl; have hf_BA_0 := blk_frozen BA.out 0; have hc_BA_1 : w4.cell? ⟨ga, 1, none⟩ = some (.slice Aa ((rd_T74 l0 xi).f1).length ca) := (blk_cell BA.out 1).trans rfl; have hf_BA_1 := blk_frozen BA.out 1; have hc_BA_2 : w4.cell? ⟨ga, 2, none⟩ = some (.int .i64 ((rd_T74 l0 xi).f2)) := (blk_cell BA.out 2).trans rfl; have hf_BA_2 := blk_frozen BA.out 2; have hc_BA_3 : w4.cell? ⟨ga, 3, none⟩ = some (.int .i64 ((rd_T74 l0 xi).f3)) := (blk_cell BA.out 3).trans rfl; have hf_BA_3 := blk_frozen BA.out 3; have hc_BA_4 : w4.cell? ⟨ga, 4, none⟩ = some (.int .i64 ((rd_T74 l0 xi).f4)) := (blk_cell BA.out 4).trans rfl; have hf_BA_4 := blk_frozen BA.out 4; have hc_BB_0 : w4.cell? ⟨gb, 0, none⟩ = some (.string ((rd_T74 l1 xi).f0)) := (blk_cell BB.out 0).trans rfl; have hf_BB_0 := blk_frozen BB.out 0; have hc_BB_1 : w4.cell? ⟨gb, 1, none⟩ = some (.slice Ab ((rd_T74 l1 xi).f1).length cb) := (blk_cell BB.out 1).trans rfl; have hf_BB_1 := blk_frozen BB.out 1; have hc_BB_2 : w4.cell? ⟨gb, 2, none⟩ = some (.int .i64 ((rd_T74 l1 xi).f2)) := (blk_cell BB.out 2).trans rfl; have hf_BB_2 := blk_frozen BB.out 2; have hc_BB_3 : w4.cell? ⟨gb, 3, none⟩ = some (.int .i64 ((rd_T74 l1 xi).f3)) := (blk_cell BB.out 3).trans rfl; have hf_BB_3 := blk_frozen BB.out 3; have hc_BB_4 : w4.cell? ⟨gb, 4, none⟩ = some (.int .i64 ((rd_T74 l1 xi).f4)) := (blk_cell BB.out 4).trans rfl; have hf_BB_4 := blk_frozen BB.out 4) | ((go_at_call 84); refine (impl_isIndex_1.calls k _ Aa ca _ _ _ _ _ Ab cb _ _ _ _ _ _ (Kd.C_below XR.out HB.out) XL.out (Kd.C_below YR.out HB.out) YL.out HBI.out).mono ?_; rintro e w5 ⟨rfl, hb⟩; have n0_ := Aside0.mk (below_step HB.out hb); clear hb HB BA BB; have HB := n0_; clear n0_))
     go_roundg k1
     case measure => omega
     case rel => exact ⟨xi + 1, by first | rfl | rw [i1], ⟨by omega⟩, HI, HB⟩
 ·rw [if_neg hl] at h
  obtain rfl := Option.some.inj h
  clear h
  have d1 : ((l0.length : Int) == (l1.length : Int)) = false := beq_false_of_ne hl
  have d2 : ((l0.length : Int) != (l1.length : Int)) = true := bne_iff_ne.2 hl
  have d3 : (l0.length != l1.length) = true := bne_iff_ne.2 (by omega)
  have d4 : (l0.length == l1.length) = false := beq_false_of_ne (by omega)
  have d5 : (l0.length = l1.length) = False := eq_false (by omega)
  clear hl
  go_enter Try.func83, Try.ntmps83
  go_wp2
  go_ret
  exact ⟨rfl, HB.out⟩
/-! ### impl_isIndex: function 55 -/
def impl_isIndex.f (k : Nat) (l0 : List (S74)) : Option (Bool) := (impl_pairsIn.f k l0).bind fun t258 => (if (l0.length : Int) ≤ 40 then ((impl_arePairs.f k t258).bind fun t261 => (if t261 = true then ((impl_indexOf.f k t258).bind fun t262 => ((impl_Fork.f k t262 l0 84).bind fun t265 => (some t265))) else (some false))) else (some false))
theorem impl_isIndex.mono : ∀ a0 k, LeO (impl_isIndex.f k a0) (impl_isIndex.f (k + 1) a0) := by
 intro a0 k
 unfold impl_isIndex.f
 repeat' first
   | (with_reducible exact impl_Fork.mono _ _ _ _)
   | (with_reducible exact impl_arePairs.mono _ _)
   | (with_reducible exact impl_indexOf.mono _ _)
   | (with_reducible exact impl_pairsIn.mono _ _)
   | (with_reducible exact LeO.refl _)
   | (with_reducible exact LeO.none _)
   | (with_reducible refine LeO.ite ?_ ?_)
   | (with_reducible refine LeO.bind ?_ (fun _ => ?_))
   | exact LeO.none _
   | refine LeO.ite ?_ ?_
   | refine LeO.bind ?_ (fun _ => ?_)
set_option maxHeartbeats 8000000 in
set_option maxRecDepth 100000 in
theorem impl_isIndex.calls (k : Nat) (A0 : Option Addr) (c0 : Nat) (l0 : List (S74)) (r : Bool) (w : World) (hr0 : Kd.C k74 w A0 l0.length l0) (hc0 : l0.length ≤ c0) (h : impl_isIndex.f k l0 = some r) :
  Calls Try.prog 55 #[.slice A0 l0.length c0] w fun e w' => e = .returned (.bool r) ∧ Below w.heap.size w w' := by
 have HR0 := Aside0.mk hr0
 have HC0 := Aside0.mk hc0
 clear hr0 hc0
 have HB := Aside0.mk (Below.refl w.heap.size w)
 have H : ((impl_pairsIn.f k l0).bind fun t258 => (if (l0.length : Int) ≤ 40 then ((impl_arePairs.f k t258).bind fun t261 => (if t261 = true then ((impl_indexOf.f k t258).bind fun t262 => ((impl_Fork.f k t262 l0 84).bind fun t265 => (some t265))) else (some false))) else (some false))) = some r := h
 clear h
 replace H := Option.bind_eq_some_iff.mp H
 obtain ⟨t258, A20, H⟩ := H
 replace H : (if (l0.length : Int) ≤ 40 then ((impl_arePairs.f k t258).bind fun t261 => (if t261 = true then ((impl_indexOf.f k t258).bind fun t262 => ((impl_Fork.f k t262 l0 84).bind fun t265 => (some t265))) else (some false))) else (some false)) = some r := H
 have A2 := Aside0.mk A20
 clear A20
 by_cases c3 : (l0.length : Int) ≤ 40
 ·rw [if_pos c3] at H
  have c3b0 : decide ((l0.length : Int) ≤ 40) = true := decide_eq_true c3
  have c3b1 : decide (l0.length ≤ 40) = true := decide_eq_true (by omega)
  clear c3
  replace H := Option.bind_eq_some_iff.mp H
  obtain ⟨t261, A40, H⟩ := H
  replace H : (if t261 = true then ((impl_indexOf.f k t258).bind fun t262 => ((impl_Fork.f k t262 l0 84).bind fun t265 => (some t265))) else (some false)) = some r := H
  have A4 := Aside0.mk A40
  clear A40
  by_cases c5 : t261 = true
  ·subst c5
   have H1 : ((impl_indexOf.f k t258).bind fun t262 => ((impl_Fork.f k t262 l0 84).bind fun t265 => (some t265))) = some r := by rw [if_pos rfl] at H; exact H
   clear H
   have H := H1
   clear H1
   replace H := Option.bind_eq_some_iff.mp H
   obtain ⟨t262, A60, H⟩ := H
   replace H : ((impl_Fork.f k t262 l0 84).bind fun t265 => (some t265)) = some r := H
   have A6 := Aside0.mk A60
   clear A60
   replace H := Option.bind_eq_some_iff.mp H
   obtain ⟨t265, A70, H⟩ := H
   replace H : (some t265) = some r := H
   have A7 := Aside0.mk A70
   clear A70
   obtain rfl := Option.some.inj H
   go_enter Try.func55, Try.ntmps55
   go_wp2_with (first | ((with_reducible refine gate_callee (f := 64) rfl ?_); refine goesL_ (some 5) rfl rfl Try.func64 (by kernel_rfl) rfl #[.slice A0 l0.length c0] rfl (by simp only [List.map_toArray, List.map_cons, List.map_nil] <;> rfl) ?_; (with_reducible refine (impl_pairsIn.calls k _ _ l0 t258 _ ?side1 ?side2 A2.out).mono ?_); (case side1 => repeat (first | exact HR0.out | (with_reducible refine Kd.C_alloc ?_ _) | (with_reducible refine Kd.C_drewN ?_ _) | (with_reducible refine Kd.C_drew ?_))); (case side2 => exact HC0.out); rintro e w8 ⟨v259, rfl, ho0, hb⟩; refine ⟨_, rfl, ?_⟩; have n0_ := Aside0.mk (Kd.R_lower ho0 (below_size HB.out)); have n1_ := Aside0.mk (below_step HB.out hb); clear HB; have HO260 := n0_; have HB := n1_; clear n0_ n1_; (try clear hb); (try clear hk); (try clear hi); (try clear ho0); obtain ⟨Ao9, co9, eo9⟩ := Kd.R_slice HO260.out; subst eo9) | (go_at_call 57; (with_reducible refine (impl_arePairs.calls k _ _ t258 true _ ?side1 ?side2 A4.out).mono ?_); (case side1 => exact (Kd.R_reads' HO260.out).2.2); (case side2 => exact (Kd.R_reads' HO260.out).2.1); rintro e w10 ⟨rfl, hb⟩; have n0_ := Aside0.mk (Kd.R_below HO260.out hb); have n1_ := Aside0.mk (below_step HB.out hb); clear HO260; clear HB; have HO260 := n0_; have HB := n1_; clear n0_ n1_; (try clear hb); (try clear hk); (try clear hi)) | (go_at_call 58; (with_reducible refine (impl_indexOf.calls k _ _ t258 t262 _ ?side1 ?side2 A6.out).mono ?_); (case side1 => exact (Kd.R_reads' HO260.out).2.2); (case side2 => exact (Kd.R_reads' HO260.out).2.1); rintro e w11 ⟨v263, rfl, ho0, hb⟩; have n0_ := Aside0.mk (Kd.R_below HO260.out hb); have n1_ := Aside0.mk (Kd.S_lower ho0 (below_size HB.out)); have n2_ := Aside0.mk (below_step HB.out hb); clear HO260; clear HB; have HO260 := n0_; have HO264 := n1_; have HB := n2_; clear n0_ n1_ n2_; (try clear hb); (try clear hk); (try clear hi); (try clear ho0); obtain ⟨Ao12, co12, eo12⟩ := Kd.S_slice HO264.out; subst eo12) | (go_at_call 83; (with_reducible refine (impl_Fork.calls k _ _ t262 _ _ l0 84 t265 _ ?side1 ?side2 ?side3 ?side4 A7.out).mono ?_); (case side1 => exact (Kd.S_reads' HO264.out).2.2); (case side2 => exact (Kd.S_reads' HO264.out).2.1); (case side3 => exact (Kd.C_below HR0.out HB.out)); (case side4 => exact HC0.out); rintro e w13 ⟨rfl, hb⟩; have n0_ := Aside0.mk (Kd.R_below HO260.out hb); have n1_ := Aside0.mk (Kd.S_below HO264.out hb); have n2_ := Aside0.mk (below_step HB.out hb); clear HO260; clear HO264; clear HB; have HO260 := n0_; have HO264 := n1_; have HB := n2_; clear n0_ n1_ n2_; (try clear hb); (try clear hk); (try clear hi)))
   go_ret
   exact ⟨rfl, by exact HB.out⟩
  ·replace c5 := Bool.eq_false_iff.mpr c5
   subst c5
   have H1 : (some false) = some r := by rw [if_neg (show ¬ (false = true) by decide)] at H; exact H
   clear H
   have H := H1
   clear H1
   obtain rfl := Option.some.inj H
   go_enter Try.func55, Try.ntmps55
   go_wp2_with (first | ((with_reducible refine gate_callee (f := 64) rfl ?_); refine goesL_ (some 5) rfl rfl Try.func64 (by kernel_rfl) rfl #[.slice A0 l0.length c0] rfl (by simp only [List.map_toArray, List.map_cons, List.map_nil] <;> rfl) ?_; (with_reducible refine (impl_pairsIn.calls k _ _ l0 t258 _ ?side1 ?side2 A2.out).mono ?_); (case side1 => repeat (first | exact HR0.out | (with_reducible refine Kd.C_alloc ?_ _) | (with_reducible refine Kd.C_drewN ?_ _) | (with_reducible refine Kd.C_drew ?_))); (case side2 => exact HC0.out); rintro e w14 ⟨v259, rfl, ho0, hb⟩; refine ⟨_, rfl, ?_⟩; have n0_ := Aside0.mk (Kd.R_lower ho0 (below_size HB.out)); have n1_ := Aside0.mk (below_step HB.out hb); clear HB; have HO260 := n0_; have HB := n1_; clear n0_ n1_; (try clear hb); (try clear hk); (try clear hi); (try clear ho0); obtain ⟨Ao15, co15, eo15⟩ := Kd.R_slice HO260.out; subst eo15) | (go_at_call 57; (with_reducible refine (impl_arePairs.calls k _ _ t258 false _ ?side1 ?side2 A4.out).mono ?_); (case side1 => exact (Kd.R_reads' HO260.out).2.2); (case side2 => exact (Kd.R_reads' HO260.out).2.1); rintro e w16 ⟨rfl, hb⟩; have n0_ := Aside0.mk (Kd.R_below HO260.out hb); have n1_ := Aside0.mk (below_step HB.out hb); clear HO260; clear HB; have HO260 := n0_; have HB := n1_; clear n0_ n1_; (try clear hb); (try clear hk); (try clear hi)))
   go_ret
   exact ⟨rfl, by exact HB.out⟩
 ·rw [if_neg c3] at H
  have c3b0 : decide ((l0.length : Int) ≤ 40) = false := decide_eq_false c3
  have c3b1 : decide (l0.length ≤ 40) = false := decide_eq_false (by omega)
  clear c3
  obtain rfl := Option.some.inj H
  go_enter Try.func55, Try.ntmps55
  go_wp2_with (first | ((with_reducible refine gate_callee (f := 64) rfl ?_); refine goesL_ (some 5) rfl rfl Try.func64 (by kernel_rfl) rfl #[.slice A0 l0.length c0] rfl (by simp only [List.map_toArray, List.map_cons, List.map_nil] <;> rfl) ?_; (with_reducible refine (impl_pairsIn.calls k _ _ l0 t258 _ ?side1 ?side2 A2.out).mono ?_); (case side1 => repeat (first | exact HR0.out | (with_reducible refine Kd.C_alloc ?_ _) | (with_reducible refine Kd.C_drewN ?_ _) | (with_reducible refine Kd.C_drew ?_))); (case side2 => exact HC0.out); rintro e w17 ⟨v259, rfl, ho0, hb⟩; refine ⟨_, rfl, ?_⟩; have n0_ := Aside0.mk (Kd.R_lower ho0 (below_size HB.out)); have n1_ := Aside0.mk (below_step HB.out hb); clear HB; have HO260 := n0_; have HB := n1_; clear n0_ n1_; (try clear hb); (try clear hk); (try clear hi); (try clear ho0)))
  go_ret
  exact ⟨rfl, by exact HB.out⟩
/-! ### impl_GoodIndex: function 14 -/
def impl_GoodIndex.f (k : Nat) (l0 : List (S74)) : Option (Bool) := (impl_isIndex.f k l0).bind fun t266 => (some t266)
theorem impl_GoodIndex.mono : ∀ a0 k, LeO (impl_GoodIndex.f k a0) (impl_GoodIndex.f (k + 1) a0) := by
 intro a0 k
 unfold impl_GoodIndex.f
 repeat' first
   | (with_reducible exact impl_isIndex.mono _ _)
   | (with_reducible exact LeO.refl _)
   | (with_reducible exact LeO.none _)
   | (with_reducible refine LeO.ite ?_ ?_)
   | (with_reducible refine LeO.bind ?_ (fun _ => ?_))
   | exact LeO.none _
   | refine LeO.ite ?_ ?_
   | refine LeO.bind ?_ (fun _ => ?_)
set_option maxHeartbeats 8000000 in
set_option maxRecDepth 100000 in
theorem impl_GoodIndex.calls (k : Nat) (A0 : Option Addr) (c0 : Nat) (l0 : List (S74)) (r : Bool) (w : World) (hr0 : Kd.C k74 w A0 l0.length l0) (hc0 : l0.length ≤ c0) (h : impl_GoodIndex.f k l0 = some r) :
  Calls Try.prog 14 #[.slice A0 l0.length c0] w fun e w' => e = .returned (.bool r) ∧ Below w.heap.size w w' := by
 have HR0 := Aside0.mk hr0
 have HC0 := Aside0.mk hc0
 clear hr0 hc0
 have HB := Aside0.mk (Below.refl w.heap.size w)
 have H : ((impl_isIndex.f k l0).bind fun t266 => (some t266)) = some r := h
 clear h
 replace H := Option.bind_eq_some_iff.mp H
 obtain ⟨t266, A20, H⟩ := H
 replace H : (some t266) = some r := H
 have A2 := Aside0.mk A20
 clear A20
 obtain rfl := Option.some.inj H
 go_enter Try.func14, Try.ntmps14
 go_wp2_with (first | ((with_reducible refine gate_callee (f := 55) rfl ?_); refine goesL_ (some 4) rfl rfl Try.func55 (by kernel_rfl) rfl #[.slice A0 l0.length c0] rfl (by simp only [List.map_toArray, List.map_cons, List.map_nil] <;> rfl) ?_; (with_reducible refine (impl_isIndex.calls k _ _ l0 t266 _ ?side1 ?side2 A2.out).mono ?_); (case side1 => repeat (first | exact HR0.out | (with_reducible refine Kd.C_alloc ?_ _) | (with_reducible refine Kd.C_drewN ?_ _) | (with_reducible refine Kd.C_drew ?_))); (case side2 => exact HC0.out); rintro e w3 ⟨rfl, hb⟩; refine ⟨_, rfl, ?_⟩; have n0_ := Aside0.mk (below_step HB.out hb); clear HB; have HB := n0_; clear n0_; (try clear hb); (try clear hk); (try clear hi)))
 go_ret
 exact ⟨rfl, by exact HB.out⟩
/-! ### spec_IndexOf: function 17 -/
def spec_IndexOf.f (k : Nat) (l0 : List (S51)) : Option ((List (S74)) × Bool) := (spec_GoodPairs.f k l0).bind fun t267 => (if t267 = true then ((spec_l10Index.f k l0).bind fun t268 => (some (t268, true))) else (some (([] : List (S74)), false)))
theorem spec_IndexOf.mono : ∀ a0 k, LeO (spec_IndexOf.f k a0) (spec_IndexOf.f (k + 1) a0) := by
 intro a0 k
 unfold spec_IndexOf.f
 repeat' first
   | (with_reducible exact spec_GoodPairs.mono _ _)
   | (with_reducible exact spec_l10Index.mono _ _)
   | (with_reducible exact LeO.refl _)
   | (with_reducible exact LeO.none _)
   | (with_reducible refine LeO.ite ?_ ?_)
   | (with_reducible refine LeO.bind ?_ (fun _ => ?_))
   | exact LeO.none _
   | refine LeO.ite ?_ ?_
   | refine LeO.bind ?_ (fun _ => ?_)
set_option maxHeartbeats 8000000 in
set_option maxRecDepth 100000 in
theorem spec_IndexOf.calls (k : Nat) (A0 : Option Addr) (c0 : Nat) (l0 : List (S51)) (r1 : List (S74)) (r2 : Bool) (w : World) (hr0 : Kd.C k51 w A0 l0.length l0) (hc0 : l0.length ≤ c0) (h : spec_IndexOf.f k l0 = some (r1, r2)) :
  Calls Try.prog 17 #[.slice A0 l0.length c0] w fun e w' => ∃ v0_ : Value, e = .returned (.tuple #[v0_, .bool r2]) ∧ Kd.S k74 74 w' w.heap.size (fun _ => True) v0_ r1 ∧ Below w.heap.size w w' := by
 have HR0 := Aside0.mk hr0
 have HC0 := Aside0.mk hc0
 clear hr0 hc0
 have HB := Aside0.mk (Below.refl w.heap.size w)
 have H : ((spec_GoodPairs.f k l0).bind fun t267 => (if t267 = true then ((spec_l10Index.f k l0).bind fun t268 => (some (t268, true))) else (some (([] : List (S74)), false)))) = some (r1, r2) := h
 clear h
 replace H := Option.bind_eq_some_iff.mp H
 obtain ⟨t267, A20, H⟩ := H
 replace H : (if t267 = true then ((spec_l10Index.f k l0).bind fun t268 => (some (t268, true))) else (some (([] : List (S74)), false))) = some (r1, r2) := H
 have A2 := Aside0.mk A20
 clear A20
 by_cases c3 : t267 = true
 ·subst c3
  have H1 : ((spec_l10Index.f k l0).bind fun t268 => (some (t268, true))) = some (r1, r2) := by rw [if_pos rfl] at H; exact H
  clear H
  have H := H1
  clear H1
  replace H := Option.bind_eq_some_iff.mp H
  obtain ⟨t268, A40, H⟩ := H
  replace H : (some (t268, true)) = some (r1, r2) := H
  have A4 := Aside0.mk A40
  clear A40
  simp only [Option.some.injEq, Prod.mk.injEq] at H
  obtain ⟨rfl, rfl⟩ := H
  go_enter Try.func17, Try.ntmps17
  go_wp2_with (first | ((with_reducible refine gate_callee (f := 51) rfl ?_); refine goesL_ (some 5) rfl rfl Try.func51 (by kernel_rfl) rfl #[.slice A0 l0.length c0] rfl (by simp only [List.map_toArray, List.map_cons, List.map_nil] <;> rfl) ?_; (with_reducible refine (spec_GoodPairs.calls k _ _ l0 true _ ?side1 ?side2 A2.out).mono ?_); (case side1 => repeat (first | exact HR0.out | (with_reducible refine Kd.C_alloc ?_ _) | (with_reducible refine Kd.C_drewN ?_ _) | (with_reducible refine Kd.C_drew ?_))); (case side2 => exact HC0.out); rintro e w5 ⟨rfl, hb⟩; refine ⟨_, rfl, ?_⟩; have n0_ := Aside0.mk (below_step HB.out hb); clear HB; have HB := n0_; clear n0_; (try clear hb); (try clear hk); (try clear hi)) | ((with_reducible refine gate_callee (f := 53) rfl ?_); refine goesL_ (some 8) rfl rfl Try.func53 (by kernel_rfl) rfl #[.slice A0 l0.length c0] rfl (by simp only [List.map_toArray, List.map_cons, List.map_nil] <;> rfl) ?_; (with_reducible refine (spec_l10Index.calls k _ _ l0 t268 _ ?side1 ?side2 A4.out).mono ?_); (case side1 => exact (Kd.C_below HR0.out HB.out)); (case side2 => exact HC0.out); rintro e w6 ⟨v269, rfl, ho0, hb⟩; refine ⟨_, rfl, ?_⟩; have n0_ := Aside0.mk (Kd.S_lower ho0 (below_size HB.out)); have n1_ := Aside0.mk (below_step HB.out hb); clear HB; have HO270 := n0_; have HB := n1_; clear n0_ n1_; (try clear hb); (try clear hk); (try clear hi); (try clear ho0)))
  go_ret2
  exact ⟨_, by first | rfl | (simp [errW_none, errW_some] <;> rfl) | (simp [*, errW_none, errW_some] <;> rfl), by (with_reducible repeat (first | apply Kd.S_alloc | apply Kd.S_drewN | apply Kd.S_drew)); exact HO270.out, by exact HB.out⟩
 ·replace c3 := Bool.eq_false_iff.mpr c3
  subst c3
  have H1 : (some (([] : List (S74)), false)) = some (r1, r2) := by rw [if_neg (show ¬ (false = true) by decide)] at H; exact H
  clear H
  have H := H1
  clear H1
  simp only [Option.some.injEq, Prod.mk.injEq] at H
  obtain ⟨rfl, rfl⟩ := H
  go_enter Try.func17, Try.ntmps17
  go_wp2_with (first | ((with_reducible refine gate_callee (f := 51) rfl ?_); refine goesL_ (some 5) rfl rfl Try.func51 (by kernel_rfl) rfl #[.slice A0 l0.length c0] rfl (by simp only [List.map_toArray, List.map_cons, List.map_nil] <;> rfl) ?_; (with_reducible refine (spec_GoodPairs.calls k _ _ l0 false _ ?side1 ?side2 A2.out).mono ?_); (case side1 => repeat (first | exact HR0.out | (with_reducible refine Kd.C_alloc ?_ _) | (with_reducible refine Kd.C_drewN ?_ _) | (with_reducible refine Kd.C_drew ?_))); (case side2 => exact HC0.out); rintro e w7 ⟨rfl, hb⟩; refine ⟨_, rfl, ?_⟩; have n0_ := Aside0.mk (below_step HB.out hb); clear HB; have HB := n0_; clear n0_; (try clear hb); (try clear hk); (try clear hi)))
  go_ret2
  exact ⟨_, by first | rfl | (simp [errW_none, errW_some] <;> rfl) | (simp [*, errW_none, errW_some] <;> rfl), by first | exact Kd.S_nil _ _ _ _ _ | exact Kd.N_nil _ _ _ _ _ | exact Kd.V_nil _ _ _ _ _ | exact Kd.Q_nil _ _ _ _ _ | exact Kd.R_nil _ _ _ _ _, by exact HB.out⟩
/-! ### impl_IndexOf: function 19 -/
def impl_IndexOf.f (k : Nat) (l0 : List (S51)) : Option ((List (S74)) × Bool) := (impl_arePairs.f k l0).bind fun t271 => (if t271 = true then ((impl_indexOf.f k l0).bind fun t272 => (some (t272, true))) else (some (([] : List (S74)), false)))
theorem impl_IndexOf.mono : ∀ a0 k, LeO (impl_IndexOf.f k a0) (impl_IndexOf.f (k + 1) a0) := by
 intro a0 k
 unfold impl_IndexOf.f
 repeat' first
   | (with_reducible exact impl_arePairs.mono _ _)
   | (with_reducible exact impl_indexOf.mono _ _)
   | (with_reducible exact LeO.refl _)
   | (with_reducible exact LeO.none _)
   | (with_reducible refine LeO.ite ?_ ?_)
   | (with_reducible refine LeO.bind ?_ (fun _ => ?_))
   | exact LeO.none _
   | refine LeO.ite ?_ ?_
   | refine LeO.bind ?_ (fun _ => ?_)
set_option maxHeartbeats 8000000 in
set_option maxRecDepth 100000 in
theorem impl_IndexOf.calls (k : Nat) (A0 : Option Addr) (c0 : Nat) (l0 : List (S51)) (r1 : List (S74)) (r2 : Bool) (w : World) (hr0 : Kd.C k51 w A0 l0.length l0) (hc0 : l0.length ≤ c0) (h : impl_IndexOf.f k l0 = some (r1, r2)) :
  Calls Try.prog 19 #[.slice A0 l0.length c0] w fun e w' => ∃ v0_ : Value, e = .returned (.tuple #[v0_, .bool r2]) ∧ Kd.S k74 74 w' w.heap.size (fun _ => True) v0_ r1 ∧ Below w.heap.size w w' := by
 have HR0 := Aside0.mk hr0
 have HC0 := Aside0.mk hc0
 clear hr0 hc0
 have HB := Aside0.mk (Below.refl w.heap.size w)
 have H : ((impl_arePairs.f k l0).bind fun t271 => (if t271 = true then ((impl_indexOf.f k l0).bind fun t272 => (some (t272, true))) else (some (([] : List (S74)), false)))) = some (r1, r2) := h
 clear h
 replace H := Option.bind_eq_some_iff.mp H
 obtain ⟨t271, A20, H⟩ := H
 replace H : (if t271 = true then ((impl_indexOf.f k l0).bind fun t272 => (some (t272, true))) else (some (([] : List (S74)), false))) = some (r1, r2) := H
 have A2 := Aside0.mk A20
 clear A20
 by_cases c3 : t271 = true
 ·subst c3
  have H1 : ((impl_indexOf.f k l0).bind fun t272 => (some (t272, true))) = some (r1, r2) := by rw [if_pos rfl] at H; exact H
  clear H
  have H := H1
  clear H1
  replace H := Option.bind_eq_some_iff.mp H
  obtain ⟨t272, A40, H⟩ := H
  replace H : (some (t272, true)) = some (r1, r2) := H
  have A4 := Aside0.mk A40
  clear A40
  simp only [Option.some.injEq, Prod.mk.injEq] at H
  obtain ⟨rfl, rfl⟩ := H
  go_enter Try.func19, Try.ntmps19
  go_wp2_with (first | ((with_reducible refine gate_callee (f := 57) rfl ?_); refine goesL_ (some 5) rfl rfl Try.func57 (by kernel_rfl) rfl #[.slice A0 l0.length c0] rfl (by simp only [List.map_toArray, List.map_cons, List.map_nil] <;> rfl) ?_; (with_reducible refine (impl_arePairs.calls k _ _ l0 true _ ?side1 ?side2 A2.out).mono ?_); (case side1 => repeat (first | exact HR0.out | (with_reducible refine Kd.C_alloc ?_ _) | (with_reducible refine Kd.C_drewN ?_ _) | (with_reducible refine Kd.C_drew ?_))); (case side2 => exact HC0.out); rintro e w5 ⟨rfl, hb⟩; refine ⟨_, rfl, ?_⟩; have n0_ := Aside0.mk (below_step HB.out hb); clear HB; have HB := n0_; clear n0_; (try clear hb); (try clear hk); (try clear hi)) | ((with_reducible refine gate_callee (f := 58) rfl ?_); refine goesL_ (some 8) rfl rfl Try.func58 (by kernel_rfl) rfl #[.slice A0 l0.length c0] rfl (by simp only [List.map_toArray, List.map_cons, List.map_nil] <;> rfl) ?_; (with_reducible refine (impl_indexOf.calls k _ _ l0 t272 _ ?side1 ?side2 A4.out).mono ?_); (case side1 => exact (Kd.C_below HR0.out HB.out)); (case side2 => exact HC0.out); rintro e w6 ⟨v273, rfl, ho0, hb⟩; refine ⟨_, rfl, ?_⟩; have n0_ := Aside0.mk (Kd.S_lower ho0 (below_size HB.out)); have n1_ := Aside0.mk (below_step HB.out hb); clear HB; have HO274 := n0_; have HB := n1_; clear n0_ n1_; (try clear hb); (try clear hk); (try clear hi); (try clear ho0)))
  go_ret2
  exact ⟨_, by first | rfl | (simp [errW_none, errW_some] <;> rfl) | (simp [*, errW_none, errW_some] <;> rfl), by (with_reducible repeat (first | apply Kd.S_alloc | apply Kd.S_drewN | apply Kd.S_drew)); exact HO274.out, by exact HB.out⟩
 ·replace c3 := Bool.eq_false_iff.mpr c3
  subst c3
  have H1 : (some (([] : List (S74)), false)) = some (r1, r2) := by rw [if_neg (show ¬ (false = true) by decide)] at H; exact H
  clear H
  have H := H1
  clear H1
  simp only [Option.some.injEq, Prod.mk.injEq] at H
  obtain ⟨rfl, rfl⟩ := H
  go_enter Try.func19, Try.ntmps19
  go_wp2_with (first | ((with_reducible refine gate_callee (f := 57) rfl ?_); refine goesL_ (some 5) rfl rfl Try.func57 (by kernel_rfl) rfl #[.slice A0 l0.length c0] rfl (by simp only [List.map_toArray, List.map_cons, List.map_nil] <;> rfl) ?_; (with_reducible refine (impl_arePairs.calls k _ _ l0 false _ ?side1 ?side2 A2.out).mono ?_); (case side1 => repeat (first | exact HR0.out | (with_reducible refine Kd.C_alloc ?_ _) | (with_reducible refine Kd.C_drewN ?_ _) | (with_reducible refine Kd.C_drew ?_))); (case side2 => exact HC0.out); rintro e w7 ⟨rfl, hb⟩; refine ⟨_, rfl, ?_⟩; have n0_ := Aside0.mk (below_step HB.out hb); clear HB; have HB := n0_; clear n0_; (try clear hb); (try clear hk); (try clear hi)))
  go_ret2
  exact ⟨_, by first | rfl | (simp [errW_none, errW_some] <;> rfl) | (simp [*, errW_none, errW_some] <;> rfl), by first | exact Kd.S_nil _ _ _ _ _ | exact Kd.N_nil _ _ _ _ _ | exact Kd.V_nil _ _ _ _ _ | exact Kd.Q_nil _ _ _ _ _ | exact Kd.R_nil _ _ _ _ _, by exact HB.out⟩
/-! ### slices_Clone_int_int: function 63 -/
def slices_Clone_int_int.f (l0 : List (Int)) : Option (List (Int)) := if l0.length < 1000000000000 then some l0 else none
set_option maxHeartbeats 8000000 in
set_option maxRecDepth 100000 in
theorem slices_Clone_int_int.calls (A0 : Option Addr) (c0 : Nat) (l0 : List (Int)) (r : List (Int)) (w : World) (hr0 : Kd.C (Kd.int .i64) w A0 l0.length l0) (hc0 : l0.length ≤ c0) (h : slices_Clone_int_int.f l0 = some r) :
  Calls Try.prog 63 #[.slice A0 l0.length c0] w fun e w' => ∃ v0_ : Value, e = .returned (v0_) ∧ Kd.R (Kd.int .i64) 3 w' w.heap.size (fun _ => True) v0_ r ∧ Below w.heap.size w w' := by
 have q70 : ∀ (w : World) (a : Option Addr) (n c n' c' : Nat), (binOp .eql 39 (.slice a n c) (.slice none n' c')).run Try.prog w = .ok (.bool a.isNone) w := fun w a n c n' c' => Lib.run_eql_slice_nil w _ _ a n c n' c' Try.underlying39
 unfold slices_Clone_int_int.f at h
 by_cases hl : l0.length < 1000000000000
 ·rw [if_pos hl] at h
  obtain rfl := Option.some.inj h
  have HR0 := Aside0.mk hr0
  have HL := Aside0.mk hl
  have HB := Aside0.mk (Below.refl w.heap.size w)
  clear hl h hc0
  cases A0 with
  | none =>
   have hz : l0.length = 0 := by
    rcases Nat.eq_zero_or_pos l0.length with h | h
    ·exact h
    ·obtain ⟨ad, e, _⟩ := hr0.2.2 h
     cases e
   obtain rfl : l0 = [] := List.eq_nil_of_length_eq_zero hz
   clear hz hr0
   go_enter Try.func63, Try.ntmps63
   go_wp2
   go_ret
   exact ⟨_, rfl, Kd.R_nil _ _ _ _ _, HB.out⟩
  | some ad =>
   clear hr0
   go_enter Try.func63, Try.ntmps63
   go_wp2_with (first | ((with_reducible refine gate_dst (N := 5) rfl ?_); (try (refine gate_guard (by rfl) ?_; dsimp only)); refine Kd.R_lit (Kd.int .i64) _ 3 ?hg (N := 5) ?hd (xs := ([] : List (Int))) (inner := []) (ok := fun _ => True) (okp := fun _ => True) ?hr ?hp (fun _ hk => hk) trivial (Below.refl _ _) (Nat.le_refl _) (by simp) ?_; (case hd => rfl); (case hg => rfl); (case hr => go_simp); (case hp => exact (Reps.none _ _)); intro v1 w1 ho hb hg_ hnew_; clear hg_ hnew_; have n0_ := Aside0.mk (Kd.R_lower ho (below_size HB.out)); have n1_ := Aside0.mk (below_step HB.out hb); clear HB ho hb; have HO := n0_; have HB := n1_; clear n0_ n1_) | ((with_reducible refine gate_builtin (b := .append) (xs := #[.tmp 5, .tmp 6]) rfl ?_); (try (refine gate_guard (by rfl) ?_; dsimp only)); at_builtin; refine Kd.R_append_rows (Kd.int .i64) (w0 := w) w.heap.size rfl (.tmp 5) (.tmp 6) 39 3 (.int .i64 0) 8 rfl Try.underlying39 info3 rfl (by decide) (by omega) v1 [] l0 _ _ _ (fun _ => True) (fun _ => False) rfl rfl ?aO ?aR (fun _ _ h => h) (fun _ h => h.elim) ?aF ?aB ?aS ?aL ?_; (case aR => exact Kd.C_below HR0.out HB.out); (case aB => exact HB.out); (case aF => exact (fun _ _ => trivial)); (case aO => exact HO.out); (case aS => exact (below_size HB.out)); (case aL => have := HL.out; simp; omega); intro v2 w2 ho hb hg hat; have n0_ := Aside0.mk hb; have n1_ := Aside0.mk ho; clear HB HO ho hb hg hat; have HB := n0_; have HO := n1_; clear n0_ n1_))
   go_ret
   exact ⟨_, rfl, by simpa using HO.out, HB.out⟩
 ·rw [if_neg hl] at h
  cases h
end
end Go.Proofs.Ytkkphbjemnifiaa.PFnIndex
