-- Printed for this claim by a changed copy of the kit's printing program (wip/tools/patch_print.py); Lean checks it.
import Derived.Test.YtkkphbjemnifiaaPFnExactPairsInx0
import Derived.Test.YtkkphbjemnifiaaPFnExactPairsInx2
import Derived.Test.YtkkphbjemnifiaaPFnExactPairsInx6
import Derived.Test.YtkkphbjemnifiaaPFnExactPairsInx9
import Derived.Test.YtkkphbjemnifiaaPFnExactPairsInx10
import Derived.Test.YtkkphbjemnifiaaPFnExactPairsInx11
namespace Go.Proofs.Ytkkphbjemnifiaa.PFnExactPairsIn
open Go.RowKit Go.Proofs.YtkkphbjemnifiaaW.PrintWords Go.Proofs.YtkkphbjemnifiaaW.PrintLast Go.Proofs.YtkkphbjemnifiaaW.PrintMore
attribute [local go_sem] max2_int min2_int max_two min_two max_three min_three max_four min_four   -- for this text's walks alone
set_option linter.unusedVariables false
set_option linter.unusedSimpArgs false

noncomputable section
/-! ### laws_heldPairS: function 31 -/
def laws_heldPairS.l0 : Nat → List (S51) → Int → Int → Option (Int)
  | 0, _, _, _ => none
  | k + 1, x0, x1, x5 => if x5 < (x0.length : Int) then (if 0 ≤ x5 then ((laws_markText.f k x1).bind fun t322 => (if ((rd_T51 x0 x5).f0).toList = t322.toList then (if ((rd_T51 x0 x5).f1) = (wrap64 (x1 + 1)) then (laws_heldPairS.l0 k x0 (wrap64 ((wrap64 (x1 + 1)) + 1)) (wrap64 (x5 + 1))) else (some (-1))) else (some (-1)))) else (none)) else (some x1)
def laws_heldPairS.f (k : Nat) (l0 : List (S51)) (a1 : Int) : Option (Int) := laws_heldPairS.l0 k l0 a1 0
theorem laws_heldPairS.mono_l : ∀ k, (∀ y0 y1 y2, LeO (laws_heldPairS.l0 k y0 y1 y2) (laws_heldPairS.l0 (k + 1) y0 y1 y2))
  | 0 => fun _ _ _ r h => by simp [laws_heldPairS.l0] at h
  | k + 1 => by
    have ih0 := laws_heldPairS.mono_l k
    · intro y0 y1 y2
      unfold laws_heldPairS.l0
      repeat' first
      | (with_reducible exact ih0 _ _ _)
      | (with_reducible exact laws_markText.mono _ _)
      | (with_reducible exact LeO.refl _)
      | (with_reducible exact LeO.none _)
      | (with_reducible refine LeO.ite ?_ ?_)
      | (with_reducible refine LeO.bind ?_ (fun _ => ?_))
      | exact ih0 _ _ _
      | exact laws_markText.mono _ _
      | exact LeO.none _
      | refine LeO.ite ?_ ?_
      | refine LeO.bind ?_ (fun _ => ?_)
theorem laws_heldPairS.mono : ∀ a0 a1 k, LeO (laws_heldPairS.f k a0 a1) (laws_heldPairS.f (k + 1) a0 a1) := by
  intro a0 a1 k
  have ih0 := laws_heldPairS.mono_l k
  unfold laws_heldPairS.f
  repeat' first
      | (with_reducible exact ih0 _ _ _)
      | (with_reducible exact laws_markText.mono _ _)
      | (with_reducible exact LeO.refl _)
      | (with_reducible exact LeO.none _)
      | (with_reducible refine LeO.ite ?_ ?_)
      | (with_reducible refine LeO.bind ?_ (fun _ => ?_))
      | exact ih0 _ _ _
      | exact laws_markText.mono _ _
      | exact LeO.none _
      | refine LeO.ite ?_ ?_
      | refine LeO.bind ?_ (fun _ => ?_)
def laws_heldPairS.T4 : Bool × List (List Nat × List Nat) := (true, [([], []), ([], []), ([0, 1], [0, 1]), ([2], [2]), ([3], [3]), ([], []), ([5], [5]), ([4, 6], [4, 6])])
def laws_heldPairS.B4 : List Nat := [0, 0, 3, 7, 15, 0, 32, 127]
theorem laws_heldPairS.tab4 : rtab .any (opsOf Try.f31 4) = laws_heldPairS.T4 := by kernel_rfl
theorem laws_heldPairS.bits4 : waitsOk laws_heldPairS.T4.2 laws_heldPairS.B4 = true := by kernel_rfl
set_option maxHeartbeats 8000000 in
set_option maxRecDepth 100000 in
theorem laws_heldPairS.calls (k : Nat) (A0 : Option Addr) (c0 : Nat) (l0 : List (S51)) (a1 : Int) (r : Int) (w : World) (hr0 : Kd.C k51 w A0 l0.length l0) (hc0 : l0.length ≤ c0) (h : laws_heldPairS.f k l0 a1 = some r) :
    Calls Try.prog 31 #[.slice A0 l0.length c0, .int .i64 a1] w fun e w' => e = .returned (.int .i64 r) ∧ Below w.heap.size w w' := by
  have HR0 := Aside0.mk hr0
  have HC0 := Aside0.mk hc0
  clear hr0 hc0
  have HB := Aside0.mk (Below.refl w.heap.size w)
  have H : (laws_heldPairS.l0 k l0 a1 0) = some r := h
  clear h
  have H' := Aside0.mk H
  clear H
  go_enter Try.func31, Try.ntmps31
  go_wp2
  go_loopg [1, 5] k (fun kq v1 v5 w' => ∃ (x1_1 : Int) (x5_1 : Int), v1 = .int .i64 x1_1 ∧ v5 = .int .i64 x5_1 ∧ Aside0 (laws_heldPairS.l0 kq l0 x1_1 x5_1 = some r) ∧ Aside0 (kq ≤ k) ∧ Aside0 (Below w.heap.size w w'))
  case atStart => exact ⟨(a1), (0), (by first | rfl | (simp; done) | (simp [*]; done) | (simp; apply Bool.eq_iff_iff.mpr; simp only [bne_iff_ne, ne_eq, beq_iff_eq]; omega)), (by first | rfl | (simp; done) | (simp [*]; done) | (simp; apply Bool.eq_iff_iff.mpr; simp only [bne_iff_ne, ne_eq, beq_iff_eq]; omega)), H', ⟨Nat.le_refl _⟩, ⟨by repeat (first | (with_reducible first | exact HB.out | apply below_alloc | apply pw_below_drewN | apply below_drew1) | exact HB.out)⟩⟩
  case round =>
    clear H'
    try clear p2
    obtain ⟨x1_1, x5_1, rfl, rfl, HA, HK1, HB⟩ := hrel
    cases gk with
    | zero => exact absurd HA.out (by simp [laws_heldPairS.l0])
    | succ k1 =>
      have H := HA.out
      clear HA
      simp only [laws_heldPairS.l0] at H
      by_cases c3 : x5_1 < (l0.length : Int)
      · rw [if_pos c3] at H
        have c3b0 : decide (x5_1 < (l0.length : Int)) = true := decide_eq_true c3
        clear c3
        by_cases c4 : 0 ≤ x5_1
        · rw [if_pos c4] at H
          have c4b0 : decide (0 ≤ x5_1) = true := decide_eq_true c4
          clear c4
          replace H := Option.bind_eq_some_iff.mp H
          obtain ⟨t322, A50, H⟩ := H
          replace H : (if ((rd_T51 l0 x5_1).f0).toList = t322.toList then (if ((rd_T51 l0 x5_1).f1) = (wrap64 (x1_1 + 1)) then (laws_heldPairS.l0 k1 l0 (wrap64 ((wrap64 (x1_1 + 1)) + 1)) (wrap64 (x5_1 + 1))) else (some (-1))) else (some (-1))) = some r := H
          have A5 := Aside0.mk A50
          clear A50
          by_cases c6 : ((rd_T51 l0 x5_1).f0).toList = t322.toList
          · rw [if_pos c6] at H
            have c6b0 : (((rd_T51 l0 x5_1).f0).toList == t322.toList) = true := beq_iff_eq.mpr c6
            have c6b1 : (((rd_T51 l0 x5_1).f0).toList != t322.toList) = false := bne_eq_false_iff_eq.mpr c6
            clear c6
            by_cases c7 : ((rd_T51 l0 x5_1).f1) = (wrap64 (x1_1 + 1))
            · rw [if_pos c7] at H
              have c7b0 : (((rd_T51 l0 x5_1).f1) == (wrap64 (x1_1 + 1))) = true := beq_iff_eq.mpr c7
              have c7b1 : (((rd_T51 l0 x5_1).f1) != (wrap64 (x1_1 + 1))) = false := bne_eq_false_iff_eq.mpr c7
              clear c7
              have H' := Aside0.mk H
              clear H
              try go_wp2
              have n0_ := Aside0.mk (below_drew1 HB.out)
              clear HB
              have HB := n0_
              clear n0_
              have p321 : 0 ≤ (x5_1 : Int) := of_decide_eq_true (by first | (with_reducible assumption) | assumption)
              have q321 : x5_1 < (l0.length : Int) := of_decide_eq_true (by first | (with_reducible assumption) | assumption)
              obtain ⟨ad321, e321, hx321_0, hx321_1⟩ := at_T51 HR0.out x5_1 p321 q321
              have hw321_1 := hx321_1
              have hw321_0 := hx321_0
              cases e321
              replace hx321_0 := (HB.out.cell (World.block_lt_of_cell? w _ hx321_0)).trans hx321_0
              replace hx321_1 := (HB.out.cell (World.block_lt_of_cell? w _ hx321_1)).trans hx321_1
              replace p321 := eq_true p321
              replace q321 := eq_true q321
              refine start_ (n := 8) (S := fun w' => w'.cell? (ad321.add ((x5_1).toNat * 2)) = some (.string ((rd_T51 l0 x5_1).f0)) ∧ w'.cell? ⟨(ad321.add ((x5_1).toNat * 2)).block, (ad321.add ((x5_1).toNat * 2)).off + 1, none⟩ = some (.int .i64 ((rd_T51 l0 x5_1).f1))) (ds := []) #[false, false, false, false, false, false, false, false] (by kernel_rfl) rfl rfl ⟨((HB.out.cell (World.block_lt_of_cell? w _ hw321_0)).trans hw321_0), ((HB.out.cell (World.block_lt_of_cell? w _ hw321_1)).trans hw321_1)⟩ (fun hHeld => ?_); refine with_tabW laws_heldPairS.tab4 laws_heldPairS.bits4 (fun HT_ HW_ => ?_)
              generalize wr.drew = w8 at HB hx321_0 hx321_1 hHeld ⊢
              refine pure_ (i := 0) (N := some 12) (v := ?_) (a' := ?_) #[true, false, false, false, false, false, false, false] rfl rfl (any_of HT_.out (by kernel_rfl)) (fun _ _ _ h => h) (Or.inl ⟨by rfl, ?_⟩) ?_ ?_
              rotate_left
              · intro w'
                go_simp
                with_reducible rfl
              rotate_left
              · simp only [Act.put, List.setIfInBounds_toArray, List.set_cons_zero, List.set_cons_succ, i64_w, i32_w]
                rfl
              refine pure_ (i := 1) (N := some 13) (v := ?_) (a' := ?_) #[true, true, false, false, false, false, false, false] rfl rfl (any_of HT_.out (by kernel_rfl)) (fun _ _ _ h => h) (Or.inl ⟨by rfl, ?_⟩) ?_ ?_
              rotate_left
              · intro w'
                go_simp
                with_reducible rfl
              rotate_left
              · simp only [Act.put, List.setIfInBounds_toArray, List.set_cons_zero, List.set_cons_succ, i64_w, i32_w]
                rfl
              refine pure_ (i := 2) (N := some 14) (v := ?_) (a' := ?_) #[true, true, true, false, false, false, false, false] rfl rfl (any_of HT_.out (by kernel_rfl)) (fun _ _ _ h => h) (Or.inl ⟨by rfl, ?_⟩) ?_ ?_
              rotate_left
              · intro w'
                go_simp
                with_reducible rfl
              rotate_left
              · simp only [Act.put, List.setIfInBounds_toArray, List.set_cons_zero, List.set_cons_succ, i64_w, i32_w]
                rfl
              refine pure_ (i := 3) (N := some 15) (v := ?_) (a' := ?_) #[true, true, true, true, false, false, false, false] rfl rfl (any_of HT_.out (by kernel_rfl)) (fun _ _ _ h => h) (Or.inl ⟨by rfl, ?_⟩) ?_ ?_
              rotate_left
              · intro w'
                go_simp
                with_reducible rfl
              rotate_left
              · simp only [Act.put, List.setIfInBounds_toArray, List.set_cons_zero, List.set_cons_succ, i64_w, i32_w]
                rfl
              refine pure_ (i := 5) (N := some 17) (v := ?_) (a' := ?_) #[true, true, true, true, false, true, false, false] rfl rfl (any_of HT_.out (by kernel_rfl)) (fun _ _ _ h => h) (Or.inl ⟨by rfl, ?_⟩) ?_ ?_
              rotate_left
              · intro w'
                go_simp
                with_reducible rfl
              rotate_left
              · simp only [Act.put, List.setIfInBounds_toArray, List.set_cons_zero, List.set_cons_succ, i64_w, i32_w]
                rfl
              refine take_ (i := 4) (N := some 16) (v := ?_) (a' := ?_) #[true, true, true, true, true, true, false, false] rfl rfl (take_ofW HT_.out HW_.out (by kernel_rfl)) (fun _ _ _ h => h) (Or.inl ⟨by rfl, ?_⟩) hHeld ?_ ?_
              rotate_left
              · rintro w' ⟨s0, s1⟩
                go_simp
                with_reducible rfl
              rotate_left
              · simp only [Act.put, List.setIfInBounds_toArray, List.set_cons_zero, List.set_cons_succ, i64_w, i32_w]
                rfl
              refine one_ (i := 6) (N := some 18) #[true, true, true, true, true, true, true, false] rfl rfl (one_of HT_.out (by kernel_rfl)) (by decide) (fun K hK => ?_)
              refine goes_ Try.func60 (by kernel_rfl) rfl #[.int .i64 x1_1] (by rfl) rfl rfl (by (try simp only [List.map_toArray, List.map_cons, List.map_nil]); first | done | rfl | (simp only [List.length_drop, List.length_take]; rfl)) ?_
              with_reducible refine (laws_markText.calls k1 x1_1 t322 _ A5.out).mono ?_
              rintro e w9 ⟨rfl, hb⟩
              refine ⟨_, rfl, ?_⟩
              have n0_ := Aside0.mk (below_step (by repeat (first | (with_reducible first | exact HB.out | apply below_alloc | apply pw_below_drewN | apply below_drew1) | exact HB.out)) hb)
              clear HB
              have HB := n0_
              clear n0_
              (try clear hb)
              (try clear hb2)
              (try clear hk)
              (try clear hi)
              refine hK.out _ _ ⟨((HB.out.cell (World.block_lt_of_cell? w _ hw321_0)).trans hw321_0), ((HB.out.cell (World.block_lt_of_cell? w _ hw321_1)).trans hw321_1)⟩ (fun hHeld => ?_)
              clear hK K
              refine norm_ (a' := ?_) ?_ ?_
              rotate_left
              · show Act.put _ (some 18) _ = _
                simp only [Act.put, List.setIfInBounds_toArray, List.set_cons_zero, List.set_cons_succ, i64_w, i32_w]
                rfl
              refine pure_ (i := 7) (N := some 19) (v := ?_) (a' := ?_) #[true, true, true, true, true, true, true, true] rfl rfl (any_of HT_.out (by kernel_rfl)) (fun _ _ _ h => h) (Or.inl ⟨by rfl, ?_⟩) ?_ ?_
              rotate_left
              · intro w'
                go_simp
                with_reducible rfl
              rotate_left
              · simp only [Act.put, List.setIfInBounds_toArray, List.set_cons_zero, List.set_cons_succ, i64_w, i32_w]
                rfl
              refine done_ (done_of HT_.out (by kernel_rfl)) ?_
              have p323 : 0 ≤ (x5_1 : Int) := of_decide_eq_true (by first | (with_reducible assumption) | assumption)
              have q323 : x5_1 < (l0.length : Int) := of_decide_eq_true (by first | (with_reducible assumption) | assumption)
              obtain ⟨ad323, e323, hx323_0, hx323_1⟩ := at_T51 HR0.out x5_1 p323 q323
              obtain rfl : ad321 = ad323 := (by injection e323)
              replace hx323_0 := (HB.out.cell (World.block_lt_of_cell? w _ hx323_0)).trans hx323_0
              replace hx323_1 := (HB.out.cell (World.block_lt_of_cell? w _ hx323_1)).trans hx323_1
              replace p323 := eq_true p323
              replace q323 := eq_true q323
              try go_wp2
              go_roundg k1
              case measure => have := HK1.out; omega
              case rel => exact ⟨(wrap64 ((wrap64 (x1_1 + 1)) + 1)), (wrap64 (x5_1 + 1)), (by first | rfl | (simp; done) | (simp [*]; done) | (simp; apply Bool.eq_iff_iff.mpr; simp only [bne_iff_ne, ne_eq, beq_iff_eq]; omega)), (by first | rfl | (simp; done) | (simp [*]; done) | (simp; apply Bool.eq_iff_iff.mpr; simp only [bne_iff_ne, ne_eq, beq_iff_eq]; omega)), H', ⟨by have := HK1.out; omega⟩, ⟨by repeat (first | (with_reducible first | exact HB.out | apply below_alloc | apply pw_below_drewN | apply below_drew1) | exact HB.out)⟩⟩
            · rw [if_neg c7] at H
              have c7b0 : (((rd_T51 l0 x5_1).f1) == (wrap64 (x1_1 + 1))) = false := beq_eq_false_iff_ne.mpr c7
              have c7b1 : (((rd_T51 l0 x5_1).f1) != (wrap64 (x1_1 + 1))) = true := bne_iff_ne.mpr c7
              obtain rfl := Option.some.inj H
              try go_wp2
              have n0_ := Aside0.mk (below_drew1 HB.out)
              clear HB
              have HB := n0_
              clear n0_
              have p321 : 0 ≤ (x5_1 : Int) := of_decide_eq_true (by first | (with_reducible assumption) | assumption)
              have q321 : x5_1 < (l0.length : Int) := of_decide_eq_true (by first | (with_reducible assumption) | assumption)
              obtain ⟨ad321, e321, hx321_0, hx321_1⟩ := at_T51 HR0.out x5_1 p321 q321
              have hw321_1 := hx321_1
              have hw321_0 := hx321_0
              cases e321
              replace hx321_0 := (HB.out.cell (World.block_lt_of_cell? w _ hx321_0)).trans hx321_0
              replace hx321_1 := (HB.out.cell (World.block_lt_of_cell? w _ hx321_1)).trans hx321_1
              replace p321 := eq_true p321
              replace q321 := eq_true q321
              refine start_ (n := 8) (S := fun w' => w'.cell? (ad321.add ((x5_1).toNat * 2)) = some (.string ((rd_T51 l0 x5_1).f0)) ∧ w'.cell? ⟨(ad321.add ((x5_1).toNat * 2)).block, (ad321.add ((x5_1).toNat * 2)).off + 1, none⟩ = some (.int .i64 ((rd_T51 l0 x5_1).f1))) (ds := []) #[false, false, false, false, false, false, false, false] (by kernel_rfl) rfl rfl ⟨((HB.out.cell (World.block_lt_of_cell? w _ hw321_0)).trans hw321_0), ((HB.out.cell (World.block_lt_of_cell? w _ hw321_1)).trans hw321_1)⟩ (fun hHeld => ?_); refine with_tabW laws_heldPairS.tab4 laws_heldPairS.bits4 (fun HT_ HW_ => ?_)
              generalize wr.drew = w10 at HB hx321_0 hx321_1 hHeld ⊢
              refine pure_ (i := 0) (N := some 12) (v := ?_) (a' := ?_) #[true, false, false, false, false, false, false, false] rfl rfl (any_of HT_.out (by kernel_rfl)) (fun _ _ _ h => h) (Or.inl ⟨by rfl, ?_⟩) ?_ ?_
              rotate_left
              · intro w'
                go_simp
                with_reducible rfl
              rotate_left
              · simp only [Act.put, List.setIfInBounds_toArray, List.set_cons_zero, List.set_cons_succ, i64_w, i32_w]
                rfl
              refine pure_ (i := 1) (N := some 13) (v := ?_) (a' := ?_) #[true, true, false, false, false, false, false, false] rfl rfl (any_of HT_.out (by kernel_rfl)) (fun _ _ _ h => h) (Or.inl ⟨by rfl, ?_⟩) ?_ ?_
              rotate_left
              · intro w'
                go_simp
                with_reducible rfl
              rotate_left
              · simp only [Act.put, List.setIfInBounds_toArray, List.set_cons_zero, List.set_cons_succ, i64_w, i32_w]
                rfl
              refine pure_ (i := 2) (N := some 14) (v := ?_) (a' := ?_) #[true, true, true, false, false, false, false, false] rfl rfl (any_of HT_.out (by kernel_rfl)) (fun _ _ _ h => h) (Or.inl ⟨by rfl, ?_⟩) ?_ ?_
              rotate_left
              · intro w'
                go_simp
                with_reducible rfl
              rotate_left
              · simp only [Act.put, List.setIfInBounds_toArray, List.set_cons_zero, List.set_cons_succ, i64_w, i32_w]
                rfl
              refine pure_ (i := 3) (N := some 15) (v := ?_) (a' := ?_) #[true, true, true, true, false, false, false, false] rfl rfl (any_of HT_.out (by kernel_rfl)) (fun _ _ _ h => h) (Or.inl ⟨by rfl, ?_⟩) ?_ ?_
              rotate_left
              · intro w'
                go_simp
                with_reducible rfl
              rotate_left
              · simp only [Act.put, List.setIfInBounds_toArray, List.set_cons_zero, List.set_cons_succ, i64_w, i32_w]
                rfl
              refine pure_ (i := 5) (N := some 17) (v := ?_) (a' := ?_) #[true, true, true, true, false, true, false, false] rfl rfl (any_of HT_.out (by kernel_rfl)) (fun _ _ _ h => h) (Or.inl ⟨by rfl, ?_⟩) ?_ ?_
              rotate_left
              · intro w'
                go_simp
                with_reducible rfl
              rotate_left
              · simp only [Act.put, List.setIfInBounds_toArray, List.set_cons_zero, List.set_cons_succ, i64_w, i32_w]
                rfl
              refine take_ (i := 4) (N := some 16) (v := ?_) (a' := ?_) #[true, true, true, true, true, true, false, false] rfl rfl (take_ofW HT_.out HW_.out (by kernel_rfl)) (fun _ _ _ h => h) (Or.inl ⟨by rfl, ?_⟩) hHeld ?_ ?_
              rotate_left
              · rintro w' ⟨s0, s1⟩
                go_simp
                with_reducible rfl
              rotate_left
              · simp only [Act.put, List.setIfInBounds_toArray, List.set_cons_zero, List.set_cons_succ, i64_w, i32_w]
                rfl
              refine one_ (i := 6) (N := some 18) #[true, true, true, true, true, true, true, false] rfl rfl (one_of HT_.out (by kernel_rfl)) (by decide) (fun K hK => ?_)
              refine goes_ Try.func60 (by kernel_rfl) rfl #[.int .i64 x1_1] (by rfl) rfl rfl (by (try simp only [List.map_toArray, List.map_cons, List.map_nil]); first | done | rfl | (simp only [List.length_drop, List.length_take]; rfl)) ?_
              with_reducible refine (laws_markText.calls k1 x1_1 t322 _ A5.out).mono ?_
              rintro e w11 ⟨rfl, hb⟩
              refine ⟨_, rfl, ?_⟩
              have n0_ := Aside0.mk (below_step (by repeat (first | (with_reducible first | exact HB.out | apply below_alloc | apply pw_below_drewN | apply below_drew1) | exact HB.out)) hb)
              clear HB
              have HB := n0_
              clear n0_
              (try clear hb)
              (try clear hb2)
              (try clear hk)
              (try clear hi)
              refine hK.out _ _ ⟨((HB.out.cell (World.block_lt_of_cell? w _ hw321_0)).trans hw321_0), ((HB.out.cell (World.block_lt_of_cell? w _ hw321_1)).trans hw321_1)⟩ (fun hHeld => ?_)
              clear hK K
              refine norm_ (a' := ?_) ?_ ?_
              rotate_left
              · show Act.put _ (some 18) _ = _
                simp only [Act.put, List.setIfInBounds_toArray, List.set_cons_zero, List.set_cons_succ, i64_w, i32_w]
                rfl
              refine pure_ (i := 7) (N := some 19) (v := ?_) (a' := ?_) #[true, true, true, true, true, true, true, true] rfl rfl (any_of HT_.out (by kernel_rfl)) (fun _ _ _ h => h) (Or.inl ⟨by rfl, ?_⟩) ?_ ?_
              rotate_left
              · intro w'
                go_simp
                with_reducible rfl
              rotate_left
              · simp only [Act.put, List.setIfInBounds_toArray, List.set_cons_zero, List.set_cons_succ, i64_w, i32_w]
                rfl
              refine done_ (done_of HT_.out (by kernel_rfl)) ?_
              have p323 : 0 ≤ (x5_1 : Int) := of_decide_eq_true (by first | (with_reducible assumption) | assumption)
              have q323 : x5_1 < (l0.length : Int) := of_decide_eq_true (by first | (with_reducible assumption) | assumption)
              obtain ⟨ad323, e323, hx323_0, hx323_1⟩ := at_T51 HR0.out x5_1 p323 q323
              obtain rfl : ad321 = ad323 := (by injection e323)
              replace hx323_0 := (HB.out.cell (World.block_lt_of_cell? w _ hx323_0)).trans hx323_0
              replace hx323_1 := (HB.out.cell (World.block_lt_of_cell? w _ hx323_1)).trans hx323_1
              replace p323 := eq_true p323
              replace q323 := eq_true q323
              try go_wp2
              go_ret
              exact ⟨by first | rfl | (simp [errW_none, errW_some] <;> rfl) | (simp [*, errW_none, errW_some] <;> rfl), by repeat (first | (with_reducible first | exact HB.out | apply below_alloc | apply pw_below_drewN | apply below_drew1) | exact HB.out)⟩
          · rw [if_neg c6] at H
            have c6b0 : (((rd_T51 l0 x5_1).f0).toList == t322.toList) = false := beq_eq_false_iff_ne.mpr c6
            have c6b1 : (((rd_T51 l0 x5_1).f0).toList != t322.toList) = true := bne_iff_ne.mpr c6
            obtain rfl := Option.some.inj H
            try go_wp2
            have n0_ := Aside0.mk (below_drew1 HB.out)
            clear HB
            have HB := n0_
            clear n0_
            have p321 : 0 ≤ (x5_1 : Int) := of_decide_eq_true (by first | (with_reducible assumption) | assumption)
            have q321 : x5_1 < (l0.length : Int) := of_decide_eq_true (by first | (with_reducible assumption) | assumption)
            obtain ⟨ad321, e321, hx321_0, hx321_1⟩ := at_T51 HR0.out x5_1 p321 q321
            have hw321_1 := hx321_1
            have hw321_0 := hx321_0
            cases e321
            replace hx321_0 := (HB.out.cell (World.block_lt_of_cell? w _ hx321_0)).trans hx321_0
            replace hx321_1 := (HB.out.cell (World.block_lt_of_cell? w _ hx321_1)).trans hx321_1
            replace p321 := eq_true p321
            replace q321 := eq_true q321
            refine start_ (n := 8) (S := fun w' => w'.cell? (ad321.add ((x5_1).toNat * 2)) = some (.string ((rd_T51 l0 x5_1).f0)) ∧ w'.cell? ⟨(ad321.add ((x5_1).toNat * 2)).block, (ad321.add ((x5_1).toNat * 2)).off + 1, none⟩ = some (.int .i64 ((rd_T51 l0 x5_1).f1))) (ds := []) #[false, false, false, false, false, false, false, false] (by kernel_rfl) rfl rfl ⟨((HB.out.cell (World.block_lt_of_cell? w _ hw321_0)).trans hw321_0), ((HB.out.cell (World.block_lt_of_cell? w _ hw321_1)).trans hw321_1)⟩ (fun hHeld => ?_); refine with_tabW laws_heldPairS.tab4 laws_heldPairS.bits4 (fun HT_ HW_ => ?_)
            generalize wr.drew = w12 at HB hx321_0 hx321_1 hHeld ⊢
            refine pure_ (i := 0) (N := some 12) (v := ?_) (a' := ?_) #[true, false, false, false, false, false, false, false] rfl rfl (any_of HT_.out (by kernel_rfl)) (fun _ _ _ h => h) (Or.inl ⟨by rfl, ?_⟩) ?_ ?_
            rotate_left
            · intro w'
              go_simp
              with_reducible rfl
            rotate_left
            · simp only [Act.put, List.setIfInBounds_toArray, List.set_cons_zero, List.set_cons_succ, i64_w, i32_w]
              rfl
            refine pure_ (i := 1) (N := some 13) (v := ?_) (a' := ?_) #[true, true, false, false, false, false, false, false] rfl rfl (any_of HT_.out (by kernel_rfl)) (fun _ _ _ h => h) (Or.inl ⟨by rfl, ?_⟩) ?_ ?_
            rotate_left
            · intro w'
              go_simp
              with_reducible rfl
            rotate_left
            · simp only [Act.put, List.setIfInBounds_toArray, List.set_cons_zero, List.set_cons_succ, i64_w, i32_w]
              rfl
            refine pure_ (i := 2) (N := some 14) (v := ?_) (a' := ?_) #[true, true, true, false, false, false, false, false] rfl rfl (any_of HT_.out (by kernel_rfl)) (fun _ _ _ h => h) (Or.inl ⟨by rfl, ?_⟩) ?_ ?_
            rotate_left
            · intro w'
              go_simp
              with_reducible rfl
            rotate_left
            · simp only [Act.put, List.setIfInBounds_toArray, List.set_cons_zero, List.set_cons_succ, i64_w, i32_w]
              rfl
            refine pure_ (i := 3) (N := some 15) (v := ?_) (a' := ?_) #[true, true, true, true, false, false, false, false] rfl rfl (any_of HT_.out (by kernel_rfl)) (fun _ _ _ h => h) (Or.inl ⟨by rfl, ?_⟩) ?_ ?_
            rotate_left
            · intro w'
              go_simp
              with_reducible rfl
            rotate_left
            · simp only [Act.put, List.setIfInBounds_toArray, List.set_cons_zero, List.set_cons_succ, i64_w, i32_w]
              rfl
            refine pure_ (i := 5) (N := some 17) (v := ?_) (a' := ?_) #[true, true, true, true, false, true, false, false] rfl rfl (any_of HT_.out (by kernel_rfl)) (fun _ _ _ h => h) (Or.inl ⟨by rfl, ?_⟩) ?_ ?_
            rotate_left
            · intro w'
              go_simp
              with_reducible rfl
            rotate_left
            · simp only [Act.put, List.setIfInBounds_toArray, List.set_cons_zero, List.set_cons_succ, i64_w, i32_w]
              rfl
            refine take_ (i := 4) (N := some 16) (v := ?_) (a' := ?_) #[true, true, true, true, true, true, false, false] rfl rfl (take_ofW HT_.out HW_.out (by kernel_rfl)) (fun _ _ _ h => h) (Or.inl ⟨by rfl, ?_⟩) hHeld ?_ ?_
            rotate_left
            · rintro w' ⟨s0, s1⟩
              go_simp
              with_reducible rfl
            rotate_left
            · simp only [Act.put, List.setIfInBounds_toArray, List.set_cons_zero, List.set_cons_succ, i64_w, i32_w]
              rfl
            refine one_ (i := 6) (N := some 18) #[true, true, true, true, true, true, true, false] rfl rfl (one_of HT_.out (by kernel_rfl)) (by decide) (fun K hK => ?_)
            refine goes_ Try.func60 (by kernel_rfl) rfl #[.int .i64 x1_1] (by rfl) rfl rfl (by (try simp only [List.map_toArray, List.map_cons, List.map_nil]); first | done | rfl | (simp only [List.length_drop, List.length_take]; rfl)) ?_
            with_reducible refine (laws_markText.calls k1 x1_1 t322 _ A5.out).mono ?_
            rintro e w13 ⟨rfl, hb⟩
            refine ⟨_, rfl, ?_⟩
            have n0_ := Aside0.mk (below_step (by repeat (first | (with_reducible first | exact HB.out | apply below_alloc | apply pw_below_drewN | apply below_drew1) | exact HB.out)) hb)
            clear HB
            have HB := n0_
            clear n0_
            (try clear hb)
            (try clear hb2)
            (try clear hk)
            (try clear hi)
            refine hK.out _ _ ⟨((HB.out.cell (World.block_lt_of_cell? w _ hw321_0)).trans hw321_0), ((HB.out.cell (World.block_lt_of_cell? w _ hw321_1)).trans hw321_1)⟩ (fun hHeld => ?_)
            clear hK K
            refine norm_ (a' := ?_) ?_ ?_
            rotate_left
            · show Act.put _ (some 18) _ = _
              simp only [Act.put, List.setIfInBounds_toArray, List.set_cons_zero, List.set_cons_succ, i64_w, i32_w]
              rfl
            refine pure_ (i := 7) (N := some 19) (v := ?_) (a' := ?_) #[true, true, true, true, true, true, true, true] rfl rfl (any_of HT_.out (by kernel_rfl)) (fun _ _ _ h => h) (Or.inl ⟨by rfl, ?_⟩) ?_ ?_
            rotate_left
            · intro w'
              go_simp
              with_reducible rfl
            rotate_left
            · simp only [Act.put, List.setIfInBounds_toArray, List.set_cons_zero, List.set_cons_succ, i64_w, i32_w]
              rfl
            refine done_ (done_of HT_.out (by kernel_rfl)) ?_
            try go_wp2
            go_ret
            exact ⟨by first | rfl | (simp [errW_none, errW_some] <;> rfl) | (simp [*, errW_none, errW_some] <;> rfl), by repeat (first | (with_reducible first | exact HB.out | apply below_alloc | apply pw_below_drewN | apply below_drew1) | exact HB.out)⟩
        · rw [if_neg c4] at H
          exact absurd H (by simp)
      · rw [if_neg c3] at H
        have c3b0 : decide (x5_1 < (l0.length : Int)) = false := decide_eq_false c3
        clear c3
        obtain rfl := Option.some.inj H
        go_wp2
        go_ret
        exact ⟨by first | rfl | (simp [errW_none, errW_some] <;> rfl) | (simp [*, errW_none, errW_some] <;> rfl), by repeat (first | (with_reducible first | exact HB.out | apply below_alloc | apply pw_below_drewN | apply below_drew1) | exact HB.out)⟩

/-! ### laws_FnExactPairsIn: function 6 -/
/-! Rows of the call's own, each in a stretch of the heap. -/
def RI {α : Type} (d : Kd α) (e b lo hi : Nat) (W : World) (v : Value) (xs : List α) : Prop := d.R e W b (fun k => lo ≤ k ∧ k < hi) v xs ∧ b ≤ lo ∧ hi ≤ W.heap.size
def SI {α : Type} (d : Kd α) (e b lo hi : Nat) (W : World) (v : Value) (xs : List α) : Prop := Kd.S d e W b (fun k => lo ≤ k ∧ k < hi) v xs ∧ b ≤ lo ∧ hi ≤ W.heap.size
theorem RI.new {α : Type} {d : Kd α} {e b : Nat} {W W2 : World} {v : Value} {xs : List α} (h : d.R e W2 W.heap.size (fun _ => True) v xs) (hle : b ≤ W.heap.size) : RI d e b W.heap.size W2.heap.size W2 v xs :=
  ⟨Kd.R_lower (Kd.R_mono (Kd.R_bound h) (fun k hk => ⟨hk.2.1, hk.2.2.1⟩)) hle, hle, Nat.le_refl _⟩
theorem SI.new {α : Type} {d : Kd α} {e b : Nat} {W W2 : World} {v : Value} {xs : List α} (h : Kd.S d e W2 W.heap.size (fun _ => True) v xs) (hle : b ≤ W.heap.size) : SI d e b W.heap.size W2.heap.size W2 v xs :=
  ⟨Kd.S_lower (Kd.S_mono (Kd.S_bound h) (fun k hk => ⟨hk.2.1, hk.2.2.1⟩)) hle, hle, Nat.le_refl _⟩
theorem RI.below {α : Type} {d : Kd α} {e b lo hi : Nat} {W W2 : World} {v : Value} {xs : List α} (h : RI d e b lo hi W v xs) (hb : Below W.heap.size W W2) : RI d e b lo hi W2 v xs := ⟨Kd.R_below h.1 hb, h.2.1, Nat.le_trans h.2.2 hb.size⟩
theorem SI.below {α : Type} {d : Kd α} {e b lo hi : Nat} {W W2 : World} {v : Value} {xs : List α} (h : SI d e b lo hi W v xs) (hb : Below W.heap.size W W2) : SI d e b lo hi W2 v xs := ⟨Kd.S_below h.1 hb, h.2.1, Nat.le_trans h.2.2 hb.size⟩
theorem RI.kept {α : Type} {d : Kd α} {e b lo hi : Nat} {W W2 : World} {v : Value} {xs : List α} {P : Nat → Prop} (h : RI d e b lo hi W v xs) (hk : Kept W W2 P) (hne : ∀ k, P k → k < lo ∨ hi ≤ k) : RI d e b lo hi W2 v xs :=
  ⟨Kd.R_kept h.1 hk (fun k hk hp => by have := hne k hp; omega), h.2.1, Nat.le_trans h.2.2 hk.1⟩
theorem SI.kept {α : Type} {d : Kd α} {e b lo hi : Nat} {W W2 : World} {v : Value} {xs : List α} {P : Nat → Prop} (h : SI d e b lo hi W v xs) (hk : Kept W W2 P) (hne : ∀ k, P k → k < lo ∨ hi ≤ k) : SI d e b lo hi W2 v xs :=
  ⟨Kd.S_kept h.1 hk (fun k hk hp => by have := hne k hp; omega), h.2.1, Nat.le_trans h.2.2 hk.1⟩
theorem RI.slice {α : Type} {d : Kd α} {e b lo hi : Nat} {W : World} {v : Value} {xs : List α} (h : RI d e b lo hi W v xs) : ∃ A c, v = .slice A xs.length c := Kd.R_slice h.1
theorem SI.slice {α : Type} {d : Kd α} {e b lo hi : Nat} {W : World} {v : Value} {xs : List α} (h : SI d e b lo hi W v xs) : ∃ A c, v = .slice A xs.length c := Kd.S_slice h.1
theorem RI.reads {α : Type} {d : Kd α} {e b lo hi n c : Nat} {A : Option Addr} {W : World} {xs : List α} (h : RI d e b lo hi W (.slice A n c) xs) : n = xs.length ∧ n ≤ c ∧ d.C W A xs.length xs := Kd.R_reads' h.1
theorem SI.reads {α : Type} {d : Kd α} {e b lo hi n c : Nat} {A : Option Addr} {W : World} {xs : List α} (h : SI d e b lo hi W (.slice A n c) xs) : n = xs.length ∧ n ≤ c ∧ d.C W A xs.length xs := Kd.S_reads' h.1
theorem RI.le {α : Type} {d : Kd α} {e b lo hi n c : Nat} {A : Option Addr} {W : World} {xs : List α} (h : RI d e b lo hi W (.slice A n c) xs) : xs.length ≤ c := by have := h.reads; omega
theorem SI.le {α : Type} {d : Kd α} {e b lo hi n c : Nat} {A : Option Addr} {W : World} {xs : List α} (h : SI d e b lo hi W (.slice A n c) xs) : xs.length ≤ c := by have := h.reads; omega
/-- A row that was written over: it is told anew. -/
theorem RI.over {α : Type} {d : Kd α} {e b lo hi : Nat} {W W2 : World} {v : Value} {xs ys : List α} {ok : Nat → Prop} (hE : d.E = []) (h : RI d e b lo hi W v xs) (hr : d.R e W2 b ok v ys) (hle : W.heap.size ≤ W2.heap.size) : RI d e b lo hi W2 v ys :=
  ⟨Kd.R_reok hE hr (fun k e_ => h.1.1 k e_), h.2.1, Nat.le_trans h.2.2 hle⟩
theorem SI.over {α : Type} {d : Kd α} {e b lo hi : Nat} {W W2 : World} {v : Value} {xs ys : List α} (h : SI d e b lo hi W v xs) (hr : Kd.S d e W2 b (fun k => lo ≤ k ∧ k < hi) v ys) (hle : W.heap.size ≤ W2.heap.size) : SI d e b lo hi W2 v ys :=
  ⟨hr, h.2.1, Nat.le_trans h.2.2 hle⟩
def laws_FnExactPairsIn.f (k : Nat) (l0 : List S71) : Option Bool :=
  (laws_szForkS.f k l0 1048576).bind fun n => if n < 0 then some true else
  (laws_toForkS.f k l0).bind fun p => (spec_PairsIn.f k p).bind fun sw => (impl_PairsIn.f k p).bind fun gi =>
  (laws_eqPairS.f k gi.1 sw.1).bind fun b0 => (laws_eqForkS.f k p p).bind fun b1 => (laws_markForkS.f k p 1).bind fun mx => (laws_markPairS.f k gi.1 1).bind fun mg => (laws_heldPairS.f k mg.2 1).bind fun q =>
  if b0 = true ∧ gi.2 = sw.2 ∧ b1 = true ∧ 0 ≤ mx.1 ∧ 0 ≤ q ∧ q = mg.1 then some true else none
theorem laws_FnExactPairsIn.mono : ∀ a0 k, LeO (laws_FnExactPairsIn.f k a0) (laws_FnExactPairsIn.f (k + 1) a0) := by
  intro a0 k
  unfold laws_FnExactPairsIn.f
  refine LeO.bind (laws_szForkS.mono _ _ _) fun n => LeO.ite (LeO.refl _) ?_
  refine LeO.bind (laws_toForkS.mono _ _) fun p => LeO.bind (spec_PairsIn.mono _ _) fun sw => LeO.bind (impl_PairsIn.mono _ _) fun gi => ?_
  refine LeO.bind (laws_eqPairS.mono _ _ _) fun b0 => LeO.bind (laws_eqForkS.mono _ _ _) fun b1 => LeO.bind (laws_markForkS.mono _ _ _) fun mx => ?_
  exact LeO.bind (laws_markPairS.mono _ _ _) fun mg => LeO.bind (laws_heldPairS.mono _ _ _) fun q => LeO.refl _
set_option maxHeartbeats 16000000 in
set_option maxRecDepth 100000 in
theorem laws_FnExactPairsIn.calls (k : Nat) (A0 : Option Addr) (c0 : Nat) (l0 : List S71) (r : Bool) (w : World) (hr_ : r = true) (hr0 : Kd.C k71 w A0 l0.length l0) (hc0 : l0.length ≤ c0) (h : laws_FnExactPairsIn.f k l0 = some r) :
    Calls Try.prog 6 #[.slice A0 l0.length c0] w fun e w' => e = .returned (.bool r) ∧ Below w.heap.size w w' := by
  have hu48 := Try.underlying48
  have hu51 := Try.underlying51
  have hu74 := Try.underlying74
  subst hr_
  have HR0 := Aside0.mk hr0
  have HC0 := Aside0.mk hc0
  have HB := Aside0.mk (Below.refl w.heap.size w)
  have TOK0 : Aside0 True := ⟨trivial⟩
  clear hr0 hc0
  unfold laws_FnExactPairsIn.f at h
  obtain ⟨n, hn, h⟩ := Option.bind_eq_some_iff.mp h
  have A2 := Aside0.mk hn
  clear hn
  by_cases c3 : n < 0
  · have c3b0 : decide (n < 0) = true := decide_eq_true c3
    clear h c3
    go_enter Try.func6, Try.ntmps6
    go_wp2_with (first | (have tq_ := TOK0; clear tq_ TOK0; (with_reducible refine gate_callee (f := 11) rfl ?_); refine goesL_ (some 16) rfl rfl Try.func11 (by kernel_rfl) rfl #[.slice A0 l0.length c0, .int .i64 1048576] rfl (by (try simp only [List.map_toArray, List.map_cons, List.map_nil]); first | done | rfl) ?_; have hcall := laws_szForkS.calls k _ _ l0 1048576 n _ (Kd.C_below HR0.out HB.out) HC0.out A2.out; refine hcall.mono ?_; clear hcall; rintro e w1 ⟨rfl, hb⟩; refine ⟨_, rfl, ?_⟩; have m0_ := Aside0.mk (below_step HB.out hb); (try clear HB); have HB := m0_; clear m0_; clear hb; have TOK1 : Aside0 True := ⟨trivial⟩))
    go_ret
    exact ⟨rfl, HB.out⟩
  rw [if_neg c3] at h
  have c3b0 : decide (n < 0) = false := decide_eq_false c3
  clear c3
  obtain ⟨p, hp, h⟩ := Option.bind_eq_some_iff.mp h
  obtain ⟨⟨s1, s2⟩, hs, h⟩ := Option.bind_eq_some_iff.mp h
  obtain ⟨⟨g1, g2⟩, hg, h⟩ := Option.bind_eq_some_iff.mp h
  obtain ⟨b0, he, h⟩ := Option.bind_eq_some_iff.mp h
  obtain ⟨b1, hx, h⟩ := Option.bind_eq_some_iff.mp h
  obtain ⟨⟨m1, m2⟩, hm, h⟩ := Option.bind_eq_some_iff.mp h
  obtain ⟨⟨f1, f2⟩, hf, h⟩ := Option.bind_eq_some_iff.mp h
  obtain ⟨q, hq, h⟩ := Option.bind_eq_some_iff.mp h
  by_cases hall : b0 = true ∧ g2 = s2 ∧ b1 = true ∧ 0 ≤ m1 ∧ 0 ≤ q ∧ q = f1
  rotate_left
  · rw [if_neg hall] at h; cases h
  clear h
  obtain ⟨rfl, rfl, rfl, hm0, hq0, rfl⟩ := hall
  have ZP := Aside0.mk hp
  have ZS := Aside0.mk hs
  have ZG := Aside0.mk hg
  have ZE := Aside0.mk he
  have ZX := Aside0.mk hx
  have ZM := Aside0.mk hm
  have ZF := Aside0.mk hf
  have ZQ := Aside0.mk hq
  have hmb : decide (m1 < 0) = false := decide_eq_false (by omega)
  have hqb : decide (q < 0) = false := decide_eq_false (by omega)
  have hqq : (q != q) = false := bne_self_eq_false _
  have hn0 : (g2 != g2) = false := bne_self_eq_false _
  clear hm0 hq0 hp hs hg he hx hm hf hq
  go_enter Try.func6, Try.ntmps6
  go_wp2_with (first | (have tq_ := TOK0; clear tq_ TOK0; (with_reducible refine gate_callee (f := 11) rfl ?_); refine goesL_ (some 16) rfl rfl Try.func11 (by kernel_rfl) rfl #[.slice A0 l0.length c0, .int .i64 1048576] rfl (by (try simp only [List.map_toArray, List.map_cons, List.map_nil]); first | done | rfl) ?_; have hcall := laws_szForkS.calls k _ _ l0 1048576 n _ (Kd.C_below HR0.out HB.out) HC0.out A2.out; refine hcall.mono ?_; clear hcall; rintro e w1 ⟨rfl, hb⟩; refine ⟨_, rfl, ?_⟩; have m0_ := Aside0.mk (below_step HB.out hb); (try clear HB); have HB := m0_; clear m0_; clear hb; have TOK1 : Aside0 True := ⟨trivial⟩) | (have tq_ := TOK1; clear tq_ TOK1; (with_reducible refine gate_callee (f := 13) rfl ?_); refine goesL_ (some 21) rfl rfl Try.func13 (by kernel_rfl) rfl #[.slice A0 l0.length c0] rfl (by (try simp only [List.map_toArray, List.map_cons, List.map_nil]); first | done | rfl) ?_; have hcall := laws_toForkS.calls k _ _ l0 p _ (Kd.C_below HR0.out HB.out) HC0.out ZP.out; refine hcall.mono ?_; clear hcall; rintro e w2 ⟨v_P, rfl, ho, hb⟩; refine ⟨_, rfl, ?_⟩; have m0_ := Aside0.mk (below_step HB.out hb); have m1_ := Aside0.mk (show SI k74 74 w.heap.size w1.heap.size w2.heap.size w2 v_P p from SI.new ho (below_size HB.out)); (try clear HB); (try clear HP); have HB := m0_; have HP := m1_; clear m0_ m1_; clear hb ho; obtain ⟨A_P, c_P, rfl⟩ := HP.out.slice; have TOK2 : Aside0 True := ⟨trivial⟩) | (have tq_ := TOK2; clear tq_ TOK2; (with_reducible refine gate_callee (f := 29) rfl ?_); refine goesL_ (some 22) rfl rfl Try.func29 (by kernel_rfl) rfl #[.slice A_P p.length c_P] rfl (by (try simp only [List.map_toArray, List.map_cons, List.map_nil]); first | done | rfl) ?_; have hcall := spec_PairsIn.calls k _ _ p s1 g2 _ HP.out.reads.2.2 HP.out.le ZS.out; refine hcall.mono ?_; clear hcall; rintro e w3 ⟨v_S, rfl, ho, hb⟩; refine ⟨_, rfl, ?_⟩; have m0_ := Aside0.mk (below_step HB.out hb); have m1_ := Aside0.mk (show RI k51 51 w.heap.size w2.heap.size w3.heap.size w3 v_S s1 from RI.new ho (below_size HB.out)); (try clear HB); (try clear HS); (try clear HP); have HB := m0_; have HS := m1_; clear m0_ m1_; clear hb ho; obtain ⟨A_S, c_S, rfl⟩ := HS.out.slice; have TOK3 : Aside0 True := ⟨trivial⟩) | (have tq_ := TOK3; clear tq_ TOK3; (with_reducible refine gate_callee (f := 13) rfl ?_); refine goesL_ (some 26) rfl rfl Try.func13 (by kernel_rfl) rfl #[.slice A0 l0.length c0] rfl (by (try simp only [List.map_toArray, List.map_cons, List.map_nil]); first | done | rfl) ?_; have hcall := laws_toForkS.calls k _ _ l0 p _ (Kd.C_below HR0.out HB.out) HC0.out ZP.out; refine hcall.mono ?_; clear hcall; rintro e w4 ⟨v_X, rfl, ho, hb⟩; refine ⟨_, rfl, ?_⟩; have m0_ := Aside0.mk (below_step HB.out hb); have m1_ := Aside0.mk (HS.out.below hb); have m2_ := Aside0.mk (show SI k74 74 w.heap.size w3.heap.size w4.heap.size w4 v_X p from SI.new ho (below_size HB.out)); have m3_ := Aside0.mk (show w3.heap.size ≤ w3.heap.size from HS.out.2.2); (try clear HB); (try clear HS); (try clear HX); (try clear D_S_X); have HB := m0_; have HS := m1_; have HX := m2_; have D_S_X := m3_; clear m0_ m1_ m2_ m3_; clear hb ho; obtain ⟨A_X, c_X, rfl⟩ := HX.out.slice; have TOK4 : Aside0 True := ⟨trivial⟩) | (have tq_ := TOK4; clear tq_ TOK4; (with_reducible refine gate_callee (f := 30) rfl ?_); refine goesL_ (some 29) rfl rfl Try.func30 (by kernel_rfl) rfl #[.slice A_X p.length c_X] rfl (by (try simp only [List.map_toArray, List.map_cons, List.map_nil]); first | done | rfl) ?_; have hcall := impl_PairsIn.calls k _ _ p g1 g2 _ HX.out.reads.2.2 HX.out.le ZG.out; refine hcall.mono ?_; clear hcall; rintro e w5 ⟨v_G, rfl, ho, hb⟩; refine ⟨_, rfl, ?_⟩; have m0_ := Aside0.mk (below_step HB.out hb); have m1_ := Aside0.mk (HS.out.below hb); have m2_ := Aside0.mk (HX.out.below hb); have m3_ := Aside0.mk (show RI k51 51 w.heap.size w4.heap.size w5.heap.size w5 v_G g1 from RI.new ho (below_size HB.out)); have m4_ := Aside0.mk (show w3.heap.size ≤ w4.heap.size from HS.out.2.2); have m5_ := Aside0.mk (show w4.heap.size ≤ w4.heap.size from HX.out.2.2); (try clear HB); (try clear HS); (try clear HX); (try clear HG); (try clear D_S_G); (try clear D_X_G); have HB := m0_; have HS := m1_; have HX := m2_; have HG := m3_; have D_S_G := m4_; have D_X_G := m5_; clear m0_ m1_ m2_ m3_ m4_ m5_; clear hb ho; obtain ⟨A_G, c_G, rfl⟩ := HG.out.slice; have TOK5 : Aside0 True := ⟨trivial⟩) | (have tq_ := TOK5; clear tq_ TOK5; (with_reducible refine gate_callee (f := 20) rfl ?_); refine goesL_ (some 34) rfl rfl Try.func20 (by kernel_rfl) rfl #[.slice A_G g1.length c_G, .slice A_S s1.length c_S] rfl (by (try simp only [List.map_toArray, List.map_cons, List.map_nil]); first | done | rfl) ?_; have hcall := laws_eqPairS.calls k _ _ g1 _ _ s1 true _ HG.out.reads.2.2 HG.out.le HS.out.reads.2.2 HS.out.le ZE.out; refine hcall.mono ?_; clear hcall; rintro e w6 ⟨rfl, hb⟩; refine ⟨_, rfl, ?_⟩; have m0_ := Aside0.mk (below_step HB.out hb); have m1_ := Aside0.mk (HS.out.below hb); have m2_ := Aside0.mk (HX.out.below hb); have m3_ := Aside0.mk (HG.out.below hb); (try clear HB); (try clear HS); (try clear HX); (try clear HG); have HB := m0_; have HS := m1_; have HX := m2_; have HG := m3_; clear m0_ m1_ m2_ m3_; clear hb; have TOK6 : Aside0 True := ⟨trivial⟩) | (have tq_ := TOK6; clear tq_ TOK6; (with_reducible refine gate_callee (f := 13) rfl ?_); refine goesL_ (some 43) rfl rfl Try.func13 (by kernel_rfl) rfl #[.slice A0 l0.length c0] rfl (by (try simp only [List.map_toArray, List.map_cons, List.map_nil]); first | done | rfl) ?_; have hcall := laws_toForkS.calls k _ _ l0 p _ (Kd.C_below HR0.out HB.out) HC0.out ZP.out; refine hcall.mono ?_; clear hcall; rintro e w7 ⟨v_Y, rfl, ho, hb⟩; refine ⟨_, rfl, ?_⟩; have m0_ := Aside0.mk (below_step HB.out hb); have m1_ := Aside0.mk (HS.out.below hb); have m2_ := Aside0.mk (HX.out.below hb); have m3_ := Aside0.mk (HG.out.below hb); have m4_ := Aside0.mk (show SI k74 74 w.heap.size w6.heap.size w7.heap.size w7 v_Y p from SI.new ho (below_size HB.out)); have m5_ := Aside0.mk (show w3.heap.size ≤ w6.heap.size from HS.out.2.2); have m6_ := Aside0.mk (show w4.heap.size ≤ w6.heap.size from HX.out.2.2); have m7_ := Aside0.mk (show w5.heap.size ≤ w6.heap.size from HG.out.2.2); (try clear HB); (try clear HS); (try clear HX); (try clear HG); (try clear HY); (try clear D_S_Y); (try clear D_X_Y); (try clear D_G_Y); have HB := m0_; have HS := m1_; have HX := m2_; have HG := m3_; have HY := m4_; have D_S_Y := m5_; have D_X_Y := m6_; have D_G_Y := m7_; clear m0_ m1_ m2_ m3_ m4_ m5_ m6_ m7_; clear hb ho; obtain ⟨A_Y, c_Y, rfl⟩ := HY.out.slice; have TOK7 : Aside0 True := ⟨trivial⟩) | (have tq_ := TOK7; clear tq_ TOK7; (with_reducible refine gate_callee (f := 15) rfl ?_); refine goesL_ (some 44) rfl rfl Try.func15 (by kernel_rfl) rfl #[.slice A_X p.length c_X, .slice A_Y p.length c_Y] rfl (by (try simp only [List.map_toArray, List.map_cons, List.map_nil]); first | done | rfl) ?_; have hcall := laws_eqForkS.calls k _ _ p _ _ p true _ HX.out.reads.2.2 HX.out.le HY.out.reads.2.2 HY.out.le ZX.out; refine hcall.mono ?_; clear hcall; rintro e w8 ⟨rfl, hb⟩; refine ⟨_, rfl, ?_⟩; have m0_ := Aside0.mk (below_step HB.out hb); have m1_ := Aside0.mk (HS.out.below hb); have m2_ := Aside0.mk (HX.out.below hb); have m3_ := Aside0.mk (HG.out.below hb); (try clear HB); (try clear HS); (try clear HX); (try clear HG); (try clear HY); have HB := m0_; have HS := m1_; have HX := m2_; have HG := m3_; clear m0_ m1_ m2_ m3_; clear hb; have TOK8 : Aside0 True := ⟨trivial⟩) | (have tq_ := TOK8; clear tq_ TOK8; (with_reducible refine gate_callee (f := 22) rfl ?_); refine goesL_ (some 48) rfl rfl Try.func22 (by kernel_rfl) rfl #[.slice A_X p.length c_X, .int .i64 1] rfl (by (try simp only [List.map_toArray, List.map_cons, List.map_nil]); first | done | rfl) ?_; have hcall := laws_markForkS.run k (fun k_ => w3.heap.size ≤ k_ ∧ k_ < w4.heap.size) (.slice A_X p.length c_X) p 1 m1 m2 w _ HB.out HX.out.1 ZM.out; refine hcall.mono ?_; clear hcall; rintro e w9 ⟨rfl, hr, hb, hkp⟩; refine ⟨_, rfl, ?_⟩; have m0_ := Aside0.mk (hb); have m1_ := Aside0.mk (HS.out.kept hkp (fun k hk => .inr (Nat.le_trans D_S_X.out hk.1))); have m2_ := Aside0.mk (HX.out.over hr hkp.1); have m3_ := Aside0.mk (HG.out.kept hkp (fun k hk => .inl (Nat.lt_of_lt_of_le hk.2 D_X_G.out))); (try clear HB); (try clear HS); (try clear HX); (try clear HG); have HB := m0_; have HS := m1_; have HX := m2_; have HG := m3_; clear m0_ m1_ m2_ m3_; clear hb hr hkp; have TOK9 : Aside0 True := ⟨trivial⟩) | (have tq_ := TOK9; clear tq_ TOK9; go_at_call 20; have hcall := laws_eqPairS.calls k _ _ g1 _ _ s1 true _ HG.out.reads.2.2 HG.out.le HS.out.reads.2.2 HS.out.le ZE.out; refine hcall.mono ?_; clear hcall; rintro e w10 ⟨rfl, hb⟩; have m0_ := Aside0.mk (below_step HB.out hb); have m1_ := Aside0.mk (HS.out.below hb); have m2_ := Aside0.mk (HG.out.below hb); (try clear HB); (try clear HS); (try clear HG); (try clear HX); have HB := m0_; have HS := m1_; have HG := m2_; clear m0_ m1_ m2_; clear hb; have TOK10 : Aside0 True := ⟨trivial⟩) | (have tq_ := TOK10; clear tq_ TOK10; (with_reducible refine gate_callee (f := 21) rfl ?_); refine goesL_ (some 64) rfl rfl Try.func21 (by kernel_rfl) rfl #[.slice A_G g1.length c_G, .int .i64 1] rfl (by (try simp only [List.map_toArray, List.map_cons, List.map_nil]); first | done | rfl) ?_; have hcall := laws_markPairS.calls k (fun k_ => w4.heap.size ≤ k_ ∧ k_ < w5.heap.size) (.slice A_G g1.length c_G) g1 1 q f2 w _ HB.out HG.out.1 ZF.out; refine hcall.mono ?_; clear hcall; rintro e w11 ⟨rfl, hr, hb, hkp⟩; refine ⟨_, rfl, ?_⟩; have m0_ := Aside0.mk (hb); have m1_ := Aside0.mk (HS.out.kept hkp (fun k hk => .inr (Nat.le_trans D_S_G.out hk.1))); have m2_ := Aside0.mk (HG.out.over rfl hr hkp.1); (try clear HB); (try clear HS); (try clear HG); have HB := m0_; have HS := m1_; have HG := m2_; clear m0_ m1_ m2_; clear hb hr hkp; have TOK11 : Aside0 True := ⟨trivial⟩) | (have tq_ := TOK11; clear tq_ TOK11; (with_reducible refine gate_callee (f := 31) rfl ?_); refine goesL_ (some 67) rfl rfl Try.func31 (by kernel_rfl) rfl #[.slice A_G g1.length c_G, .int .i64 1] rfl (by (try simp only [List.map_toArray, List.map_cons, List.map_nil]); first | done | rfl) ?_; have hcall := laws_heldPairS.calls k _ _ f2 1 q _ HG.out.reads.2.2 HG.out.le ZQ.out; rw [← HG.out.reads.1] at hcall; refine hcall.mono ?_; clear hcall; rintro e w12 ⟨rfl, hb⟩; refine ⟨_, rfl, ?_⟩; have m0_ := Aside0.mk (below_step HB.out hb); have m1_ := Aside0.mk (HS.out.below hb); have m2_ := Aside0.mk (HG.out.below hb); (try clear HB); (try clear HS); (try clear HG); have HB := m0_; have HS := m1_; have HG := m2_; clear m0_ m1_ m2_; clear hb; have TOK12 : Aside0 True := ⟨trivial⟩) | (have tq_ := TOK12; clear tq_ TOK12; (with_reducible refine gate_callee (f := 13) rfl ?_); refine goesL_ (some 75) rfl rfl Try.func13 (by kernel_rfl) rfl #[.slice A0 l0.length c0] rfl (by (try simp only [List.map_toArray, List.map_cons, List.map_nil]); first | done | rfl) ?_; have hcall := laws_toForkS.calls k _ _ l0 p _ (Kd.C_below HR0.out HB.out) HC0.out ZP.out; refine hcall.mono ?_; clear hcall; rintro e w13 ⟨v_K, rfl, ho, hb⟩; refine ⟨_, rfl, ?_⟩; have m0_ := Aside0.mk (below_step HB.out hb); have m1_ := Aside0.mk (HS.out.below hb); have m2_ := Aside0.mk (HG.out.below hb); have m3_ := Aside0.mk (show SI k74 74 w.heap.size w12.heap.size w13.heap.size w13 v_K p from SI.new ho (below_size HB.out)); have m4_ := Aside0.mk (show w3.heap.size ≤ w12.heap.size from HS.out.2.2); have m5_ := Aside0.mk (show w5.heap.size ≤ w12.heap.size from HG.out.2.2); (try clear HB); (try clear HS); (try clear HG); (try clear HK); (try clear D_S_K); (try clear D_G_K); have HB := m0_; have HS := m1_; have HG := m2_; have HK := m3_; have D_S_K := m4_; have D_G_K := m5_; clear m0_ m1_ m2_ m3_ m4_ m5_; clear hb ho; obtain ⟨A_K, c_K, rfl⟩ := HK.out.slice; have TOK13 : Aside0 True := ⟨trivial⟩) | (have tq_ := TOK13; clear tq_ TOK13; (with_reducible refine gate_callee (f := 30) rfl ?_); refine goesL_ (some 76) rfl rfl Try.func30 (by kernel_rfl) rfl #[.slice A_K p.length c_K] rfl (by (try simp only [List.map_toArray, List.map_cons, List.map_nil]); first | done | rfl) ?_; have hcall := impl_PairsIn.calls k _ _ p g1 g2 _ HK.out.reads.2.2 HK.out.le ZG.out; refine hcall.mono ?_; clear hcall; rintro e w14 ⟨v_H, rfl, ho, hb⟩; refine ⟨_, rfl, ?_⟩; have m0_ := Aside0.mk (below_step HB.out hb); have m1_ := Aside0.mk (HS.out.below hb); have m2_ := Aside0.mk (HG.out.below hb); have m3_ := Aside0.mk (show RI k51 51 w.heap.size w13.heap.size w14.heap.size w14 v_H g1 from RI.new ho (below_size HB.out)); have m4_ := Aside0.mk (show w3.heap.size ≤ w13.heap.size from HS.out.2.2); have m5_ := Aside0.mk (show w5.heap.size ≤ w13.heap.size from HG.out.2.2); (try clear HB); (try clear HS); (try clear HG); (try clear HH); (try clear D_S_H); (try clear D_G_H); (try clear HK); have HB := m0_; have HS := m1_; have HG := m2_; have HH := m3_; have D_S_H := m4_; have D_G_H := m5_; clear m0_ m1_ m2_ m3_ m4_ m5_; clear hb ho; obtain ⟨A_H, c_H, rfl⟩ := HH.out.slice; have TOK14 : Aside0 True := ⟨trivial⟩) | (have tq_ := TOK14; clear tq_ TOK14; (with_reducible refine gate_callee (f := 20) rfl ?_); refine goesL_ (some 81) rfl rfl Try.func20 (by kernel_rfl) rfl #[.slice A_H g1.length c_H, .slice A_S s1.length c_S] rfl (by (try simp only [List.map_toArray, List.map_cons, List.map_nil]); first | done | rfl) ?_; have hcall := laws_eqPairS.calls k _ _ g1 _ _ s1 true _ HH.out.reads.2.2 HH.out.le HS.out.reads.2.2 HS.out.le ZE.out; refine hcall.mono ?_; clear hcall; rintro e w15 ⟨rfl, hb⟩; refine ⟨_, rfl, ?_⟩; have m0_ := Aside0.mk (below_step HB.out hb); have m1_ := Aside0.mk (HS.out.below hb); have m2_ := Aside0.mk (HG.out.below hb); (try clear HB); (try clear HS); (try clear HG); (try clear HH); have HB := m0_; have HS := m1_; have HG := m2_; clear m0_ m1_ m2_; clear hb; have TOK15 : Aside0 True := ⟨trivial⟩) | (have tq_ := TOK15; clear tq_ TOK15; (with_reducible refine gate_callee (f := 31) rfl ?_); refine goesL_ (some 90) rfl rfl Try.func31 (by kernel_rfl) rfl #[.slice A_G g1.length c_G, .int .i64 1] rfl (by (try simp only [List.map_toArray, List.map_cons, List.map_nil]); first | done | rfl) ?_; have hcall := laws_heldPairS.calls k _ _ f2 1 q _ HG.out.reads.2.2 HG.out.le ZQ.out; rw [← HG.out.reads.1] at hcall; refine hcall.mono ?_; clear hcall; rintro e w16 ⟨rfl, hb⟩; refine ⟨_, rfl, ?_⟩; have m0_ := Aside0.mk (below_step HB.out hb); have m1_ := Aside0.mk (HS.out.below hb); have m2_ := Aside0.mk (HG.out.below hb); (try clear HB); (try clear HS); (try clear HG); have HB := m0_; have HS := m1_; have HG := m2_; clear m0_ m1_ m2_; clear hb; have TOK16 : Aside0 True := ⟨trivial⟩))
  go_ret
  exact ⟨by first | rfl | (simp; done), HB.out⟩

end
end Go.Proofs.Ytkkphbjemnifiaa.PFnExactPairsIn
