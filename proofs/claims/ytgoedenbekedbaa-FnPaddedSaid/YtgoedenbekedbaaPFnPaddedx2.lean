-- Printed for this claim by a changed copy of the kit's printing program (wip/tools/patch_print.py); Lean checks it.
import Derived.Test.YtgoedenbekedbaaPFnPaddedx0
import Derived.Test.YtgoedenbekedbaaPFnPaddedx1
namespace Go.Proofs.Ytgoedenbekedbaa.PFnPadded
open Go.RowKit Go.Proofs.YtgoedenbekedbaaW.PrintWords Go.Proofs.YtgoedenbekedbaaW.PrintLast Go.Proofs.YtgoedenbekedbaaW.PrintMore
attribute [local go_sem] max2_int min2_int max_two min_two max_three min_three max_four min_four   -- for this text's walks alone
set_option linter.unusedVariables false
set_option linter.unusedSimpArgs false

noncomputable section
/-! ### spec_l1Tail: function 15 -/
mutual
def spec_l1Tail.l0 : Nat → Int → List Int → Option (ByteArray)
  | 0, _, _ => none
  | k + 1, x0, x3 => if (Int.tmod (wrap64 (x0 + (x3.length : Int))) 64) = 56 then (spec_l1Tail.l1 k x0 x3 7) else (if x3.length < 140737488355328 then (spec_l1Tail.l0 k x0 (x3 ++ [0])) else (none))
def spec_l1Tail.l1 : Nat → Int → List Int → Int → Option (ByteArray)
  | 0, _, _, _ => none
  | k + 1, x0, x3, x4 => if x4 ≥ 0 then (if 0 ≤ (IntKind.u64.wrap (wrap64 (8 * x4))) then (if x3.length < 140737488355328 then (spec_l1Tail.l1 k x0 (x3 ++ [(shr .i64 (wrap64 (8 * x0)) (IntKind.u64.wrap (wrap64 (8 * x4)))) % 256]) (wrap64 (x4 - 1))) else (none)) else (none)) else (some (strOfNums x3))
end
def spec_l1Tail.f (k : Nat) (a0 : Int) : Option (ByteArray) := spec_l1Tail.l0 k a0 (([128] : List Int))
theorem spec_l1Tail.mono_l : ∀ k, (∀ y0 y1, LeO (spec_l1Tail.l0 k y0 y1) (spec_l1Tail.l0 (k + 1) y0 y1)) ∧ (∀ y0 y1 y2, LeO (spec_l1Tail.l1 k y0 y1 y2) (spec_l1Tail.l1 (k + 1) y0 y1 y2))
  | 0 => ⟨fun _ _ r h => by simp [spec_l1Tail.l0] at h, fun _ _ _ r h => by simp [spec_l1Tail.l1] at h⟩
  | k + 1 => by
    obtain ⟨ih0, ih1⟩ := spec_l1Tail.mono_l k
    refine ⟨?_, ?_⟩
    · intro y0 y1
      unfold spec_l1Tail.l0
      repeat' first
      | (with_reducible exact ih0 _ _)
      | (with_reducible exact ih1 _ _ _)
      | (with_reducible exact LeO.refl _)
      | (with_reducible exact LeO.none _)
      | (with_reducible refine LeO.ite ?_ ?_)
      | (with_reducible refine LeO.bind ?_ (fun _ => ?_))
      | exact ih0 _ _
      | exact ih1 _ _ _
      | exact LeO.none _
      | refine LeO.ite ?_ ?_
      | refine LeO.bind ?_ (fun _ => ?_)
    · intro y0 y1 y2
      unfold spec_l1Tail.l1
      repeat' first
      | (with_reducible exact ih0 _ _)
      | (with_reducible exact ih1 _ _ _)
      | (with_reducible exact LeO.refl _)
      | (with_reducible exact LeO.none _)
      | (with_reducible refine LeO.ite ?_ ?_)
      | (with_reducible refine LeO.bind ?_ (fun _ => ?_))
      | exact ih0 _ _
      | exact ih1 _ _ _
      | exact LeO.none _
      | refine LeO.ite ?_ ?_
      | refine LeO.bind ?_ (fun _ => ?_)
theorem spec_l1Tail.mono : ∀ a0 k, LeO (spec_l1Tail.f k a0) (spec_l1Tail.f (k + 1) a0) := by
  intro a0 k
  obtain ⟨ih0, ih1⟩ := spec_l1Tail.mono_l k
  unfold spec_l1Tail.f
  repeat' first
      | (with_reducible exact ih0 _ _)
      | (with_reducible exact ih1 _ _ _)
      | (with_reducible exact LeO.refl _)
      | (with_reducible exact LeO.none _)
      | (with_reducible refine LeO.ite ?_ ?_)
      | (with_reducible refine LeO.bind ?_ (fun _ => ?_))
      | exact ih0 _ _
      | exact ih1 _ _ _
      | exact LeO.none _
      | refine LeO.ite ?_ ?_
      | refine LeO.bind ?_ (fun _ => ?_)
set_option maxHeartbeats 8000000 in
set_option maxRecDepth 100000 in
theorem spec_l1Tail.calls (k : Nat) (a0 : Int) (r : ByteArray) (w : World) (h : spec_l1Tail.f k a0 = some r) :
    Calls Try.prog 15 #[.int .i64 a0] w fun e w' => e = .returned (.string r) ∧ Below w.heap.size w w' := by
  have HB := Aside0.mk (Below.refl w.heap.size w)
  have H : (spec_l1Tail.l0 k a0 (([128] : List Int))) = some r := h
  clear h
  obtain ⟨y148, hy148⟩ : ∃ y_ : List Int, y_ = (([128] : List Int)) := ⟨_, rfl⟩
  replace H : (spec_l1Tail.l0 k a0 y148) = some r := by first | (rw [hy148]; with_reducible exact H) | (have H2_ := (Option.bind_some _ _).symm.trans H; rw [hy148]; with_reducible exact H2_) | (have H2_ := (Option.bind_some _ _).symm.trans H; with_reducible exact H2_) | with_reducible exact H | (rw [hy148]; exact H) | exact H
  have Ny148 := Aside0.mk hy148
  clear hy148
  have H' := Aside0.mk H
  clear H
  go_enter Try.func15, Try.ntmps15
  go_wp2_with (first | ((with_reducible refine gate_dst (N := 5) rfl ?_); refine Kd.R_lit (Kd.int .u8) _ 5 ?hg (N := 5) ?hd (xs := ([128] : List Int)) (inner := [.int .u8 128]) (ok := fun _ => True) (okp := fun _ => True) ?hr ?hp (fun _ hk => hk) trivial (Below.refl _ _) (Nat.le_refl _) (by simp) ?_; (case hd => rfl); (case hg => rfl); (case hr => first | (go_simp; done) | (go_simp; rfl)); (case hp => exact (Reps.one (show Kd.M (Kd.int .u8) _ _ _ 128 [.int .u8 128] from rfl) (Reps.none _ _))); intro v149 w2 ho3 hb hg_ hnew_; clear hg_ hnew_; (first | rw [← Ny148.out] at ho3 | (simp only [Int.reduceToNat] at ho3; rw [← Ny148.out] at ho3)); have n0_ := Aside0.mk (Kd.R_lower ho3 (below_size (by repeat (first | (with_reducible first | exact HB.out | apply below_alloc | apply pw_below_drewN | apply below_drew1) | exact HB.out)))); have n1_ := Aside0.mk (below_step (by repeat (first | (with_reducible first | exact HB.out | apply below_alloc | apply pw_below_drewN | apply below_drew1) | exact HB.out)) hb); clear HB; have HO150 := n0_; have HB := n1_; clear n0_ n1_; clear hb ho3))
  go_loopg [3] k (fun kq v3 w' => ∃ (x3_1 : List Int), Aside0 (spec_l1Tail.l0 kq a0 x3_1 = some r) ∧ Aside0 (kq ≤ k) ∧ Aside0 (Kd.R (Kd.int .u8) 5 w' w.heap.size (fun _ => True) v3 x3_1) ∧ Aside0 (Below w.heap.size w w'))
  case atStart => exact ⟨(y148), H', ⟨Nat.le_refl _⟩, ⟨by (with_reducible repeat (first | apply Kd.R_alloc | apply Kd.R_drewN | apply Kd.R_drew)); exact HO150.out⟩, ⟨by repeat (first | (with_reducible first | exact HB.out | apply below_alloc | apply pw_below_drewN | apply below_drew1) | exact HB.out)⟩⟩
  case round =>
    clear H'
    try clear c1
    try clear p2
    obtain ⟨x3_1, HA, HK1, HO_3, HB⟩ := hrel
    cases gk with
    | zero => exact absurd HA.out (by simp [spec_l1Tail.l0])
    | succ k1 =>
      have H := HA.out
      clear HA
      simp only [spec_l1Tail.l0] at H
      by_cases c4 : (Int.tmod (wrap64 (a0 + (x3_1.length : Int))) 64) = 56
      · rw [if_pos c4] at H
        have c4b0 : ((Int.tmod (wrap64 (a0 + (x3_1.length : Int))) 64) == 56) = true := beq_iff_eq.mpr c4
        have c4b1 : ((Int.tmod (wrap64 (a0 + (x3_1.length : Int))) 64) != 56) = false := bne_eq_false_iff_eq.mpr c4
        clear c4
        have H' := Aside0.mk H
        clear H
        obtain ⟨Ao5, co5, eo5⟩ := Kd.R_slice HO_3.out
        subst eo5
        go_wp2
        go_loopg [3, 4] k1 (fun kq v3 v4 w' => ∃ (x3_2 : List Int) (x4_2 : Int), v4 = .int .i64 x4_2 ∧ Aside0 (spec_l1Tail.l1 kq a0 x3_2 x4_2 = some r) ∧ Aside0 (kq ≤ k1) ∧ Aside0 (Kd.R (Kd.int .u8) 5 w' w.heap.size (fun _ => True) v3 x3_2) ∧ Aside0 (Below w.heap.size w w'))
        case atStart => exact ⟨(x3_1), (7), (by first | rfl | (simp; done) | (simp [*]; done)), H', ⟨Nat.le_refl _⟩, ⟨by (with_reducible repeat (first | apply Kd.R_alloc | apply Kd.R_drewN | apply Kd.R_drew)); exact HO_3.out⟩, ⟨by repeat (first | (with_reducible first | exact HB.out | apply below_alloc | apply pw_below_drewN | apply below_drew1) | exact HB.out)⟩⟩
        case round =>
          clear H'
          try clear c1
          try clear p2
          try clear c4
          try clear c4b0
          try clear c4b1
          try clear p2
          obtain ⟨x3_2, x4_2, rfl, HA, HK2, HO_3, HB⟩ := hrel
          cases gk with
          | zero => exact absurd HA.out (by simp [spec_l1Tail.l1])
          | succ k2 =>
            have H := HA.out
            clear HA
            simp only [spec_l1Tail.l1] at H
            by_cases c6 : x4_2 ≥ 0
            · rw [if_pos c6] at H
              have c6b0 : decide (0 ≤ x4_2) = true := decide_eq_true c6
              clear c6
              obtain ⟨ji7, hji7⟩ : ∃ j_ : Int, (IntKind.u64.wrap (wrap64 (8 * x4_2))) = j_ := ⟨_, rfl⟩
              replace H : (if 0 ≤ (ji7) then (if x3_2.length < 140737488355328 then (spec_l1Tail.l1 k2 a0 (x3_2 ++ [(shr .i64 (wrap64 (8 * a0)) (ji7)) % 256]) (wrap64 (x4_2 - 1))) else (none)) else (none)) = some r := by first | (rw [hji7] at H; exact H) | (simp only [hji7] at H ⊢; exact H)
              by_cases c8 : 0 ≤ (ji7)
              · rw [if_pos c8] at H
                have c8b0 := eq_true c8
                have c8b1 : decide (0 ≤ (ji7)) = true := decide_eq_true c8
                clear c8
                obtain ⟨ji9, hji9⟩ : ∃ j_ : Int, (shr .i64 (wrap64 (8 * a0)) (ji7)) = j_ := ⟨_, rfl⟩
                replace H : (if x3_2.length < 140737488355328 then (spec_l1Tail.l1 k2 a0 (x3_2 ++ [(ji9) % 256]) (wrap64 (x4_2 - 1))) else (none)) = some r := by first | (rw [hji9] at H; exact H) | (simp only [hji9] at H ⊢; exact H)
                have hji9_ : ((wrap64 (8 * a0)) / 2 ^ min (ji7).toNat 64) = ji9 := hji9
                have hji9z : (ji7) ≤ 64 → ((wrap64 (8 * a0)) / 2 ^ (ji7).toNat) = ji9 := shr_small hji9
                by_cases c10 : x3_2.length < 140737488355328
                · rw [if_pos c10] at H
                  have LMc10 := Aside0.mk c10
                  clear c10
                  obtain ⟨y154, hy154⟩ : ∃ y_ : List Int, y_ = (x3_2 ++ [(ji9) % 256]) := ⟨_, rfl⟩
                  replace H : (spec_l1Tail.l1 k2 a0 y154 (wrap64 (x4_2 - 1))) = some r := by first | (rw [hy154]; with_reducible exact H) | (have H2_ := (Option.bind_some _ _).symm.trans H; rw [hy154]; with_reducible exact H2_) | (have H2_ := (Option.bind_some _ _).symm.trans H; with_reducible exact H2_) | with_reducible exact H | (rw [hy154]; exact H) | exact H
                  have Ny154 := Aside0.mk hy154
                  clear hy154
                  have H' := Aside0.mk H
                  clear H
                  go_wp2_with (first | ((with_reducible refine gate_builtin (b := .append) (xs := #[.tmp 19, .tmp 27]) rfl ?_); at_builtin; refine Kd.R_append (Kd.int .u8) (w0 := w) w.heap.size rfl (.tmp 19) (.tmp 27) 22 5 (.int .u8 0) 1 rfl Try.underlying22 info5 rfl (by decide) (by omega) u3 x3_2 ((ji9) % 256) [.int .u8 ((ji9) % 256)] (fun _ => True) (fun _ => False) rfl rfl ?aP (fun _ hk => hk.elim) ?aF ?aO ?aB ?aS ?aL ?_; (case aP => exact rfl); (case aB => exact (by repeat (first | (with_reducible first | exact HB.out | apply below_alloc | apply pw_below_drewN | apply below_drew1) | exact HB.out))); (case aF => exact (fun _ _ => trivial)); (case aO => exact (by (with_reducible repeat (first | apply Kd.R_alloc | apply Kd.R_drewN | apply Kd.R_drew)); exact HO_3.out)); (case aS => exact (below_size (by repeat (first | (with_reducible first | exact HB.out | apply below_alloc | apply pw_below_drewN | apply below_drew1) | exact HB.out)))); (case aL => have := LMc10.out; omega); intro v155 w11 ho hb hg hat; rw [← Ny154.out] at ho; have n0_ := Aside0.mk (hb); have n1_ := Aside0.mk (ho); clear HB; clear HO_3; have HB := n0_; have HO156 := n1_; clear n0_ n1_; clear ho hb hg hat))
                  go_roundg k2
                  case measure => have := HK1.out; have := HK2.out; omega
                  case rel => exact ⟨(y154), (wrap64 (x4_2 - 1)), (by first | rfl | (simp; done) | (simp [*]; done)), H', ⟨by have := HK1.out; have := HK2.out; omega⟩, ⟨by (with_reducible repeat (first | apply Kd.R_alloc | apply Kd.R_drewN | apply Kd.R_drew)); exact HO156.out⟩, ⟨by repeat (first | (with_reducible first | exact HB.out | apply below_alloc | apply pw_below_drewN | apply below_drew1) | exact HB.out)⟩⟩
                · rw [if_neg c10] at H
                  exact absurd H (by simp)
              · rw [if_neg c8] at H
                exact absurd H (by simp)
            · rw [if_neg c6] at H
              have c6b0 : decide (0 ≤ x4_2) = false := decide_eq_false c6
              clear c6
              obtain rfl := Option.some.inj H
              have hcv12 := own_string (P := Try.prog) Try.underlying22 Try.underlying5 Try.underlying9 (Kd.own_of_R HO_3.out)
              go_wp2
              go_ret
              exact ⟨by first | rfl | (simp [errW_none, errW_some] <;> rfl) | (simp [*, errW_none, errW_some] <;> rfl), by repeat (first | (with_reducible first | exact HB.out | apply below_alloc | apply pw_below_drewN | apply below_drew1) | exact HB.out)⟩
      · rw [if_neg c4] at H
        have c4b0 : ((Int.tmod (wrap64 (a0 + (x3_1.length : Int))) 64) == 56) = false := beq_eq_false_iff_ne.mpr c4
        have c4b1 : ((Int.tmod (wrap64 (a0 + (x3_1.length : Int))) 64) != 56) = true := bne_iff_ne.mpr c4
        by_cases c13 : x3_1.length < 140737488355328
        · rw [if_pos c13] at H
          have LMc13 := Aside0.mk c13
          clear c13
          obtain ⟨y151, hy151⟩ : ∃ y_ : List Int, y_ = (x3_1 ++ [0]) := ⟨_, rfl⟩
          replace H : (spec_l1Tail.l0 k1 a0 y151) = some r := by first | (rw [hy151]; with_reducible exact H) | (have H2_ := (Option.bind_some _ _).symm.trans H; rw [hy151]; with_reducible exact H2_) | (have H2_ := (Option.bind_some _ _).symm.trans H; with_reducible exact H2_) | with_reducible exact H | (rw [hy151]; exact H) | exact H
          have Ny151 := Aside0.mk hy151
          clear hy151
          have H' := Aside0.mk H
          clear H
          obtain ⟨Ao14, co14, eo14⟩ := Kd.R_slice HO_3.out
          subst eo14
          go_wp2_with (first | ((with_reducible refine gate_builtin (b := .append) (xs := #[.tmp 12, .tmp 13]) rfl ?_); at_builtin; refine Kd.R_append (Kd.int .u8) (w0 := w) w.heap.size rfl (.tmp 12) (.tmp 13) 22 5 (.int .u8 0) 1 rfl Try.underlying22 info5 rfl (by decide) (by omega) (.slice Ao14 x3_1.length co14) x3_1 0 [.int .u8 0] (fun _ => True) (fun _ => False) rfl rfl ?aP (fun _ hk => hk.elim) ?aF ?aO ?aB ?aS ?aL ?_; (case aP => exact rfl); (case aB => exact (by repeat (first | (with_reducible first | exact HB.out | apply below_alloc | apply pw_below_drewN | apply below_drew1) | exact HB.out))); (case aF => exact (fun _ _ => trivial)); (case aO => exact (by (with_reducible repeat (first | apply Kd.R_alloc | apply Kd.R_drewN | apply Kd.R_drew)); exact HO_3.out)); (case aS => exact (below_size (by repeat (first | (with_reducible first | exact HB.out | apply below_alloc | apply pw_below_drewN | apply below_drew1) | exact HB.out)))); (case aL => have := LMc13.out; omega); intro v152 w15 ho hb hg hat; rw [← Ny151.out] at ho; have n0_ := Aside0.mk (hb); have n1_ := Aside0.mk (ho); clear HB; clear HO_3; have HB := n0_; have HO153 := n1_; clear n0_ n1_; clear ho hb hg hat))
          go_roundg k1
          case measure => have := HK1.out; omega
          case rel => exact ⟨(y151), H', ⟨by have := HK1.out; omega⟩, ⟨by (with_reducible repeat (first | apply Kd.R_alloc | apply Kd.R_drewN | apply Kd.R_drew)); exact HO153.out⟩, ⟨by repeat (first | (with_reducible first | exact HB.out | apply below_alloc | apply pw_below_drewN | apply below_drew1) | exact HB.out)⟩⟩
        · rw [if_neg c13] at H
          exact absurd H (by simp)

/-! ### spec_PadText: function 6 -/
def spec_PadText.f (k : Nat) (a0 : ByteArray) : Option (ByteArray × Bool) := if (a0.size : Int) > 600 then (some ((⟨#[]⟩ : ByteArray), false)) else ((spec_l1Tail.f k (a0.size : Int)).bind fun t157 => (if a0.size + t157.size ≤ 9223372036854775807 then (some (a0 ++ t157, true)) else (none)))
theorem spec_PadText.mono : ∀ a0 k, LeO (spec_PadText.f k a0) (spec_PadText.f (k + 1) a0) := by
  intro a0 k
  unfold spec_PadText.f
  repeat' first
      | (with_reducible exact spec_l1Tail.mono _ _)
      | (with_reducible exact LeO.refl _)
      | (with_reducible exact LeO.none _)
      | (with_reducible refine LeO.ite ?_ ?_)
      | (with_reducible refine LeO.bind ?_ (fun _ => ?_))
      | exact spec_l1Tail.mono _ _
      | exact LeO.none _
      | refine LeO.ite ?_ ?_
      | refine LeO.bind ?_ (fun _ => ?_)
set_option maxHeartbeats 8000000 in
set_option maxRecDepth 100000 in
theorem spec_PadText.calls (k : Nat) (a0 : ByteArray) (r1 : ByteArray) (r2 : Bool) (w : World) (h : spec_PadText.f k a0 = some (r1, r2)) :
    Calls Try.prog 6 #[.string a0] w fun e w' => e = .returned (.tuple #[.string r1, .bool r2]) ∧ Below w.heap.size w w' := by
  have HB := Aside0.mk (Below.refl w.heap.size w)
  have H : (if (a0.size : Int) > 600 then (some ((⟨#[]⟩ : ByteArray), false)) else ((spec_l1Tail.f k (a0.size : Int)).bind fun t157 => (if a0.size + t157.size ≤ 9223372036854775807 then (some (a0 ++ t157, true)) else (none)))) = some (r1, r2) := h
  clear h
  by_cases c2 : (a0.size : Int) > 600
  · rw [if_pos c2] at H
    have c2b0 : decide (600 < (a0.size : Int)) = true := decide_eq_true c2
    have c2b1 : decide (600 < a0.size) = true := decide_eq_true (by omega)
    clear c2
    simp only [Option.some.injEq, Prod.mk.injEq] at H
    obtain ⟨rfl, rfl⟩ := H
    go_enter Try.func6, Try.ntmps6
    go_wp2
    go_ret2
    exact ⟨by first | rfl | (simp [errW_none, errW_some] <;> rfl) | (simp [*, errW_none, errW_some] <;> rfl), by repeat (first | (with_reducible first | exact HB.out | apply below_alloc | apply pw_below_drewN | apply below_drew1) | exact HB.out)⟩
  · rw [if_neg c2] at H
    have c2b0 : decide (600 < (a0.size : Int)) = false := decide_eq_false c2
    have c2b1 : decide (600 < a0.size) = false := decide_eq_false (by omega)
    clear c2
    replace H := Option.bind_eq_some_iff.mp H
    obtain ⟨t157, A30, H⟩ := H
    replace H : (if a0.size + t157.size ≤ 9223372036854775807 then (some (a0 ++ t157, true)) else (none)) = some (r1, r2) := H
    have A3 := Aside0.mk A30
    clear A30
    by_cases c4 : a0.size + t157.size ≤ 9223372036854775807
    · rw [if_pos c4] at H
      have c4b0 := eq_true c4
      have c4b1 : decide (a0.size + t157.size ≤ 9223372036854775807) = true := decide_eq_true c4
      try have c4b2 : (9223372036854775807 < a0.size + t157.size) = False := eq_false (Nat.not_lt.2 c4)
      simp only [Option.some.injEq, Prod.mk.injEq] at H
      obtain ⟨rfl, rfl⟩ := H
      go_enter Try.func6, Try.ntmps6
      go_wp2_with (first | ((with_reducible refine gate_callee (f := 15) rfl ?_); refine goesL_ (some 10) rfl rfl Try.func15 (by kernel_rfl) rfl #[.int .i64 (a0.size : Int)] rfl (by (try simp only [List.map_toArray, List.map_cons, List.map_nil]); first | done | rfl | (simp only [List.length_drop, List.length_take]; rfl)) ?_; (with_reducible refine (spec_l1Tail.calls k (a0.size : Int) t157 _ A3.out).mono ?_); rintro e w5 ⟨rfl, hb⟩; refine ⟨_, rfl, ?_⟩; have n0_ := Aside0.mk (below_step (by repeat (first | (with_reducible first | exact HB.out | apply below_alloc | apply pw_below_drewN | apply below_drew1) | exact HB.out)) hb); clear HB; have HB := n0_; clear n0_; (try clear hb); (try clear hb2); (try clear hk); (try clear hi)))
      go_ret2
      exact ⟨by first | rfl | (simp [errW_none, errW_some] <;> rfl) | (simp [*, errW_none, errW_some] <;> rfl), by repeat (first | (with_reducible first | exact HB.out | apply below_alloc | apply pw_below_drewN | apply below_drew1) | exact HB.out)⟩
    · rw [if_neg c4] at H
      exact absurd H (by simp)

/-! ### impl_UnpadText: function 7 -/
def impl_UnpadText.l0 : Nat → ByteArray → Int → Option (ByteArray × Bool)
  | 0, _, _ => none
  | k + 1, x0, x4 => if x4 ≤ (mn 600 (wrap64 ((x0.size : Int) - 9))) then (if 0 ≤ x4 then (if x4 ≤ (x0.size : Int) then ((impl_padding.f k x4).bind fun t158 => (if (x0.extract (x4 : Int).toNat x0.size).toList = t158.toList then (some (x0.extract 0 (x4 : Int).toNat, true)) else (impl_UnpadText.l0 k x0 (wrap64 (x4 + 1))))) else (none)) else (none)) else (some ((⟨#[]⟩ : ByteArray), false))
def impl_UnpadText.f (k : Nat) (a0 : ByteArray) : Option (ByteArray × Bool) := if (a0.size : Int) > 672 then (some ((⟨#[]⟩ : ByteArray), false)) else (impl_UnpadText.l0 k a0 (mx 0 (wrap64 ((a0.size : Int) - 72))))
theorem impl_UnpadText.mono_l : ∀ k, (∀ y0 y1, LeO (impl_UnpadText.l0 k y0 y1) (impl_UnpadText.l0 (k + 1) y0 y1))
  | 0 => fun _ _ r h => by simp [impl_UnpadText.l0] at h
  | k + 1 => by
    have ih0 := impl_UnpadText.mono_l k
    · intro y0 y1
      unfold impl_UnpadText.l0
      repeat' first
      | (with_reducible exact ih0 _ _)
      | (with_reducible exact impl_padding.mono _ _)
      | (with_reducible exact LeO.refl _)
      | (with_reducible exact LeO.none _)
      | (with_reducible refine LeO.ite ?_ ?_)
      | (with_reducible refine LeO.bind ?_ (fun _ => ?_))
      | exact ih0 _ _
      | exact impl_padding.mono _ _
      | exact LeO.none _
      | refine LeO.ite ?_ ?_
      | refine LeO.bind ?_ (fun _ => ?_)
theorem impl_UnpadText.mono : ∀ a0 k, LeO (impl_UnpadText.f k a0) (impl_UnpadText.f (k + 1) a0) := by
  intro a0 k
  have ih0 := impl_UnpadText.mono_l k
  unfold impl_UnpadText.f
  repeat' first
      | (with_reducible exact ih0 _ _)
      | (with_reducible exact impl_padding.mono _ _)
      | (with_reducible exact LeO.refl _)
      | (with_reducible exact LeO.none _)
      | (with_reducible refine LeO.ite ?_ ?_)
      | (with_reducible refine LeO.bind ?_ (fun _ => ?_))
      | exact ih0 _ _
      | exact impl_padding.mono _ _
      | exact LeO.none _
      | refine LeO.ite ?_ ?_
      | refine LeO.bind ?_ (fun _ => ?_)
set_option maxHeartbeats 8000000 in
set_option maxRecDepth 100000 in
theorem impl_UnpadText.calls (k : Nat) (a0 : ByteArray) (r1 : ByteArray) (r2 : Bool) (w : World) (h : impl_UnpadText.f k a0 = some (r1, r2)) :
    Calls Try.prog 7 #[.string a0] w fun e w' => e = .returned (.tuple #[.string r1, .bool r2]) ∧ Below w.heap.size w w' := by
  have HB := Aside0.mk (Below.refl w.heap.size w)
  have H : (if (a0.size : Int) > 672 then (some ((⟨#[]⟩ : ByteArray), false)) else (impl_UnpadText.l0 k a0 (mx 0 (wrap64 ((a0.size : Int) - 72))))) = some (r1, r2) := h
  clear h
  by_cases c2 : (a0.size : Int) > 672
  · rw [if_pos c2] at H
    have c2b0 : decide (672 < (a0.size : Int)) = true := decide_eq_true c2
    have c2b1 : decide (672 < a0.size) = true := decide_eq_true (by omega)
    clear c2
    simp only [Option.some.injEq, Prod.mk.injEq] at H
    obtain ⟨rfl, rfl⟩ := H
    go_enter Try.func7, Try.ntmps7
    go_wp2
    go_ret2
    exact ⟨by first | rfl | (simp [errW_none, errW_some] <;> rfl) | (simp [*, errW_none, errW_some] <;> rfl), by repeat (first | (with_reducible first | exact HB.out | apply below_alloc | apply pw_below_drewN | apply below_drew1) | exact HB.out)⟩
  · rw [if_neg c2] at H
    have c2b0 : decide (672 < (a0.size : Int)) = false := decide_eq_false c2
    have c2b1 : decide (672 < a0.size) = false := decide_eq_false (by omega)
    clear c2
    obtain ⟨ji3, hji3⟩ : ∃ j_ : Int, (mx 0 (wrap64 ((a0.size : Int) - 72))) = j_ := ⟨_, rfl⟩
    replace H : (impl_UnpadText.l0 k a0 ji3) = some (r1, r2) := by first | (rw [hji3] at H; exact H) | (simp only [hji3] at H ⊢; exact H)
    (try (have hji3l : 0 ≤ ji3 := by (rw [← hji3]; unfold mx; (repeat' split) <;> omega)))
    (try (have hji3m : 0 ≤ ji3 := by omega))
    have hji3_ : (if 0 < (wrap64 ((a0.size : Int) - 72)) then (wrap64 ((a0.size : Int) - 72)) else 0) = ji3 := hji3
    have H' := Aside0.mk H
    clear H
    go_enter Try.func7, Try.ntmps7
    go_wp2
    go_loopg [4] k (fun kq v4 w' => ∃ (x4_1 : Int), v4 = .int .i64 x4_1 ∧ Aside0 (impl_UnpadText.l0 kq a0 x4_1 = some (r1, r2)) ∧ Aside0 (kq ≤ k) ∧ Aside0 (Below w.heap.size w w'))
    case atStart => exact ⟨(ji3), (by first | rfl | (simp; done) | (simp only [← hji3] <;> (first | rfl | simp)) | (simp [*]; done)), H', ⟨Nat.le_refl _⟩, ⟨by repeat (first | (with_reducible first | exact HB.out | apply below_alloc | apply pw_below_drewN | apply below_drew1) | exact HB.out)⟩⟩
    case round =>
      clear H'
      try clear c2
      try clear c2b0
      try clear c2b1
      try clear p2
      obtain ⟨x4_1, rfl, HA, HK1, HB⟩ := hrel
      cases gk with
      | zero => exact absurd HA.out (by simp [impl_UnpadText.l0])
      | succ k1 =>
        have H := HA.out
        clear HA
        simp only [impl_UnpadText.l0] at H
        obtain ⟨ji4, hji4⟩ : ∃ j_ : Int, (mn 600 (wrap64 ((a0.size : Int) - 9))) = j_ := ⟨_, rfl⟩
        replace H : (if x4_1 ≤ (ji4) then (if 0 ≤ x4_1 then (if x4_1 ≤ (a0.size : Int) then ((impl_padding.f k1 x4_1).bind fun t158 => (if (a0.extract (x4_1 : Int).toNat a0.size).toList = t158.toList then (some (a0.extract 0 (x4_1 : Int).toNat, true)) else (impl_UnpadText.l0 k1 a0 (wrap64 (x4_1 + 1))))) else (none)) else (none)) else (some ((⟨#[]⟩ : ByteArray), false))) = some (r1, r2) := by first | (rw [hji4] at H; exact H) | (simp only [hji4] at H ⊢; exact H)
        have hji4_ : (if (wrap64 ((a0.size : Int) - 9)) < 600 then (wrap64 ((a0.size : Int) - 9)) else 600) = ji4 := hji4
        by_cases c5 : x4_1 ≤ (ji4)
        · rw [if_pos c5] at H
          have c5b0 : decide (x4_1 ≤ (ji4)) = true := decide_eq_true c5
          clear c5
          by_cases c6 : 0 ≤ x4_1
          · rw [if_pos c6] at H
            have c6b0 := eq_true c6
            have c6b1 : decide (0 ≤ x4_1) = true := decide_eq_true c6
            clear c6
            by_cases c7 : x4_1 ≤ (a0.size : Int)
            · rw [if_pos c7] at H
              have c7b0 := eq_true c7
              have c7b1 : decide (x4_1 ≤ (a0.size : Int)) = true := decide_eq_true c7
              clear c7
              replace H := Option.bind_eq_some_iff.mp H
              obtain ⟨t158, A80, H⟩ := H
              replace H : (if (a0.extract (x4_1 : Int).toNat a0.size).toList = t158.toList then (some (a0.extract 0 (x4_1 : Int).toNat, true)) else (impl_UnpadText.l0 k1 a0 (wrap64 (x4_1 + 1)))) = some (r1, r2) := H
              have A8 := Aside0.mk A80
              clear A80
              by_cases c9 : (a0.extract (x4_1 : Int).toNat a0.size).toList = t158.toList
              · rw [if_pos c9] at H
                have c9b0 : ((a0.extract (x4_1 : Int).toNat a0.size).toList == t158.toList) = true := beq_iff_eq.mpr c9
                have c9b1 : ((a0.extract (x4_1 : Int).toNat a0.size).toList != t158.toList) = false := bne_eq_false_iff_eq.mpr c9
                clear c9
                have c10b0 := eq_true (of_decide_eq_true (by first | (with_reducible assumption) | assumption) : 0 ≤ x4_1)
                have c11b0 := eq_true (of_decide_eq_true (by first | (with_reducible assumption) | assumption) : x4_1 ≤ (a0.size : Int))
                simp only [Option.some.injEq, Prod.mk.injEq] at H
                obtain ⟨rfl, rfl⟩ := H
                try go_wp2
                have n0_ := Aside0.mk (below_drew1 HB.out)
                clear HB
                have HB := n0_
                clear n0_
                refine start_ (n := 6) (S := fun w' => True) (ds := []) #[false, false, false, false, false, false] (by kernel_rfl) rfl rfl trivial (fun hHeld => ?_)
                generalize wr.drew = w12 at HB hHeld ⊢
                refine pure_ (i := 0) (N := some 20) (v := ?_) (a' := ?_) #[true, false, false, false, false, false] rfl rfl (by kernel_rfl) (fun _ _ _ h => h) (Or.inl ⟨by rfl, ?_⟩) ?_ ?_
                rotate_left
                · intro w'
                  go_simp
                  with_reducible rfl
                rotate_left
                · simp only [Act.put, List.setIfInBounds_toArray, List.set_cons_zero, List.set_cons_succ, i64_w, i32_w]
                  rfl
                refine pure_ (i := 1) (N := some 21) (v := ?_) (a' := ?_) #[true, true, false, false, false, false] rfl rfl (by kernel_rfl) (fun _ _ _ h => h) (Or.inl ⟨by rfl, ?_⟩) ?_ ?_
                rotate_left
                · intro w'
                  go_simp
                  with_reducible rfl
                rotate_left
                · simp only [Act.put, List.setIfInBounds_toArray, List.set_cons_zero, List.set_cons_succ, i64_w, i32_w]
                  rfl
                refine pure_ (i := 2) (N := some 22) (v := ?_) (a' := ?_) #[true, true, true, false, false, false] rfl rfl (by kernel_rfl) (fun _ _ _ h => h) (Or.inl ⟨by rfl, ?_⟩) ?_ ?_
                rotate_left
                · intro w'
                  go_simp
                  with_reducible rfl
                rotate_left
                · simp only [Act.put, List.setIfInBounds_toArray, List.set_cons_zero, List.set_cons_succ, i64_w, i32_w]
                  rfl
                refine pure_ (i := 3) (N := some 23) (v := ?_) (a' := ?_) #[true, true, true, true, false, false] rfl rfl (by kernel_rfl) (fun _ _ _ h => h) (Or.inl ⟨by rfl, ?_⟩) ?_ ?_
                rotate_left
                · intro w'
                  go_simp
                  with_reducible rfl
                rotate_left
                · simp only [Act.put, List.setIfInBounds_toArray, List.set_cons_zero, List.set_cons_succ, i64_w, i32_w]
                  rfl
                refine one_ (i := 4) (N := some 24) #[true, true, true, true, true, false] rfl rfl (by kernel_rfl) (by decide) (fun K hK => ?_)
                refine goes_ Try.func14 (by kernel_rfl) rfl #[.int .i64 x4_1] (by rfl) rfl rfl (by (try simp only [List.map_toArray, List.map_cons, List.map_nil]); first | done | rfl | (simp only [List.length_drop, List.length_take]; rfl)) ?_
                with_reducible refine (impl_padding.calls k1 x4_1 t158 _ A8.out).mono ?_
                rintro e w13 ⟨rfl, hb⟩
                refine ⟨_, rfl, ?_⟩
                have n0_ := Aside0.mk (below_step (by repeat (first | (with_reducible first | exact HB.out | apply below_alloc | apply pw_below_drewN | apply below_drew1) | exact HB.out)) hb)
                clear HB
                have HB := n0_
                clear n0_
                (try clear hb)
                (try clear hb2)
                (try clear hk)
                (try clear hi)
                refine hK.out _ _ trivial (fun hHeld => ?_)
                clear hK K
                refine norm_ (a' := ?_) ?_ ?_
                rotate_left
                · show Act.put _ (some 24) _ = _
                  simp only [Act.put, List.setIfInBounds_toArray, List.set_cons_zero, List.set_cons_succ, i64_w, i32_w]
                  rfl
                refine pure_ (i := 5) (N := some 25) (v := ?_) (a' := ?_) #[true, true, true, true, true, true] rfl rfl (by kernel_rfl) (fun _ _ _ h => h) (Or.inl ⟨by rfl, ?_⟩) ?_ ?_
                rotate_left
                · intro w'
                  go_simp
                  with_reducible rfl
                rotate_left
                · simp only [Act.put, List.setIfInBounds_toArray, List.set_cons_zero, List.set_cons_succ, i64_w, i32_w]
                  rfl
                refine done_ (by kernel_rfl) ?_
                try go_wp2
                go_ret2
                exact ⟨by first | rfl | (simp [errW_none, errW_some] <;> rfl) | (simp only [← hji3, ← hji4]; first | rfl | (simp [errW_none, errW_some] <;> rfl)) | (simp [*, errW_none, errW_some] <;> rfl), by repeat (first | (with_reducible first | exact HB.out | apply below_alloc | apply pw_below_drewN | apply below_drew1) | exact HB.out)⟩
              · rw [if_neg c9] at H
                have c9b0 : ((a0.extract (x4_1 : Int).toNat a0.size).toList == t158.toList) = false := beq_eq_false_iff_ne.mpr c9
                have c9b1 : ((a0.extract (x4_1 : Int).toNat a0.size).toList != t158.toList) = true := bne_iff_ne.mpr c9
                have H' := Aside0.mk H
                clear H
                try go_wp2
                have n0_ := Aside0.mk (below_drew1 HB.out)
                clear HB
                have HB := n0_
                clear n0_
                refine start_ (n := 6) (S := fun w' => True) (ds := []) #[false, false, false, false, false, false] (by kernel_rfl) rfl rfl trivial (fun hHeld => ?_)
                generalize wr.drew = w14 at HB hHeld ⊢
                refine pure_ (i := 0) (N := some 20) (v := ?_) (a' := ?_) #[true, false, false, false, false, false] rfl rfl (by kernel_rfl) (fun _ _ _ h => h) (Or.inl ⟨by rfl, ?_⟩) ?_ ?_
                rotate_left
                · intro w'
                  go_simp
                  with_reducible rfl
                rotate_left
                · simp only [Act.put, List.setIfInBounds_toArray, List.set_cons_zero, List.set_cons_succ, i64_w, i32_w]
                  rfl
                refine pure_ (i := 1) (N := some 21) (v := ?_) (a' := ?_) #[true, true, false, false, false, false] rfl rfl (by kernel_rfl) (fun _ _ _ h => h) (Or.inl ⟨by rfl, ?_⟩) ?_ ?_
                rotate_left
                · intro w'
                  go_simp
                  with_reducible rfl
                rotate_left
                · simp only [Act.put, List.setIfInBounds_toArray, List.set_cons_zero, List.set_cons_succ, i64_w, i32_w]
                  rfl
                refine pure_ (i := 2) (N := some 22) (v := ?_) (a' := ?_) #[true, true, true, false, false, false] rfl rfl (by kernel_rfl) (fun _ _ _ h => h) (Or.inl ⟨by rfl, ?_⟩) ?_ ?_
                rotate_left
                · intro w'
                  go_simp
                  with_reducible rfl
                rotate_left
                · simp only [Act.put, List.setIfInBounds_toArray, List.set_cons_zero, List.set_cons_succ, i64_w, i32_w]
                  rfl
                refine pure_ (i := 3) (N := some 23) (v := ?_) (a' := ?_) #[true, true, true, true, false, false] rfl rfl (by kernel_rfl) (fun _ _ _ h => h) (Or.inl ⟨by rfl, ?_⟩) ?_ ?_
                rotate_left
                · intro w'
                  go_simp
                  with_reducible rfl
                rotate_left
                · simp only [Act.put, List.setIfInBounds_toArray, List.set_cons_zero, List.set_cons_succ, i64_w, i32_w]
                  rfl
                refine one_ (i := 4) (N := some 24) #[true, true, true, true, true, false] rfl rfl (by kernel_rfl) (by decide) (fun K hK => ?_)
                refine goes_ Try.func14 (by kernel_rfl) rfl #[.int .i64 x4_1] (by rfl) rfl rfl (by (try simp only [List.map_toArray, List.map_cons, List.map_nil]); first | done | rfl | (simp only [List.length_drop, List.length_take]; rfl)) ?_
                with_reducible refine (impl_padding.calls k1 x4_1 t158 _ A8.out).mono ?_
                rintro e w15 ⟨rfl, hb⟩
                refine ⟨_, rfl, ?_⟩
                have n0_ := Aside0.mk (below_step (by repeat (first | (with_reducible first | exact HB.out | apply below_alloc | apply pw_below_drewN | apply below_drew1) | exact HB.out)) hb)
                clear HB
                have HB := n0_
                clear n0_
                (try clear hb)
                (try clear hb2)
                (try clear hk)
                (try clear hi)
                refine hK.out _ _ trivial (fun hHeld => ?_)
                clear hK K
                refine norm_ (a' := ?_) ?_ ?_
                rotate_left
                · show Act.put _ (some 24) _ = _
                  simp only [Act.put, List.setIfInBounds_toArray, List.set_cons_zero, List.set_cons_succ, i64_w, i32_w]
                  rfl
                refine pure_ (i := 5) (N := some 25) (v := ?_) (a' := ?_) #[true, true, true, true, true, true] rfl rfl (by kernel_rfl) (fun _ _ _ h => h) (Or.inl ⟨by rfl, ?_⟩) ?_ ?_
                rotate_left
                · intro w'
                  go_simp
                  with_reducible rfl
                rotate_left
                · simp only [Act.put, List.setIfInBounds_toArray, List.set_cons_zero, List.set_cons_succ, i64_w, i32_w]
                  rfl
                refine done_ (by kernel_rfl) ?_
                try go_wp2
                go_roundg k1
                case measure => have := HK1.out; omega
                case rel => exact ⟨(wrap64 (x4_1 + 1)), (by first | rfl | (simp; done) | (simp [*]; done)), H', ⟨by have := HK1.out; omega⟩, ⟨by repeat (first | (with_reducible first | exact HB.out | apply below_alloc | apply pw_below_drewN | apply below_drew1) | exact HB.out)⟩⟩
            · rw [if_neg c7] at H
              exact absurd H (by simp)
          · rw [if_neg c6] at H
            exact absurd H (by simp)
        · rw [if_neg c5] at H
          have c5b0 : decide (x4_1 ≤ (ji4)) = false := decide_eq_false c5
          clear c5
          simp only [Option.some.injEq, Prod.mk.injEq] at H
          obtain ⟨rfl, rfl⟩ := H
          go_wp2
          go_ret2
          exact ⟨by first | rfl | (simp [errW_none, errW_some] <;> rfl) | (simp only [← hji3, ← hji4]; first | rfl | (simp [errW_none, errW_some] <;> rfl)) | (simp [*, errW_none, errW_some] <;> rfl), by repeat (first | (with_reducible first | exact HB.out | apply below_alloc | apply pw_below_drewN | apply below_drew1) | exact HB.out)⟩

/-! ### spec_DrawUnpadText: function 8 -/
/-- A string with a bit of one byte turned over. -/
def du_flip (s : ByteArray) (i j : Int) : ByteArray := strOfNums ((bytesOf s).set i.toNat (Go.bits .xor .u8 (bt s i) (IntKind.u8.wrap (2 ^ j.toNat))))
theorem du_bt (t : ByteArray) (k : Nat) : ((t.data.toList.getD k 0).toNat : Int) = bt t k := by
  unfold bt
  by_cases h : k < t.size
  · have h' : (k : Int).toNat < t.size := by simpa using h
    rw [dif_pos h', List.getD_eq_getElem?_getD, List.getElem?_eq_getElem (by rw [data_length]; exact h)]
    simp; rfl
  · have h' : ¬ (k : Int).toNat < t.size := by simpa using h
    rw [dif_neg h', List.getD_eq_getElem?_getD, List.getElem?_eq_none (by rw [data_length]; omega)]
    rfl
theorem du_size (w : World) (e : TypeId) (s : ByteArray) : s.size ≤ (Lib.bytesCells w e s).size := by
  unfold Lib.bytesCells
  rw [Array.size_append, Array.size_map]
  exact Nat.le_add_right _ _
theorem du_get (w : World) (e : TypeId) (s : ByteArray) (j : Nat) (hj : j < s.size) : (Lib.bytesCells w e s)[j]? = some (.int .u8 (bt s j)) := by
  have h := Lib.bytesWorld_cell w e s j hj
  rw [cell_of_row _ _ _ _ _ _ (Lib.bytesWorld_at_new w e s), du_bt] at h
  exact h
theorem du_frozen {w : World} {g n : Nat} {t : TypeId} {cs : Array Value} (h : w.heap[g]? = some (.cells cs t (n, n + 1))) (i : Nat) (hi : i < n) : w.frozen? ⟨g, i, none⟩ = false := by
  simp [World.frozen?, h]; omega
theorem du_set {w : World} {g : Nat} {t : TypeId} {fr : Nat × Nat} {cs : Array Value} (h : w.heap[g]? = some (.cells cs t fr)) (i : Nat) (u : Value) : (w.setCell ⟨g, i, none⟩ u).heap[g]? = some (.cells (cs.setIfInBounds i u) t fr) := by
  simp [World.setCell, Array.getElem?_modify, h]
/-- What is read behind a store into the conversion's row. -/
theorem du_reads {w : World} {g : Nat} {t : TypeId} {fr : Nat × Nat} {cs : Array Value} (s : ByteArray) (hs : s.size ≤ 672) (h : w.heap[g]? = some (.cells cs t fr)) (hc : ∀ j, j < s.size → cs[j]? = some (.int .u8 (bt s j))) (i v : Int) (h0 : 0 ≤ i) (h1 : i < (s.size : Int)) :
    ReadsInt (w.setCell ⟨g, i.toNat, none⟩ (.int .u8 v)) .u8 (some ⟨g, 0, none⟩) s.size ((bytesOf s).set i.toNat v) := by
  refine ⟨by rw [List.length_set, bytesOf_length], by omega, fun _ => ⟨_, rfl, fun j hj => ?_⟩⟩
  rw [add_plain, cell_of_row _ _ _ _ _ _ (du_set h i.toNat (.int .u8 v))]
  rw [List.getD_eq_getElem?_getD, List.getElem?_set]
  by_cases e : i.toNat = j
  · rw [if_pos e, if_pos (by rw [bytesOf_length]; omega)]
    subst e
    rw [Array.getElem?_setIfInBounds_self_of_lt (by have := hc i.toNat (by omega); exact (Array.getElem?_eq_some_iff.mp this).1)]
    rfl
  · rw [if_neg e, Array.getElem?_setIfInBounds_ne e, hc j hj]
    have := rd_bytesOf s j
    unfold rd at this
    simp only [Int.toNat_natCast] at this
    rw [← this, List.getD_eq_getElem?_getD]
def du_end (l0 : List Int) (s : ByteArray) (a b : Int) : Option ByteArray :=
  (spec_l1Cur_one.f l0 a b 12).bind fun q => if q.1 = true then (if s.size + 1 ≤ 9223372036854775807 then some (s ++ ⟨#[120]⟩) else none) else some s
def spec_DrawUnpadText.f (k : Nat) (l0 : List Int) : Option ByteArray :=
  (spec_l1Cur_text.f k l0 0 0).bind fun t => (spec_PadText.f k t.1).bind fun p =>
  if 0 < p.1.size then (spec_l1Cur_one.f l0 t.2.1 t.2.2 3).bind fun o =>
    (if o.1 = true then (spec_l1Cur_pick.f l0 o.2.1 o.2.2 (p.1.size : Int)).bind fun i => if 0 ≤ i.1 ∧ i.1 < (p.1.size : Int) ∧ p.1.size ≤ 672 then
      (spec_l1Cur_pick.f l0 i.2.1 i.2.2 8).bind fun j => if 0 ≤ j.1 ∧ j.1 < 8 then du_end l0 (du_flip p.1 i.1 j.1) j.2.1 j.2.2 else none else none
    else du_end l0 p.1 o.2.1 o.2.2)
  else du_end l0 p.1 t.2.1 t.2.2
theorem spec_DrawUnpadText.mono : ∀ a0 k, LeO (spec_DrawUnpadText.f k a0) (spec_DrawUnpadText.f (k + 1) a0) := by
  intro a0 k
  unfold spec_DrawUnpadText.f
  exact LeO.bind (spec_l1Cur_text.mono _ _ _ _) (fun _ => LeO.bind (spec_PadText.mono _ _) (fun _ => LeO.refl _))
set_option maxHeartbeats 16000000 in
set_option maxRecDepth 100000 in
theorem spec_DrawUnpadText.calls (k : Nat) (A0 : Option Addr) (c0 : Nat) (l0 : List Int) (r : ByteArray) (w : World) (hr0 : Kd.C (Kd.int .u8) w A0 l0.length l0) (hc0 : l0.length ≤ c0) (h : spec_DrawUnpadText.f k l0 = some r) :
    Calls Try.prog 8 #[.slice A0 l0.length c0] w fun e w' => e = .returned (.string r) ∧ Below w.heap.size w w' := by
  have hu34 := Try.underlying34
  have HR0 := Aside0.mk hr0
  clear hr0 hc0
  have HB := Aside0.mk (Below.refl w.heap.size w)
  unfold spec_DrawUnpadText.f at h
  obtain ⟨⟨s0, a1, b1⟩, E1, h⟩ := Option.bind_eq_some_iff.mp h
  obtain ⟨⟨p, okb⟩, E2, h⟩ := Option.bind_eq_some_iff.mp h
  have E1 := Aside0.mk E1
  have E2 := Aside0.mk E2
  have kb := fun (s : ByteArray) (W : World) => print_bytes (P := Try.prog) 9 22 5 Try.underlying9 Try.underlying22 Try.underlying5 s W
  obtain ⟨z, hz⟩ : ∃ z : Int, (p.size : Int) = z := ⟨_, rfl⟩
  by_cases c1 : 0 < p.size
  rotate_left
  · replace h : du_end l0 p a1 b1 = some r := by rw [if_neg c1] at h; exact h
    have c1b : decide (0 < z) = false := decide_eq_false (by omega)
    clear c1
    unfold du_end at h
    obtain ⟨⟨q, a5, b5⟩, E5, h⟩ := Option.bind_eq_some_iff.mp h
    have E5 := Aside0.mk E5
    cases q with
    | false =>
      replace h : (some p : Option ByteArray) = some r := h
      obtain rfl := Option.some.inj h
      clear h
      go_enter Try.func8, Try.ntmps8
      go_wp2_with (first | ((with_reducible refine gate_dst (N := 9) rfl ?_); refine box_event ?hg (N := 9) ?hd (cs := #[.slice A0 l0.length c0, .int .i64 0, .int .u64 0]) (t := 34) ?hr ?_; (case hd => rfl); (case hg => rfl); (case hr => first | (go_simp; done) | (go_simp; rfl)); intro gb hg w3 hbox hb; have n0_ := Aside0.mk (below_step HB.out hb); have n1_ := Aside0.mk (hbox); have n2_ := Aside0.mk ((by rw [hg]; exact (below_size HB.out)) : w.heap.size ≤ gb); clear HB; have HB := n0_; have BK := n1_; have GE := n2_; clear n0_ n1_ n2_; clear hb hbox hg; have HI := Aside0.mk (show IsS34 w w3 gb l0 0 0 from ⟨_, _, BK.out, GE.out, HR0.out⟩); clear BK GE) | ((with_reducible refine gate_callee (f := 13) rfl ?_); refine goesL_ (some 12) rfl rfl Try.func13 (by kernel_rfl) rfl #[.pointer (some ⟨gb, 0, none⟩)] rfl (by (try simp only [List.map_toArray, List.map_cons, List.map_nil]); first | done | rfl) ?_; (with_reducible refine (spec_l1Cur_text.calls k gb l0 0 0 s0 a1 b1 w _ ?side1 ?side2 E1.out).mono ?_); (case side1 => exact (by repeat (first | (with_reducible first | exact HI.out | apply IsS34.alloc | apply IsS34.drewN | apply IsS34.drew) | exact HI.out))); (case side2 => exact (by repeat (first | (with_reducible first | exact HB.out | apply below_alloc | apply pw_below_drewN | apply below_drew1 | refine below_set ?_ (IsS34.ge HI.out)) | exact HB.out))); rintro e w4 ⟨rfl, hi, hb, hk⟩; refine ⟨_, rfl, ?_⟩; have n0_ := Aside0.mk (hb); have n1_ := Aside0.mk (hi); clear HB; clear HI; have HB := n0_; have HI := n1_; clear n0_ n1_ hb hi hk) | ((with_reducible refine gate_callee (f := 6) rfl ?_); refine goesL_ (some 13) rfl rfl Try.func6 (by kernel_rfl) rfl #[.string s0] rfl (by (try simp only [List.map_toArray, List.map_cons, List.map_nil]); first | done | rfl) ?_; (with_reducible refine (spec_PadText.calls k s0 p okb _ E2.out).mono ?_); rintro e w5 ⟨rfl, hb⟩; refine ⟨_, rfl, ?_⟩; have n0_ := Aside0.mk (below_step HB.out hb); have n1_ := Aside0.mk (IsS34.below HI.out hb); clear HB; clear HI; have HB := n0_; have HI := n1_; clear n0_ n1_ hb) | ((with_reducible refine gate_callee (f := 16) rfl ?_); refine goesL_ (some 41) rfl rfl Try.func16 (by kernel_rfl) rfl #[.pointer (some ⟨gb, 0, none⟩), .int .i64 12] rfl (by (try simp only [List.map_toArray, List.map_cons, List.map_nil]); first | done | rfl) ?_; (with_reducible refine (spec_l1Cur_one.calls gb l0 a1 b1 12 false a5 b5 w _ ?side1 ?side2 E5.out).mono ?_); (case side1 => exact (by repeat (first | (with_reducible first | exact HI.out | apply IsS34.alloc | apply IsS34.drewN | apply IsS34.drew) | exact HI.out))); (case side2 => exact (by repeat (first | (with_reducible first | exact HB.out | apply below_alloc | apply pw_below_drewN | apply below_drew1 | refine below_set ?_ (IsS34.ge HI.out)) | exact HB.out))); rintro e w9 ⟨rfl, hi, hb, hk⟩; refine ⟨_, rfl, ?_⟩; have n0_ := Aside0.mk (hb); have n1_ := Aside0.mk (hi); clear HB; clear HI; have HB := n0_; have HI := n1_; clear n0_ n1_ hb hi hk))
      go_ret
      exact ⟨rfl, HB.out⟩
    | true =>
      by_cases c9 : p.size + 1 ≤ 9223372036854775807
      rotate_left
      · rw [if_pos rfl, if_neg c9] at h; cases h
      replace h : (some (p ++ ⟨#[120]⟩) : Option ByteArray) = some r := by rw [if_pos rfl, if_pos c9] at h; exact h
      have c9b : (9223372036854775807 < p.size + 1) = False := eq_false (by omega)
      obtain rfl := Option.some.inj h
      clear h
      go_enter Try.func8, Try.ntmps8
      go_wp2_with (first | ((with_reducible refine gate_dst (N := 9) rfl ?_); refine box_event ?hg (N := 9) ?hd (cs := #[.slice A0 l0.length c0, .int .i64 0, .int .u64 0]) (t := 34) ?hr ?_; (case hd => rfl); (case hg => rfl); (case hr => first | (go_simp; done) | (go_simp; rfl)); intro gb hg w3 hbox hb; have n0_ := Aside0.mk (below_step HB.out hb); have n1_ := Aside0.mk (hbox); have n2_ := Aside0.mk ((by rw [hg]; exact (below_size HB.out)) : w.heap.size ≤ gb); clear HB; have HB := n0_; have BK := n1_; have GE := n2_; clear n0_ n1_ n2_; clear hb hbox hg; have HI := Aside0.mk (show IsS34 w w3 gb l0 0 0 from ⟨_, _, BK.out, GE.out, HR0.out⟩); clear BK GE) | ((with_reducible refine gate_callee (f := 13) rfl ?_); refine goesL_ (some 12) rfl rfl Try.func13 (by kernel_rfl) rfl #[.pointer (some ⟨gb, 0, none⟩)] rfl (by (try simp only [List.map_toArray, List.map_cons, List.map_nil]); first | done | rfl) ?_; (with_reducible refine (spec_l1Cur_text.calls k gb l0 0 0 s0 a1 b1 w _ ?side1 ?side2 E1.out).mono ?_); (case side1 => exact (by repeat (first | (with_reducible first | exact HI.out | apply IsS34.alloc | apply IsS34.drewN | apply IsS34.drew) | exact HI.out))); (case side2 => exact (by repeat (first | (with_reducible first | exact HB.out | apply below_alloc | apply pw_below_drewN | apply below_drew1 | refine below_set ?_ (IsS34.ge HI.out)) | exact HB.out))); rintro e w4 ⟨rfl, hi, hb, hk⟩; refine ⟨_, rfl, ?_⟩; have n0_ := Aside0.mk (hb); have n1_ := Aside0.mk (hi); clear HB; clear HI; have HB := n0_; have HI := n1_; clear n0_ n1_ hb hi hk) | ((with_reducible refine gate_callee (f := 6) rfl ?_); refine goesL_ (some 13) rfl rfl Try.func6 (by kernel_rfl) rfl #[.string s0] rfl (by (try simp only [List.map_toArray, List.map_cons, List.map_nil]); first | done | rfl) ?_; (with_reducible refine (spec_PadText.calls k s0 p okb _ E2.out).mono ?_); rintro e w5 ⟨rfl, hb⟩; refine ⟨_, rfl, ?_⟩; have n0_ := Aside0.mk (below_step HB.out hb); have n1_ := Aside0.mk (IsS34.below HI.out hb); clear HB; clear HI; have HB := n0_; have HI := n1_; clear n0_ n1_ hb) | ((with_reducible refine gate_callee (f := 16) rfl ?_); refine goesL_ (some 41) rfl rfl Try.func16 (by kernel_rfl) rfl #[.pointer (some ⟨gb, 0, none⟩), .int .i64 12] rfl (by (try simp only [List.map_toArray, List.map_cons, List.map_nil]); first | done | rfl) ?_; (with_reducible refine (spec_l1Cur_one.calls gb l0 a1 b1 12 true a5 b5 w _ ?side1 ?side2 E5.out).mono ?_); (case side1 => exact (by repeat (first | (with_reducible first | exact HI.out | apply IsS34.alloc | apply IsS34.drewN | apply IsS34.drew) | exact HI.out))); (case side2 => exact (by repeat (first | (with_reducible first | exact HB.out | apply below_alloc | apply pw_below_drewN | apply below_drew1 | refine below_set ?_ (IsS34.ge HI.out)) | exact HB.out))); rintro e w9 ⟨rfl, hi, hb, hk⟩; refine ⟨_, rfl, ?_⟩; have n0_ := Aside0.mk (hb); have n1_ := Aside0.mk (hi); clear HB; clear HI; have HB := n0_; have HI := n1_; clear n0_ n1_ hb hi hk))
      go_ret
      exact ⟨rfl, HB.out⟩
  rw [if_pos c1] at h
  obtain ⟨⟨o, a2, b2⟩, E3, h⟩ := Option.bind_eq_some_iff.mp h
  have E3 := Aside0.mk E3
  have c1b : decide (0 < z) = true := decide_eq_true (by omega)
  cases o with
  | false =>
    replace h : du_end l0 p a2 b2 = some r := h
    clear c1
    unfold du_end at h
    obtain ⟨⟨q, a5, b5⟩, E5, h⟩ := Option.bind_eq_some_iff.mp h
    have E5 := Aside0.mk E5
    cases q with
    | false =>
      replace h : (some p : Option ByteArray) = some r := h
      obtain rfl := Option.some.inj h
      clear h
      go_enter Try.func8, Try.ntmps8
      go_wp2_with (first | ((with_reducible refine gate_dst (N := 9) rfl ?_); refine box_event ?hg (N := 9) ?hd (cs := #[.slice A0 l0.length c0, .int .i64 0, .int .u64 0]) (t := 34) ?hr ?_; (case hd => rfl); (case hg => rfl); (case hr => first | (go_simp; done) | (go_simp; rfl)); intro gb hg w3 hbox hb; have n0_ := Aside0.mk (below_step HB.out hb); have n1_ := Aside0.mk (hbox); have n2_ := Aside0.mk ((by rw [hg]; exact (below_size HB.out)) : w.heap.size ≤ gb); clear HB; have HB := n0_; have BK := n1_; have GE := n2_; clear n0_ n1_ n2_; clear hb hbox hg; have HI := Aside0.mk (show IsS34 w w3 gb l0 0 0 from ⟨_, _, BK.out, GE.out, HR0.out⟩); clear BK GE) | ((with_reducible refine gate_callee (f := 13) rfl ?_); refine goesL_ (some 12) rfl rfl Try.func13 (by kernel_rfl) rfl #[.pointer (some ⟨gb, 0, none⟩)] rfl (by (try simp only [List.map_toArray, List.map_cons, List.map_nil]); first | done | rfl) ?_; (with_reducible refine (spec_l1Cur_text.calls k gb l0 0 0 s0 a1 b1 w _ ?side1 ?side2 E1.out).mono ?_); (case side1 => exact (by repeat (first | (with_reducible first | exact HI.out | apply IsS34.alloc | apply IsS34.drewN | apply IsS34.drew) | exact HI.out))); (case side2 => exact (by repeat (first | (with_reducible first | exact HB.out | apply below_alloc | apply pw_below_drewN | apply below_drew1 | refine below_set ?_ (IsS34.ge HI.out)) | exact HB.out))); rintro e w4 ⟨rfl, hi, hb, hk⟩; refine ⟨_, rfl, ?_⟩; have n0_ := Aside0.mk (hb); have n1_ := Aside0.mk (hi); clear HB; clear HI; have HB := n0_; have HI := n1_; clear n0_ n1_ hb hi hk) | ((with_reducible refine gate_callee (f := 6) rfl ?_); refine goesL_ (some 13) rfl rfl Try.func6 (by kernel_rfl) rfl #[.string s0] rfl (by (try simp only [List.map_toArray, List.map_cons, List.map_nil]); first | done | rfl) ?_; (with_reducible refine (spec_PadText.calls k s0 p okb _ E2.out).mono ?_); rintro e w5 ⟨rfl, hb⟩; refine ⟨_, rfl, ?_⟩; have n0_ := Aside0.mk (below_step HB.out hb); have n1_ := Aside0.mk (IsS34.below HI.out hb); clear HB; clear HI; have HB := n0_; have HI := n1_; clear n0_ n1_ hb) | (go_at_call 16; (with_reducible refine (spec_l1Cur_one.calls gb l0 a1 b1 3 false a2 b2 w _ ?side1 ?side2 E3.out).mono ?_); (case side1 => exact (by repeat (first | (with_reducible first | exact HI.out | apply IsS34.alloc | apply IsS34.drewN | apply IsS34.drew) | exact HI.out))); (case side2 => exact (by repeat (first | (with_reducible first | exact HB.out | apply below_alloc | apply pw_below_drewN | apply below_drew1 | refine below_set ?_ (IsS34.ge HI.out)) | exact HB.out))); rintro e w6 ⟨rfl, hi, hb, hk⟩; have n0_ := Aside0.mk (hb); have n1_ := Aside0.mk (hi); clear HB; clear HI; have HB := n0_; have HI := n1_; clear n0_ n1_ hb hi hk) | ((with_reducible refine gate_callee (f := 16) rfl ?_); refine goesL_ (some 41) rfl rfl Try.func16 (by kernel_rfl) rfl #[.pointer (some ⟨gb, 0, none⟩), .int .i64 12] rfl (by (try simp only [List.map_toArray, List.map_cons, List.map_nil]); first | done | rfl) ?_; (with_reducible refine (spec_l1Cur_one.calls gb l0 a2 b2 12 false a5 b5 w _ ?side1 ?side2 E5.out).mono ?_); (case side1 => exact (by repeat (first | (with_reducible first | exact HI.out | apply IsS34.alloc | apply IsS34.drewN | apply IsS34.drew) | exact HI.out))); (case side2 => exact (by repeat (first | (with_reducible first | exact HB.out | apply below_alloc | apply pw_below_drewN | apply below_drew1 | refine below_set ?_ (IsS34.ge HI.out)) | exact HB.out))); rintro e w9 ⟨rfl, hi, hb, hk⟩; refine ⟨_, rfl, ?_⟩; have n0_ := Aside0.mk (hb); have n1_ := Aside0.mk (hi); clear HB; clear HI; have HB := n0_; have HI := n1_; clear n0_ n1_ hb hi hk))
      go_ret
      exact ⟨rfl, HB.out⟩
    | true =>
      by_cases c9 : p.size + 1 ≤ 9223372036854775807
      rotate_left
      · rw [if_pos rfl, if_neg c9] at h; cases h
      replace h : (some (p ++ ⟨#[120]⟩) : Option ByteArray) = some r := by rw [if_pos rfl, if_pos c9] at h; exact h
      have c9b : (9223372036854775807 < p.size + 1) = False := eq_false (by omega)
      obtain rfl := Option.some.inj h
      clear h
      go_enter Try.func8, Try.ntmps8
      go_wp2_with (first | ((with_reducible refine gate_dst (N := 9) rfl ?_); refine box_event ?hg (N := 9) ?hd (cs := #[.slice A0 l0.length c0, .int .i64 0, .int .u64 0]) (t := 34) ?hr ?_; (case hd => rfl); (case hg => rfl); (case hr => first | (go_simp; done) | (go_simp; rfl)); intro gb hg w3 hbox hb; have n0_ := Aside0.mk (below_step HB.out hb); have n1_ := Aside0.mk (hbox); have n2_ := Aside0.mk ((by rw [hg]; exact (below_size HB.out)) : w.heap.size ≤ gb); clear HB; have HB := n0_; have BK := n1_; have GE := n2_; clear n0_ n1_ n2_; clear hb hbox hg; have HI := Aside0.mk (show IsS34 w w3 gb l0 0 0 from ⟨_, _, BK.out, GE.out, HR0.out⟩); clear BK GE) | ((with_reducible refine gate_callee (f := 13) rfl ?_); refine goesL_ (some 12) rfl rfl Try.func13 (by kernel_rfl) rfl #[.pointer (some ⟨gb, 0, none⟩)] rfl (by (try simp only [List.map_toArray, List.map_cons, List.map_nil]); first | done | rfl) ?_; (with_reducible refine (spec_l1Cur_text.calls k gb l0 0 0 s0 a1 b1 w _ ?side1 ?side2 E1.out).mono ?_); (case side1 => exact (by repeat (first | (with_reducible first | exact HI.out | apply IsS34.alloc | apply IsS34.drewN | apply IsS34.drew) | exact HI.out))); (case side2 => exact (by repeat (first | (with_reducible first | exact HB.out | apply below_alloc | apply pw_below_drewN | apply below_drew1 | refine below_set ?_ (IsS34.ge HI.out)) | exact HB.out))); rintro e w4 ⟨rfl, hi, hb, hk⟩; refine ⟨_, rfl, ?_⟩; have n0_ := Aside0.mk (hb); have n1_ := Aside0.mk (hi); clear HB; clear HI; have HB := n0_; have HI := n1_; clear n0_ n1_ hb hi hk) | ((with_reducible refine gate_callee (f := 6) rfl ?_); refine goesL_ (some 13) rfl rfl Try.func6 (by kernel_rfl) rfl #[.string s0] rfl (by (try simp only [List.map_toArray, List.map_cons, List.map_nil]); first | done | rfl) ?_; (with_reducible refine (spec_PadText.calls k s0 p okb _ E2.out).mono ?_); rintro e w5 ⟨rfl, hb⟩; refine ⟨_, rfl, ?_⟩; have n0_ := Aside0.mk (below_step HB.out hb); have n1_ := Aside0.mk (IsS34.below HI.out hb); clear HB; clear HI; have HB := n0_; have HI := n1_; clear n0_ n1_ hb) | (go_at_call 16; (with_reducible refine (spec_l1Cur_one.calls gb l0 a1 b1 3 false a2 b2 w _ ?side1 ?side2 E3.out).mono ?_); (case side1 => exact (by repeat (first | (with_reducible first | exact HI.out | apply IsS34.alloc | apply IsS34.drewN | apply IsS34.drew) | exact HI.out))); (case side2 => exact (by repeat (first | (with_reducible first | exact HB.out | apply below_alloc | apply pw_below_drewN | apply below_drew1 | refine below_set ?_ (IsS34.ge HI.out)) | exact HB.out))); rintro e w6 ⟨rfl, hi, hb, hk⟩; have n0_ := Aside0.mk (hb); have n1_ := Aside0.mk (hi); clear HB; clear HI; have HB := n0_; have HI := n1_; clear n0_ n1_ hb hi hk) | ((with_reducible refine gate_callee (f := 16) rfl ?_); refine goesL_ (some 41) rfl rfl Try.func16 (by kernel_rfl) rfl #[.pointer (some ⟨gb, 0, none⟩), .int .i64 12] rfl (by (try simp only [List.map_toArray, List.map_cons, List.map_nil]); first | done | rfl) ?_; (with_reducible refine (spec_l1Cur_one.calls gb l0 a2 b2 12 true a5 b5 w _ ?side1 ?side2 E5.out).mono ?_); (case side1 => exact (by repeat (first | (with_reducible first | exact HI.out | apply IsS34.alloc | apply IsS34.drewN | apply IsS34.drew) | exact HI.out))); (case side2 => exact (by repeat (first | (with_reducible first | exact HB.out | apply below_alloc | apply pw_below_drewN | apply below_drew1 | refine below_set ?_ (IsS34.ge HI.out)) | exact HB.out))); rintro e w9 ⟨rfl, hi, hb, hk⟩; refine ⟨_, rfl, ?_⟩; have n0_ := Aside0.mk (hb); have n1_ := Aside0.mk (hi); clear HB; clear HI; have HB := n0_; have HI := n1_; clear n0_ n1_ hb hi hk))
      go_ret
      exact ⟨rfl, HB.out⟩
  | true =>
    obtain ⟨⟨i, a3, b3⟩, E4, h⟩ := Option.bind_eq_some_iff.mp h
    have E4 := Aside0.mk E4
    by_cases c2 : 0 ≤ i ∧ i < (p.size : Int) ∧ p.size ≤ 672
    rotate_left
    · rw [if_neg c2] at h; cases h
    rw [if_pos c2] at h
    obtain ⟨⟨j, a4, b4⟩, E6, h⟩ := Option.bind_eq_some_iff.mp h
    have E6 := Aside0.mk E6
    by_cases c3 : 0 ≤ j ∧ j < 8
    rotate_left
    · rw [if_neg c3] at h; cases h
    rw [if_pos c3] at h
    have H := Aside0.mk h
    clear h c1
    have C2 := Aside0.mk c2
    have C3 := Aside0.mk c3
    clear c2 c3
    go_enter Try.func8, Try.ntmps8
    go_wp2_with (first | ((with_reducible refine gate_dst (N := 9) rfl ?_); refine box_event ?hg (N := 9) ?hd (cs := #[.slice A0 l0.length c0, .int .i64 0, .int .u64 0]) (t := 34) ?hr ?_; (case hd => rfl); (case hg => rfl); (case hr => first | (go_simp; done) | (go_simp; rfl)); intro gb hg w3 hbox hb; have n0_ := Aside0.mk (below_step HB.out hb); have n1_ := Aside0.mk (hbox); have n2_ := Aside0.mk ((by rw [hg]; exact (below_size HB.out)) : w.heap.size ≤ gb); clear HB; have HB := n0_; have BK := n1_; have GE := n2_; clear n0_ n1_ n2_; clear hb hbox hg; have HI := Aside0.mk (show IsS34 w w3 gb l0 0 0 from ⟨_, _, BK.out, GE.out, HR0.out⟩); clear BK GE) | ((with_reducible refine gate_callee (f := 13) rfl ?_); refine goesL_ (some 12) rfl rfl Try.func13 (by kernel_rfl) rfl #[.pointer (some ⟨gb, 0, none⟩)] rfl (by (try simp only [List.map_toArray, List.map_cons, List.map_nil]); first | done | rfl) ?_; (with_reducible refine (spec_l1Cur_text.calls k gb l0 0 0 s0 a1 b1 w _ ?side1 ?side2 E1.out).mono ?_); (case side1 => exact (by repeat (first | (with_reducible first | exact HI.out | apply IsS34.alloc | apply IsS34.drewN | apply IsS34.drew) | exact HI.out))); (case side2 => exact (by repeat (first | (with_reducible first | exact HB.out | apply below_alloc | apply pw_below_drewN | apply below_drew1 | refine below_set ?_ (IsS34.ge HI.out)) | exact HB.out))); rintro e w4 ⟨rfl, hi, hb, hk⟩; refine ⟨_, rfl, ?_⟩; have n0_ := Aside0.mk (hb); have n1_ := Aside0.mk (hi); clear HB; clear HI; have HB := n0_; have HI := n1_; clear n0_ n1_ hb hi hk) | ((with_reducible refine gate_callee (f := 6) rfl ?_); refine goesL_ (some 13) rfl rfl Try.func6 (by kernel_rfl) rfl #[.string s0] rfl (by (try simp only [List.map_toArray, List.map_cons, List.map_nil]); first | done | rfl) ?_; (with_reducible refine (spec_PadText.calls k s0 p okb _ E2.out).mono ?_); rintro e w5 ⟨rfl, hb⟩; refine ⟨_, rfl, ?_⟩; have n0_ := Aside0.mk (below_step HB.out hb); have n1_ := Aside0.mk (IsS34.below HI.out hb); clear HB; clear HI; have HB := n0_; have HI := n1_; clear n0_ n1_ hb) | (go_at_call 16; (with_reducible refine (spec_l1Cur_one.calls gb l0 a1 b1 3 true a2 b2 w _ ?side1 ?side2 E3.out).mono ?_); (case side1 => exact (by repeat (first | (with_reducible first | exact HI.out | apply IsS34.alloc | apply IsS34.drewN | apply IsS34.drew) | exact HI.out))); (case side2 => exact (by repeat (first | (with_reducible first | exact HB.out | apply below_alloc | apply pw_below_drewN | apply below_drew1 | refine below_set ?_ (IsS34.ge HI.out)) | exact HB.out))); rintro e w6 ⟨rfl, hi, hb, hk⟩; have n0_ := Aside0.mk (hb); have n1_ := Aside0.mk (hi); clear HB; clear HI; have HB := n0_; have HI := n1_; clear n0_ n1_ hb hi hk; have kb1 := kb p w6; clear kb; have hn := Lib.bytesWorld_at_new w6 5 p; have csz := du_size w6 5 p; have cb := du_get w6 5 p; obtain ⟨CS, hCS⟩ : ∃ CS, CS = Lib.bytesCells w6 5 p := ⟨_, rfl⟩; rw [← hCS] at hn csz cb; clear hCS; have hbw : Below w6.heap.size w6 (Lib.bytesWorld w6 5 p) := bytes_below (Below.refl _ _) (Nat.le_refl _) 5 p; have HG := Aside0.mk (below_size HB.out); obtain ⟨B, hB⟩ : ∃ B, B = w6.heap.size := ⟨_, rfl⟩; have n0_ := Aside0.mk (below_step HB.out hbw); have n1_ := Aside0.mk (IsS34.below HI.out hbw); have HNE := Aside0.mk (Nat.ne_of_lt (IsS34.lt HI.out)); clear HB; clear HI; have HB := n0_; have HI := n1_; clear n0_ n1_ hbw; obtain ⟨cap, hcap⟩ : ∃ cap, cap = grownCap w6 p.size 0 5 := ⟨_, rfl⟩; obtain ⟨W1, hW1⟩ : ∃ W1, W1 = Lib.bytesWorld w6 5 p := ⟨_, rfl⟩; rw [← hW1] at kb1 hn; rw [← hW1] at HB HI; rw [← hB] at kb1 hn HG HNE; rw [← hcap] at kb1; clear hcap hW1 hB; have HN := Aside0.mk hn; have HCB := Aside0.mk cb; have HSZ := Aside0.mk csz; clear hn cb csz))
    have csz := HSZ.out
    obtain ⟨i0, i1, i2⟩ := C2.out
    obtain ⟨j0, j1⟩ := C3.out
    have CSI := Aside0.mk (show CS[i.toNat]? = some (.int .u8 (bt p i)) by rw [HCB.out i.toNat (by omega), Int.toNat_of_nonneg i0])
    rw [hz] at i1 E4
    have ju : IntKind.u64.wrap j = j := by rw [IntKind.wrap_u64]; omega
    have n0_ := Aside0.mk (below_drew1 HB.out)
    have n1_ := Aside0.mk (IsS34.drew HI.out)
    have n2_ := Aside0.mk (show W1.drew.heap[B]? = _ from HN.out)
    clear HB HI HN
    have HB := n0_
    have HI := n1_
    have HN := n2_
    clear n0_ n1_ n2_ kb1
    refine start_ (n := 14) (S := fun w' => w'.cell? ⟨B, i.toNat, none⟩ = some (.int .u8 (bt p i))) (ds := [13]) #[false, false, false, false, false, false, false, false, false, false, false, false, false, false] (by kernel_rfl) rfl rfl ((cell_of_row _ _ _ _ _ _ HN.out).trans CSI.out) (fun hHeld => ?_)
    generalize W1.drew = w12 at HB HI HN hHeld ⊢
    refine pure_ (i := 0) (N := some 25) (v := ?_) (a' := ?_) #[true, false, false, false, false, false, false, false, false, false, false, false, false, false] rfl rfl (by kernel_rfl) (fun _ _ _ h => h) (Or.inl ⟨by rfl, ?_⟩) ?_ ?_
    rotate_left
    · intro w'
      go_simp
      with_reducible rfl
    rotate_left
    · simp only [Act.put, List.setIfInBounds_toArray, List.set_cons_zero, List.set_cons_succ, i64_w, i32_w]
      rfl
    refine pure_ (i := 1) (N := some 26) (v := ?_) (a' := ?_) #[true, true, false, false, false, false, false, false, false, false, false, false, false, false] rfl rfl (by kernel_rfl) (fun _ _ _ h => h) (Or.inl ⟨by rfl, ?_⟩) ?_ ?_
    rotate_left
    · intro w'
      go_simp
      with_reducible rfl
    rotate_left
    · simp only [Act.put, List.setIfInBounds_toArray, List.set_cons_zero, List.set_cons_succ, i64_w, i32_w]
      rfl
    refine pure_ (i := 2) (N := some 27) (v := ?_) (a' := ?_) #[true, true, true, false, false, false, false, false, false, false, false, false, false, false] rfl rfl (by kernel_rfl) (fun _ _ _ h => h) (Or.inl ⟨by rfl, ?_⟩) ?_ ?_
    rotate_left
    · intro w'
      go_simp
      with_reducible rfl
    rotate_left
    · simp only [Act.put, List.setIfInBounds_toArray, List.set_cons_zero, List.set_cons_succ, i64_w, i32_w]
      rfl
    refine pure_ (i := 3) (N := some 28) (v := ?_) (a' := ?_) #[true, true, true, true, false, false, false, false, false, false, false, false, false, false] rfl rfl (by kernel_rfl) (fun _ _ _ h => h) (Or.inl ⟨by rfl, ?_⟩) ?_ ?_
    rotate_left
    · intro w'
      go_simp
      with_reducible rfl
    rotate_left
    · simp only [Act.put, List.setIfInBounds_toArray, List.set_cons_zero, List.set_cons_succ, i64_w, i32_w]
      rfl
    refine pure_ (i := 7) (N := some 32) (v := ?_) (a' := ?_) #[true, true, true, true, false, false, false, true, false, false, false, false, false, false] rfl rfl (by kernel_rfl) (fun _ _ _ h => h) (Or.inl ⟨by rfl, ?_⟩) ?_ ?_
    rotate_left
    · intro w'
      go_simp
      with_reducible rfl
    rotate_left
    · simp only [Act.put, List.setIfInBounds_toArray, List.set_cons_zero, List.set_cons_succ, i64_w, i32_w]
      rfl
    refine one_ (i := 4) (N := some 29) #[true, true, true, true, true, false, false, true, false, false, false, false, false, false] rfl rfl (by kernel_rfl) (by decide) (fun K hK => ?_)
    refine goes_ Try.func17 (by kernel_rfl) rfl #[.pointer (some ⟨gb, 0, none⟩), .int .i64 z] (by rfl) rfl rfl (by (try simp only [List.map_toArray, List.map_cons, List.map_nil]); first | done | rfl) ?_
    with_reducible refine (spec_l1Cur_pick.calls gb l0 a2 b2 z i a3 b3 w _ ?_ ?_ E4.out).mono ?_
    · exact HI.out
    · exact HB.out
    rintro e w7 ⟨rfl, hi, hb, hk⟩
    refine ⟨_, rfl, ?_⟩
    have n0_ := Aside0.mk hb
    have n1_ := Aside0.mk hi
    have n2_ := Aside0.mk (KeepBut.blk hk HN.out (Ne.symm HNE.out) (by simp))
    clear HB HI HN
    have HB := n0_
    have HI := n1_
    have HN := n2_
    clear n0_ n1_ n2_ hb hi hk
    refine hK.out _ _ ((cell_of_row _ _ _ _ _ _ HN.out).trans CSI.out) (fun hHeld => ?_)
    clear hK K
    refine norm_ (a' := ?_) ?_ ?_
    rotate_left
    · show Act.put _ (some 29) _ = _
      simp only [Act.put, List.setIfInBounds_toArray, List.set_cons_zero, List.set_cons_succ, i64_w, i32_w]
      rfl
    refine pure_ (i := 5) (N := some 30) (v := ?_) (a' := ?_) #[true, true, true, true, true, true, false, true, false, false, false, false, false, false] rfl rfl (by kernel_rfl) (fun _ _ _ h => h) (Or.inl ⟨by rfl, ?_⟩) ?_ ?_
    rotate_left
    · intro w'
      go_simp
      with_reducible rfl
    rotate_left
    · simp only [Act.put, List.setIfInBounds_toArray, List.set_cons_zero, List.set_cons_succ, i64_w, i32_w]
      rfl
    refine take_ (i := 6) (N := some 31) (v := ?_) (a' := ?_) #[true, true, true, true, true, true, true, true, false, false, false, false, false, false] rfl rfl (by kernel_rfl) (fun _ _ _ h => h) (Or.inl ⟨by rfl, ?_⟩) hHeld ?_ ?_
    rotate_left
    · intro w' s0
      go_simp
      with_reducible rfl
    rotate_left
    · simp only [Act.put, List.setIfInBounds_toArray, List.set_cons_zero, List.set_cons_succ, i64_w, i32_w]
      rfl
    refine one_ (i := 8) (N := some 33) #[true, true, true, true, true, true, true, true, true, false, false, false, false, false] rfl rfl (by kernel_rfl) (by decide) (fun K hK => ?_)
    refine goes_ Try.func17 (by kernel_rfl) rfl #[.pointer (some ⟨gb, 0, none⟩), .int .i64 8] (by rfl) rfl rfl (by (try simp only [List.map_toArray, List.map_cons, List.map_nil]); first | done | rfl) ?_
    with_reducible refine (spec_l1Cur_pick.calls gb l0 a3 b3 8 j a4 b4 w _ ?_ ?_ E6.out).mono ?_
    · exact HI.out
    · exact HB.out
    rintro e w8 ⟨rfl, hi, hb, hk⟩
    refine ⟨_, rfl, ?_⟩
    have n0_ := Aside0.mk hb
    have n1_ := Aside0.mk hi
    have n2_ := Aside0.mk (KeepBut.blk hk HN.out (Ne.symm HNE.out) (by simp))
    clear HB HI HN
    have HB := n0_
    have HI := n1_
    have HN := n2_
    clear n0_ n1_ n2_ hb hi hk
    have hce := (cell_of_row _ _ _ _ _ _ HN.out).trans CSI.out
    have hfz := du_frozen HN.out i.toNat (by omega)
    refine hK.out _ _ ((cell_of_row _ _ _ _ _ _ HN.out).trans CSI.out) (fun hHeld => ?_)
    clear hK K
    refine norm_ (a' := ?_) ?_ ?_
    rotate_left
    · show Act.put _ (some 33) _ = _
      simp only [Act.put, List.setIfInBounds_toArray, List.set_cons_zero, List.set_cons_succ, i64_w, i32_w]
      rfl
    refine pure_ (i := 9) (N := some 34) (v := ?_) (a' := ?_) #[true, true, true, true, true, true, true, true, true, true, false, false, false, false] rfl rfl (by kernel_rfl) (fun _ _ _ h => h) (Or.inl ⟨by rfl, ?_⟩) ?_ ?_
    rotate_left
    · intro w'
      go_simp
      with_reducible rfl
    rotate_left
    · simp only [Act.put, List.setIfInBounds_toArray, List.set_cons_zero, List.set_cons_succ, i64_w, i32_w]
      rfl
    refine pure_ (i := 10) (N := some 35) (v := ?_) (a' := ?_) #[true, true, true, true, true, true, true, true, true, true, true, false, false, false] rfl rfl (by kernel_rfl) (fun _ _ _ h => h) (Or.inl ⟨by rfl, ?_⟩) ?_ ?_
    rotate_left
    · intro w'
      go_simp
      with_reducible rfl
    rotate_left
    · simp only [Act.put, List.setIfInBounds_toArray, List.set_cons_zero, List.set_cons_succ, i64_w, i32_w]
      rfl
    refine pure_ (i := 11) (N := some 36) (v := ?_) (a' := ?_) #[true, true, true, true, true, true, true, true, true, true, true, true, false, false] rfl rfl (by kernel_rfl) (fun _ _ _ h => h) (Or.inl ⟨by rfl, ?_⟩) ?_ ?_
    rotate_left
    · intro w'
      go_simp
      with_reducible rfl
    rotate_left
    · simp only [Act.put, List.setIfInBounds_toArray, List.set_cons_zero, List.set_cons_succ, i64_w, i32_w]
      rfl
    refine pure_ (i := 12) (N := some 37) (v := ?_) (a' := ?_) #[true, true, true, true, true, true, true, true, true, true, true, true, true, false] rfl rfl (by kernel_rfl) (fun _ _ _ h => h) (Or.inl ⟨by rfl, ?_⟩) ?_ ?_
    rotate_left
    · intro w'
      go_simp
      with_reducible rfl
    rotate_left
    · simp only [Act.put, List.setIfInBounds_toArray, List.set_cons_zero, List.set_cons_succ, i64_w, i32_w]
      rfl
    refine last_ (i := 13) (N := none) #[true, true, true, true, true, true, true, true, true, true, true, true, true, true] rfl rfl (by kernel_rfl) (by decide) (fun K hK => ?_)
    refine skip_ (w1 := ?_) (by rfl) rfl ?_ ?_
    rotate_left
    · go_simp
      rfl
    refine hK.out _ _ ?_
    clear hK K
    refine done_ (by kernel_rfl) ?_

    clear hHeld hce hfz
    have hrd := du_reads p i2 HN.out HCB.out i (Go.bits .xor .u8 (bt p i) (IntKind.u8.wrap (2 ^ j.toNat))) i0 (by omega)
    have hcv := fun c => string_of_reads (P := Try.prog) (c := c) Try.underlying22 Try.underlying5 Try.underlying9 hrd
    clear hrd
    have n0_ := Aside0.mk (below_set (j := i.toNat) (v := .int .u8 (Go.bits .xor .u8 (bt p i) (IntKind.u8.wrap (2 ^ j.toNat)))) HB.out HG.out)
    have n1_ := Aside0.mk (IsS34.far (p := ⟨B, i.toNat, none⟩) HI.out HNE.out (.int .u8 (Go.bits .xor .u8 (bt p i) (IntKind.u8.wrap (2 ^ j.toNat)))))
    clear HB HI
    have HB := n0_
    have HI := n1_
    clear n0_ n1_ HN
    obtain ⟨s1, hs1⟩ : ∃ s1, s1 = du_flip p i j := ⟨_, rfl⟩
    replace hcv : ∀ c, (convert 22 9 (.slice (some ⟨B, 0, none⟩) p.size c)).run Try.prog (w8.setCell ⟨B, i.toNat, none⟩ (.int .u8 (Go.bits .xor .u8 (bt p i) (IntKind.u8.wrap (2 ^ j.toNat))))) = .ok (.string s1) (w8.setCell ⟨B, i.toNat, none⟩ (.int .u8 (Go.bits .xor .u8 (bt p i) (IntKind.u8.wrap (2 ^ j.toNat))))) := by rw [hs1]; exact hcv
    have h := H.out
    rw [← hs1] at h
    clear hs1 H
    generalize w8.setCell ⟨B, i.toNat, none⟩ (.int .u8 (Go.bits .xor .u8 (bt p i) (IntKind.u8.wrap (2 ^ j.toNat)))) = w9 at HB HI hcv ⊢
    generalize (Go.bits .xor .u8 (bt p i) (IntKind.u8.wrap (2 ^ j.toNat))) = vv
    clear i0 i1 i2 j0 j1 ju C2 C3 CSI csz E4 E6
    unfold du_end at h
    obtain ⟨⟨q, a5, b5⟩, E5, h⟩ := Option.bind_eq_some_iff.mp h
    have E5 := Aside0.mk E5
    cases q with
    | false =>
      replace h : (some s1 : Option ByteArray) = some r := h
      obtain rfl := Option.some.inj h
      clear h
      go_wp2_with (first | ((with_reducible refine gate_callee (f := 16) rfl ?_); refine goesL_ (some 41) rfl rfl Try.func16 (by kernel_rfl) rfl #[.pointer (some ⟨gb, 0, none⟩), .int .i64 12] rfl (by (try simp only [List.map_toArray, List.map_cons, List.map_nil]); first | done | rfl) ?_; (with_reducible refine (spec_l1Cur_one.calls gb l0 a4 b4 12 false a5 b5 w _ ?side1 ?side2 E5.out).mono ?_); (case side1 => exact (by repeat (first | (with_reducible first | exact HI.out | apply IsS34.alloc | apply IsS34.drewN | apply IsS34.drew) | exact HI.out))); (case side2 => exact (by repeat (first | (with_reducible first | exact HB.out | apply below_alloc | apply pw_below_drewN | apply below_drew1 | refine below_set ?_ (IsS34.ge HI.out)) | exact HB.out))); rintro e w9 ⟨rfl, hi, hb, hk⟩; refine ⟨_, rfl, ?_⟩; have n0_ := Aside0.mk (hb); have n1_ := Aside0.mk (hi); clear HB; clear HI; have HB := n0_; have HI := n1_; clear n0_ n1_ hb hi hk))
      go_ret
      exact ⟨rfl, HB.out⟩
    | true =>
      by_cases c9 : s1.size + 1 ≤ 9223372036854775807
      rotate_left
      · rw [if_pos rfl, if_neg c9] at h; cases h
      replace h : (some (s1 ++ ⟨#[120]⟩) : Option ByteArray) = some r := by rw [if_pos rfl, if_pos c9] at h; exact h
      have c9b : (9223372036854775807 < s1.size + 1) = False := eq_false (by omega)
      obtain rfl := Option.some.inj h
      clear h
      go_wp2_with (first | ((with_reducible refine gate_callee (f := 16) rfl ?_); refine goesL_ (some 41) rfl rfl Try.func16 (by kernel_rfl) rfl #[.pointer (some ⟨gb, 0, none⟩), .int .i64 12] rfl (by (try simp only [List.map_toArray, List.map_cons, List.map_nil]); first | done | rfl) ?_; (with_reducible refine (spec_l1Cur_one.calls gb l0 a4 b4 12 true a5 b5 w _ ?side1 ?side2 E5.out).mono ?_); (case side1 => exact (by repeat (first | (with_reducible first | exact HI.out | apply IsS34.alloc | apply IsS34.drewN | apply IsS34.drew) | exact HI.out))); (case side2 => exact (by repeat (first | (with_reducible first | exact HB.out | apply below_alloc | apply pw_below_drewN | apply below_drew1 | refine below_set ?_ (IsS34.ge HI.out)) | exact HB.out))); rintro e w9 ⟨rfl, hi, hb, hk⟩; refine ⟨_, rfl, ?_⟩; have n0_ := Aside0.mk (hb); have n1_ := Aside0.mk (hi); clear HB; clear HI; have HB := n0_; have HI := n1_; clear n0_ n1_ hb hi hk))
      go_ret
      exact ⟨rfl, HB.out⟩

end
end Go.Proofs.Ytgoedenbekedbaa.PFnPadded
