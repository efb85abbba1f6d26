-- Printed for this claim by a changed copy of the kit's printing program (wip/tools/patch_print.py); Lean checks it.
import Derived.Test.YtgoedenbekedbaaDoorPFnExactReadHeadx0
namespace Go.Proofs.YtgoedenbekedbaaDoor.PFnExactReadHead
open Go.RowKit Go.Proofs.YtgoedenbekedbaaDoorW.PrintWords Go.Proofs.YtgoedenbekedbaaDoorW.PrintLast Go.Proofs.YtgoedenbekedbaaDoorW.PrintMore
attribute [local go_sem] max2_int min2_int max_two min_two max_three min_three max_four min_four   -- for this text's walks alone
set_option linter.unusedVariables false
set_option linter.unusedSimpArgs false

noncomputable section
/-! ### impl_within: function 96 -/
def impl_within.f (a0 : Int) (a1 : Int) (a2 : Int) : Option (Bool) := if a0 ≥ a1 then (some (decide (a0 ≤ a2))) else (some false)
set_option maxHeartbeats 8000000 in
set_option maxRecDepth 100000 in
theorem impl_within.calls (a0 : Int) (a1 : Int) (a2 : Int) (r : Bool) (w : World) (h : impl_within.f a0 a1 a2 = some r) :
    Calls Tryd.prog 96 #[.int .i64 a0, .int .i64 a1, .int .i64 a2] w fun e w' => e = .returned (.bool r) ∧ Drawn0 w w' := by
  have H : (if a0 ≥ a1 then (some (decide (a0 ≤ a2))) else (some false)) = some r := h
  clear h
  by_cases c4 : a0 ≥ a1
  · rw [if_pos c4] at H
    have c4b0 : decide (a1 ≤ a0) = true := decide_eq_true c4
    clear c4
    obtain rfl := Option.some.inj H
    go_enter Tryd.func96, Tryd.ntmps96
    go_wp2
    go_ret
    exact ⟨by first | rfl | (simp; done) | (simp [*]; done), by repeat (first | exact Drawn0.refl _ | apply Drawn0.step)⟩
  · rw [if_neg c4] at H
    have c4b0 : decide (a1 ≤ a0) = false := decide_eq_false c4
    clear c4
    obtain rfl := Option.some.inj H
    go_enter Tryd.func96, Tryd.ntmps96
    go_wp2
    go_ret
    exact ⟨by first | rfl | (simp; done) | (simp [*]; done), by repeat (first | exact Drawn0.refl _ | apply Drawn0.step)⟩

/-! ### impl_isOrigin: function 133 -/
def impl_isOrigin.l0 : Nat → ByteArray → Int → Int → Option (Bool)
  | 0, _, _, _ => none
  | k + 1, x0, x5, x6 => if x6 < x5 then (if 0 ≤ x6 then (if x6 < (x0.size : Int) then (if (bt x0 x6) < 97 then (some false) else (if (bt x0 x6) > 122 then (some false) else (impl_isOrigin.l0 k x0 x5 (wrap64 (x6 + 1))))) else (none)) else (none)) else ((impl_within.f (x0.size : Int) 1 16).bind fun t147 => (some t147))
def impl_isOrigin.f (k : Nat) (a0 : ByteArray) : Option (Bool) := impl_isOrigin.l0 k a0 (a0.size : Int) 0
theorem impl_isOrigin.mono_l : ∀ k, (∀ y0 y1 y2, LeO (impl_isOrigin.l0 k y0 y1 y2) (impl_isOrigin.l0 (k + 1) y0 y1 y2))
  | 0 => fun _ _ _ r h => by simp [impl_isOrigin.l0] at h
  | k + 1 => by
    have ih0 := impl_isOrigin.mono_l k
    · intro y0 y1 y2
      unfold impl_isOrigin.l0
      repeat' first
      | (with_reducible exact ih0 _ _ _)
      | (with_reducible exact LeO.refl _)
      | (with_reducible exact LeO.none _)
      | (with_reducible refine LeO.ite ?_ ?_)
      | (with_reducible refine LeO.bind ?_ (fun _ => ?_))
      | exact ih0 _ _ _
      | exact LeO.none _
      | refine LeO.ite ?_ ?_
      | refine LeO.bind ?_ (fun _ => ?_)
theorem impl_isOrigin.mono : ∀ a0 k, LeO (impl_isOrigin.f k a0) (impl_isOrigin.f (k + 1) a0) := by
  intro a0 k
  have ih0 := impl_isOrigin.mono_l k
  unfold impl_isOrigin.f
  repeat' first
      | (with_reducible exact ih0 _ _ _)
      | (with_reducible exact LeO.refl _)
      | (with_reducible exact LeO.none _)
      | (with_reducible refine LeO.ite ?_ ?_)
      | (with_reducible refine LeO.bind ?_ (fun _ => ?_))
      | exact ih0 _ _ _
      | exact LeO.none _
      | refine LeO.ite ?_ ?_
      | refine LeO.bind ?_ (fun _ => ?_)
set_option maxHeartbeats 8000000 in
set_option maxRecDepth 100000 in
theorem impl_isOrigin.calls (k : Nat) (a0 : ByteArray) (r : Bool) (w : World) (h : impl_isOrigin.f k a0 = some r) :
    Calls Tryd.prog 133 #[.string a0] w fun e w' => e = .returned (.bool r) ∧ Drawn0 w w' := by
  have H : (impl_isOrigin.l0 k a0 (a0.size : Int) 0) = some r := h
  clear h
  have H' := Aside0.mk H
  clear H
  go_enter Tryd.func133, Tryd.ntmps133
  go_wp2
  go_loopg [6] k (fun kq v6 w' => ∃ (x6_1 : Int), v6 = .int .i64 x6_1 ∧ Aside0 (impl_isOrigin.l0 kq a0 (a0.size : Int) x6_1 = some r) ∧ Aside0 (kq ≤ k) ∧ Drawn0 w w')
  case atStart => exact ⟨(0), (by first | rfl | (simp; done) | (simp [*]; done)), H', ⟨Nat.le_refl _⟩, by repeat (first | exact Drawn0.refl _ | apply Drawn0.step)⟩
  case round =>
    clear H'
    try clear c1
    obtain ⟨x6_1, rfl, HA, HK1, ⟨m1, rfl⟩⟩ := hrel
    cases gk with
    | zero => exact absurd HA.out (by simp [impl_isOrigin.l0])
    | succ k1 =>
      have H := HA.out
      clear HA
      simp only [impl_isOrigin.l0] at H
      by_cases c2 : x6_1 < (a0.size : Int)
      · rw [if_pos c2] at H
        have c2b0 : decide (x6_1 < (a0.size : Int)) = true := decide_eq_true c2
        clear c2
        by_cases c3 : 0 ≤ x6_1
        · rw [if_pos c3] at H
          have c3b0 : decide (0 ≤ x6_1) = true := decide_eq_true c3
          clear c3
          by_cases c4 : x6_1 < (a0.size : Int)
          · rw [if_pos c4] at H
            have c4b0 : decide (x6_1 < (a0.size : Int)) = true := decide_eq_true c4
            clear c4
            by_cases c6 : (bt a0 x6_1) < 97
            · rw [if_pos c6] at H
              have c6b0 : decide ((bt a0 x6_1) < 97) = true := decide_eq_true c6
              clear c6
              obtain rfl := Option.some.inj H
              have p5 : 0 ≤ (x6_1 : Int) := of_decide_eq_true (by first | (with_reducible assumption) | assumption)
              have q5 : x6_1 < (a0.size : Int) := of_decide_eq_true (by first | (with_reducible assumption) | assumption)
              have hx5 := bt_at a0 x6_1
              replace p5 := eq_true p5
              replace q5 := eq_true q5
              go_wp2
              go_ret
              exact ⟨by first | rfl | (simp; done) | (simp [*]; done), by repeat (first | exact Drawn0.refl _ | apply Drawn0.step)⟩
            · rw [if_neg c6] at H
              have c6b0 : decide ((bt a0 x6_1) < 97) = false := decide_eq_false c6
              clear c6
              by_cases c8 : (bt a0 x6_1) > 122
              · rw [if_pos c8] at H
                have c8b0 : decide (122 < (bt a0 x6_1)) = true := decide_eq_true c8
                clear c8
                obtain rfl := Option.some.inj H
                have p5 : 0 ≤ (x6_1 : Int) := of_decide_eq_true (by first | (with_reducible assumption) | assumption)
                have q5 : x6_1 < (a0.size : Int) := of_decide_eq_true (by first | (with_reducible assumption) | assumption)
                have hx5 := bt_at a0 x6_1
                replace p5 := eq_true p5
                replace q5 := eq_true q5
                have p7 : 0 ≤ (x6_1 : Int) := of_decide_eq_true (by first | (with_reducible assumption) | assumption)
                have q7 : x6_1 < (a0.size : Int) := of_decide_eq_true (by first | (with_reducible assumption) | assumption)
                have hx7 := bt_at a0 x6_1
                replace p7 := eq_true p7
                replace q7 := eq_true q7
                go_wp2
                go_ret
                exact ⟨by first | rfl | (simp; done) | (simp [*]; done), by repeat (first | exact Drawn0.refl _ | apply Drawn0.step)⟩
              · rw [if_neg c8] at H
                have c8b0 : decide (122 < (bt a0 x6_1)) = false := decide_eq_false c8
                clear c8
                have H' := Aside0.mk H
                clear H
                have p5 : 0 ≤ (x6_1 : Int) := of_decide_eq_true (by first | (with_reducible assumption) | assumption)
                have q5 : x6_1 < (a0.size : Int) := of_decide_eq_true (by first | (with_reducible assumption) | assumption)
                have hx5 := bt_at a0 x6_1
                replace p5 := eq_true p5
                replace q5 := eq_true q5
                have p7 : 0 ≤ (x6_1 : Int) := of_decide_eq_true (by first | (with_reducible assumption) | assumption)
                have q7 : x6_1 < (a0.size : Int) := of_decide_eq_true (by first | (with_reducible assumption) | assumption)
                have hx7 := bt_at a0 x6_1
                replace p7 := eq_true p7
                replace q7 := eq_true q7
                go_wp2
                go_roundg k1
                case measure => have := HK1.out; omega
                case rel => exact ⟨(wrap64 (x6_1 + 1)), (by first | rfl | (simp; done) | (simp [*]; done)), H', ⟨by have := HK1.out; omega⟩, by repeat (first | exact Drawn0.refl _ | apply Drawn0.step)⟩
          · rw [if_neg c4] at H
            exact absurd H (by simp)
        · rw [if_neg c3] at H
          exact absurd H (by simp)
      · rw [if_neg c2] at H
        have c2b0 : decide (x6_1 < (a0.size : Int)) = false := decide_eq_false c2
        clear c2
        replace H := Option.bind_eq_some_iff.mp H
        obtain ⟨t147, A90, H⟩ := H
        replace H : (some t147) = some r := H
        have A9 := Aside0.mk A90
        clear A90
        obtain rfl := Option.some.inj H
        go_wp2_with (first | ((with_reducible refine gate_callee (f := 96) rfl ?_); refine goesL_ (some 22) rfl rfl Tryd.func96 (by kernel_rfl) rfl #[.int .i64 (a0.size : Int), .int .i64 1, .int .i64 16] rfl (by (try simp only [List.map_toArray, List.map_cons, List.map_nil]); first | done | rfl | (simp only [List.length_drop, List.length_take]; rfl)) ?_; (with_reducible refine (impl_within.calls (a0.size : Int) 1 16 t147 _ A9.out).mono ?_); rintro e w' ⟨rfl, ⟨nd, rfl⟩⟩; refine ⟨_, rfl, ?_⟩))
        go_ret
        exact ⟨by first | rfl | (simp; done) | (simp [*]; done), by repeat (first | exact Drawn0.refl _ | apply Drawn0.step)⟩

/-! ### impl_isDigest: function 134 -/
def impl_isDigest.f (a0 : ByteArray) : Option (Bool) := some ((a0.size : Int) == 32)
set_option maxHeartbeats 8000000 in
set_option maxRecDepth 100000 in
theorem impl_isDigest.calls (a0 : ByteArray) (r : Bool) (w : World) (h : impl_isDigest.f a0 = some r) :
    Calls Tryd.prog 134 #[.string a0] w fun e w' => e = .returned (.bool r) ∧ Drawn0 w w' := by
  have H : (some ((a0.size : Int) == 32)) = some r := h
  clear h
  obtain rfl := Option.some.inj H
  go_enter Tryd.func134, Tryd.ntmps134
  go_wp2
  go_ret
  exact ⟨by first | rfl | (simp; done) | (simp [*]; done), by repeat (first | exact Drawn0.refl _ | apply Drawn0.step)⟩

/-! ### impl_isHead: function 80 -/
def impl_isHead.f (k : Nat) (a0_0 : ByteArray) (a0_1 : Int) (a0_2 : ByteArray) : Option (Bool) := (impl_isOrigin.f k a0_0).bind fun t149 => (if t149 = true then ((impl_within.f a0_1 0 1000000).bind fun t150 => (if t150 = true then ((impl_isDigest.f a0_2).bind fun t151 => (some t151)) else (some false))) else (some false))
theorem impl_isHead.mono : ∀ a0 a1 a2 k, LeO (impl_isHead.f k a0 a1 a2) (impl_isHead.f (k + 1) a0 a1 a2) := by
  intro a0 a1 a2 k
  unfold impl_isHead.f
  repeat' first
      | (with_reducible exact impl_isOrigin.mono _ _)
      | (with_reducible exact LeO.refl _)
      | (with_reducible exact LeO.none _)
      | (with_reducible refine LeO.ite ?_ ?_)
      | (with_reducible refine LeO.bind ?_ (fun _ => ?_))
      | exact impl_isOrigin.mono _ _
      | exact LeO.none _
      | refine LeO.ite ?_ ?_
      | refine LeO.bind ?_ (fun _ => ?_)
set_option maxHeartbeats 8000000 in
set_option maxRecDepth 100000 in
theorem impl_isHead.calls (k : Nat) (a0_0 : ByteArray) (a0_1 : Int) (a0_2 : ByteArray) (r : Bool) (w : World) (h : impl_isHead.f k a0_0 a0_1 a0_2 = some r) :
    Calls Tryd.prog 80 #[.agg #[.string a0_0, .int .i64 a0_1, .string a0_2]] w fun e w' => e = .returned (.bool r) ∧ Below w.heap.size w w' := by
  have hu27 := Tryd.underlying27
  have HB := Aside0.mk (Below.refl w.heap.size w)
  have H : ((impl_isOrigin.f k a0_0).bind fun t149 => (if t149 = true then ((impl_within.f a0_1 0 1000000).bind fun t150 => (if t150 = true then ((impl_isDigest.f a0_2).bind fun t151 => (some t151)) else (some false))) else (some false))) = some r := h
  clear h
  replace H := Option.bind_eq_some_iff.mp H
  obtain ⟨t149, A20, H⟩ := H
  replace H : (if t149 = true then ((impl_within.f a0_1 0 1000000).bind fun t150 => (if t150 = true then ((impl_isDigest.f a0_2).bind fun t151 => (some t151)) else (some false))) else (some false)) = some r := H
  have A2 := Aside0.mk A20
  clear A20
  by_cases c3 : t149 = true
  · subst c3
    have H1 : ((impl_within.f a0_1 0 1000000).bind fun t150 => (if t150 = true then ((impl_isDigest.f a0_2).bind fun t151 => (some t151)) else (some false))) = some r := by rw [if_pos rfl] at H; exact H
    clear H
    have H := H1
    clear H1
    replace H := Option.bind_eq_some_iff.mp H
    obtain ⟨t150, A40, H⟩ := H
    replace H : (if t150 = true then ((impl_isDigest.f a0_2).bind fun t151 => (some t151)) else (some false)) = some r := H
    have A4 := Aside0.mk A40
    clear A40
    by_cases c5 : t150 = true
    · subst c5
      have H1 : ((impl_isDigest.f a0_2).bind fun t151 => (some t151)) = some r := by rw [if_pos rfl] at H; exact H
      clear H
      have H := H1
      clear H1
      replace H := Option.bind_eq_some_iff.mp H
      obtain ⟨t151, A60, H⟩ := H
      replace H : (some t151) = some r := H
      have A6 := Aside0.mk A60
      clear A60
      obtain rfl := Option.some.inj H
      go_enter Tryd.func80, Tryd.ntmps80
      go_wp2_with (first | ((with_reducible refine gate_dst (N := 1) rfl ?_); refine box_event ?hg (N := 1) ?hd (cs := #[.string a0_0, .int .i64 a0_1, .string a0_2]) (t := 27) ?hr ?_; (case hd => rfl); (case hg => rfl); (case hr => first | (go_simp; done) | (go_simp; rfl)); intro gb148 hg w7 hbox hb; have n0_ := Aside0.mk (below_step (by repeat (first | (with_reducible first | exact HB.out | apply below_alloc | apply pw_below_drewN | apply below_drew1) | exact HB.out)) hb); have n1_ := Aside0.mk (hbox); have n2_ := Aside0.mk ((by rw [hg]; exact (below_size (by repeat (first | (with_reducible first | exact HB.out | apply below_alloc | apply pw_below_drewN | apply below_drew1) | exact HB.out))) : w.heap.size ≤ gb148)); have n3_ := Aside0.mk ((by rw [hg]; exact (below_size (by repeat (first | (with_reducible first | exact HB.out | apply below_alloc | apply pw_below_drewN | apply below_drew1) | exact HB.out))) : w.heap.size ≤ gb148)); clear HB; have HB := n0_; have BK148 := n1_; have GW148 := n2_; have GE148 := n3_; clear n0_ n1_ n2_ n3_; clear hb hbox hg; have hcz8_0 : w7.cell? ⟨gb148, 0, none⟩ = some (.string a0_0) := (blk_cell BK148.out 0).trans rfl; have hcz8_1 : w7.cell? ⟨gb148, 1, none⟩ = some (.int .i64 a0_1) := (blk_cell BK148.out 1).trans rfl; have hcz8_2 : w7.cell? ⟨gb148, 2, none⟩ = some (.string a0_2) := (blk_cell BK148.out 2).trans rfl; have hfz8_0 := blk_frozen BK148.out 0; have hfz8_1 := blk_frozen BK148.out 1; have hfz8_2 := blk_frozen BK148.out 2) | ((with_reducible refine gate_callee (f := 133) rfl ?_); refine goesL_ (some 5) rfl rfl Tryd.func133 (by kernel_rfl) rfl #[.string a0_0] rfl (by (try simp only [List.map_toArray, List.map_cons, List.map_nil]); first | done | rfl | (simp only [List.length_drop, List.length_take]; rfl)) ?_; (with_reducible refine (impl_isOrigin.calls k a0_0 true _ A2.out).mono ?_); rintro e w' ⟨rfl, ⟨nd, rfl⟩⟩; refine ⟨_, rfl, ?_⟩) | (go_at_call 96; (with_reducible refine (impl_within.calls a0_1 0 1000000 true _ A4.out).mono ?_); rintro e w' ⟨rfl, ⟨nd, rfl⟩⟩) | (go_at_call 134; (with_reducible refine (impl_isDigest.calls a0_2 t151 _ A6.out).mono ?_); rintro e w' ⟨rfl, ⟨nd, rfl⟩⟩))
      go_ret
      exact ⟨by first | rfl | (simp [errW_none, errW_some] <;> rfl) | (simp [*, errW_none, errW_some] <;> rfl), by repeat (first | (with_reducible first | exact HB.out | apply below_alloc | apply pw_below_drewN | apply below_drew1 | refine below_set ?_ GE148.out) | exact HB.out)⟩
    · replace c5 := Bool.eq_false_iff.mpr c5
      subst c5
      have H1 : (some false) = some r := by rw [if_neg (show ¬ (false = true) by decide)] at H; exact H
      clear H
      have H := H1
      clear H1
      obtain rfl := Option.some.inj H
      go_enter Tryd.func80, Tryd.ntmps80
      go_wp2_with (first | ((with_reducible refine gate_dst (N := 1) rfl ?_); refine box_event ?hg (N := 1) ?hd (cs := #[.string a0_0, .int .i64 a0_1, .string a0_2]) (t := 27) ?hr ?_; (case hd => rfl); (case hg => rfl); (case hr => first | (go_simp; done) | (go_simp; rfl)); intro gb148 hg w9 hbox hb; have n0_ := Aside0.mk (below_step (by repeat (first | (with_reducible first | exact HB.out | apply below_alloc | apply pw_below_drewN | apply below_drew1) | exact HB.out)) hb); have n1_ := Aside0.mk (hbox); have n2_ := Aside0.mk ((by rw [hg]; exact (below_size (by repeat (first | (with_reducible first | exact HB.out | apply below_alloc | apply pw_below_drewN | apply below_drew1) | exact HB.out))) : w.heap.size ≤ gb148)); have n3_ := Aside0.mk ((by rw [hg]; exact (below_size (by repeat (first | (with_reducible first | exact HB.out | apply below_alloc | apply pw_below_drewN | apply below_drew1) | exact HB.out))) : w.heap.size ≤ gb148)); clear HB; have HB := n0_; have BK148 := n1_; have GW148 := n2_; have GE148 := n3_; clear n0_ n1_ n2_ n3_; clear hb hbox hg; have hcz10_0 : w9.cell? ⟨gb148, 0, none⟩ = some (.string a0_0) := (blk_cell BK148.out 0).trans rfl; have hcz10_1 : w9.cell? ⟨gb148, 1, none⟩ = some (.int .i64 a0_1) := (blk_cell BK148.out 1).trans rfl; have hcz10_2 : w9.cell? ⟨gb148, 2, none⟩ = some (.string a0_2) := (blk_cell BK148.out 2).trans rfl; have hfz10_0 := blk_frozen BK148.out 0; have hfz10_1 := blk_frozen BK148.out 1; have hfz10_2 := blk_frozen BK148.out 2) | ((with_reducible refine gate_callee (f := 133) rfl ?_); refine goesL_ (some 5) rfl rfl Tryd.func133 (by kernel_rfl) rfl #[.string a0_0] rfl (by (try simp only [List.map_toArray, List.map_cons, List.map_nil]); first | done | rfl | (simp only [List.length_drop, List.length_take]; rfl)) ?_; (with_reducible refine (impl_isOrigin.calls k a0_0 true _ A2.out).mono ?_); rintro e w' ⟨rfl, ⟨nd, rfl⟩⟩; refine ⟨_, rfl, ?_⟩) | (go_at_call 96; (with_reducible refine (impl_within.calls a0_1 0 1000000 false _ A4.out).mono ?_); rintro e w' ⟨rfl, ⟨nd, rfl⟩⟩))
      go_ret
      exact ⟨by first | rfl | (simp [errW_none, errW_some] <;> rfl) | (simp [*, errW_none, errW_some] <;> rfl), by repeat (first | (with_reducible first | exact HB.out | apply below_alloc | apply pw_below_drewN | apply below_drew1 | refine below_set ?_ GE148.out) | exact HB.out)⟩
  · replace c3 := Bool.eq_false_iff.mpr c3
    subst c3
    have H1 : (some false) = some r := by rw [if_neg (show ¬ (false = true) by decide)] at H; exact H
    clear H
    have H := H1
    clear H1
    obtain rfl := Option.some.inj H
    go_enter Tryd.func80, Tryd.ntmps80
    go_wp2_with (first | ((with_reducible refine gate_dst (N := 1) rfl ?_); refine box_event ?hg (N := 1) ?hd (cs := #[.string a0_0, .int .i64 a0_1, .string a0_2]) (t := 27) ?hr ?_; (case hd => rfl); (case hg => rfl); (case hr => first | (go_simp; done) | (go_simp; rfl)); intro gb148 hg w11 hbox hb; have n0_ := Aside0.mk (below_step (by repeat (first | (with_reducible first | exact HB.out | apply below_alloc | apply pw_below_drewN | apply below_drew1) | exact HB.out)) hb); have n1_ := Aside0.mk (hbox); have n2_ := Aside0.mk ((by rw [hg]; exact (below_size (by repeat (first | (with_reducible first | exact HB.out | apply below_alloc | apply pw_below_drewN | apply below_drew1) | exact HB.out))) : w.heap.size ≤ gb148)); have n3_ := Aside0.mk ((by rw [hg]; exact (below_size (by repeat (first | (with_reducible first | exact HB.out | apply below_alloc | apply pw_below_drewN | apply below_drew1) | exact HB.out))) : w.heap.size ≤ gb148)); clear HB; have HB := n0_; have BK148 := n1_; have GW148 := n2_; have GE148 := n3_; clear n0_ n1_ n2_ n3_; clear hb hbox hg; have hcz12_0 : w11.cell? ⟨gb148, 0, none⟩ = some (.string a0_0) := (blk_cell BK148.out 0).trans rfl; have hcz12_1 : w11.cell? ⟨gb148, 1, none⟩ = some (.int .i64 a0_1) := (blk_cell BK148.out 1).trans rfl; have hcz12_2 : w11.cell? ⟨gb148, 2, none⟩ = some (.string a0_2) := (blk_cell BK148.out 2).trans rfl; have hfz12_0 := blk_frozen BK148.out 0; have hfz12_1 := blk_frozen BK148.out 1; have hfz12_2 := blk_frozen BK148.out 2) | ((with_reducible refine gate_callee (f := 133) rfl ?_); refine goesL_ (some 5) rfl rfl Tryd.func133 (by kernel_rfl) rfl #[.string a0_0] rfl (by (try simp only [List.map_toArray, List.map_cons, List.map_nil]); first | done | rfl | (simp only [List.length_drop, List.length_take]; rfl)) ?_; (with_reducible refine (impl_isOrigin.calls k a0_0 false _ A2.out).mono ?_); rintro e w' ⟨rfl, ⟨nd, rfl⟩⟩; refine ⟨_, rfl, ?_⟩))
    go_ret
    exact ⟨by first | rfl | (simp [errW_none, errW_some] <;> rfl) | (simp [*, errW_none, errW_some] <;> rfl), by repeat (first | (with_reducible first | exact HB.out | apply below_alloc | apply pw_below_drewN | apply below_drew1 | refine below_set ?_ GE148.out) | exact HB.out)⟩

/-! ### impl_signsOf: function 114 -/
def sg_alpha : List UInt8 := [65, 66, 67, 68, 69, 70, 71, 72, 73, 74, 75, 76, 77, 78, 79, 80, 81, 82, 83, 84, 85, 86, 87, 88, 89, 90, 97, 98, 99, 100, 101, 102, 103, 104, 105, 106, 107, 108, 109, 110, 111, 112, 113, 114, 115, 116, 117, 118, 119, 120, 121, 122, 48, 49, 50, 51, 52, 53, 54, 55, 56, 57, 43, 47]
def sg_b (g : List UInt8) (i : Nat) : Nat := (g.getD i 0).toNat
/-- The number of a group's first k bytes, the lacking ones zero. -/
def sg_num (g : List UInt8) : Nat → Nat
  | 0 => 0
  | k + 1 => sg_num g k * 256 + sg_b g k
def sg_one (g : List UInt8) (i : Nat) : UInt8 := if g.length < i then 61 else sg_alpha.getD (sg_num g 3 / 2 ^ (18 - 6 * i) % 64) 0
def sg_quad (g : List UInt8) : List UInt8 := [sg_one g 0, sg_one g 1, sg_one g 2, sg_one g 3]
def sg_all : Nat → List UInt8 → List UInt8
  | 0, _ => []
  | f + 1, l => if l = [] then [] else sg_quad (l.take 3) ++ sg_all f (l.drop 3)
theorem sg_b_lt (g : List UInt8) (i : Nat) : sg_b g i < 256 := UInt8.toNat_lt _
theorem sg_num_lt (g : List UInt8) : ∀ k, sg_num g k < 256 ^ k
  | 0 => by simp [sg_num]
  | k + 1 => by have := sg_num_lt g k; have := sg_b_lt g k; rw [sg_num, Nat.pow_succ]; omega
theorem sg_and63 (x : Int) (h0 : 0 ≤ x) (h1 : x < 9223372036854775808) : Go.bits .and .i64 x 63 = x % 64 := by
  have h := bits_mask .i64 63 (by decide) (fun n h₀ h₁ => by rw [IntKind.wrap_i64]; omega) 6 (by decide) x h0 (by omega)
  simpa using h
theorem sg_or (v b : Int) (h0 : 0 ≤ v) (h1 : v < 4611686018427387904) (hv : v % 256 = 0) (h2 : 0 ≤ b) (h3 : b < 256) : Go.bits .or .i64 v b = v + b :=
  bits_join .i64 63 (by decide) (fun n h₀ h₁ => by rw [IntKind.wrap_i64]; omega) 8 _ _ h0 hv (by omega) h2 (by omega) (by omega)
theorem sg_all_nil (f : Nat) : sg_all f [] = [] := by cases f <;> simp [sg_all]
theorem sg_all_more : ∀ (f : Nat) (l : List UInt8), l.length ≤ f → sg_all (f + 1) l = sg_all f l
  | 0, l, h => by have : l = [] := List.eq_nil_of_length_eq_zero (by omega); subst this; simp [sg_all]
  | f + 1, l, h => by
    rw [show sg_all (f + 1 + 1) l = if l = [] then [] else sg_quad (l.take 3) ++ sg_all (f + 1) (l.drop 3) from rfl, show sg_all (f + 1) l = if l = [] then [] else sg_quad (l.take 3) ++ sg_all f (l.drop 3) from rfl]
    by_cases e : l = []
    · rw [if_pos e, if_pos e]
    · have : 0 < l.length := List.length_pos_iff.2 e
      rw [if_neg e, if_neg e, sg_all_more f (l.drop 3) (by rw [List.length_drop]; omega)]
def sg_of (l : List UInt8) : List UInt8 := sg_all l.length l
theorem sg_all_of (l : List UInt8) : ∀ d, sg_all (l.length + d) l = sg_of l
  | 0 => rfl
  | d + 1 => by rw [← Nat.add_assoc, sg_all_more _ _ (by omega)]; exact sg_all_of l d
theorem sg_of_cons (l : List UInt8) (h : l ≠ []) : sg_of l = sg_quad (l.take 3) ++ sg_of (l.drop 3) := by
  have h0 : 0 < l.length := List.length_pos_iff.2 h
  obtain ⟨n, hn⟩ : ∃ n, l.length = n + 1 := ⟨l.length - 1, by omega⟩
  have hd : (l.drop 3).length + (n - (l.drop 3).length) = n := by rw [List.length_drop]; omega
  rw [sg_of, hn, sg_all, if_neg h, ← sg_all_of (l.drop 3) (n - (l.drop 3).length), hd]
theorem sg_quad_len (g : List UInt8) : (sg_quad g).length = 4 := rfl
theorem sg_of_len : ∀ (n : Nat) (l : List UInt8), l.length ≤ n → (sg_of l).length ≤ 4 * l.length + 0
  | 0, l, h => by have : l = [] := List.eq_nil_of_length_eq_zero (by omega); subst this; simp [sg_of, sg_all]
  | n + 1, l, h => by
    by_cases e : l = []
    · subst e; simp [sg_of, sg_all]
    · have h0 : 0 < l.length := List.length_pos_iff.2 e
      have := sg_of_len n (l.drop 3) (by rw [List.length_drop]; omega)
      rw [sg_of_cons l e, List.length_append, sg_quad_len]
      rw [List.length_drop] at this
      omega
def impl_signsOf.f (a0 : ByteArray) : Option ByteArray := if a0.size ≤ 1000000000000 then some ⟨(sg_of a0.data.toList).toArray⟩ else none
theorem sg_bt (t : ByteArray) (k : Nat) : ((t.data.toList.getD k 0).toNat : Int) = bt t k := by
  unfold bt
  by_cases h : k < t.size
  · have h' : (k : Int).toNat < t.size := by simpa using h
    rw [dif_pos h', List.getD_eq_getElem?_getD, List.getElem?_eq_getElem (by rw [data_length]; exact h)]
    simp; rfl
  · have h' : ¬ (k : Int).toNat < t.size := by simpa using h
    rw [dif_neg h', List.getD_eq_getElem?_getD, List.getElem?_eq_none (by rw [data_length]; omega)]
    rfl
theorem sg_cell (c : UInt8) : [Value.int .u8 (c.toNat : Int)] = Lib.byteCells [c] := rfl
theorem sg_alpha_at (X : Nat) (xl : X < 64) (h : X < (⟨#[65, 66, 67, 68, 69, 70, 71, 72, 73, 74, 75, 76, 77, 78, 79, 80, 81, 82, 83, 84, 85, 86, 87, 88, 89, 90, 97, 98, 99, 100, 101, 102, 103, 104, 105, 106, 107, 108, 109, 110, 111, 112, 113, 114, 115, 116, 117, 118, 119, 120, 121, 122, 48, 49, 50, 51, 52, 53, 54, 55, 56, 57, 43, 47]⟩ : ByteArray).size) : (((⟨#[65, 66, 67, 68, 69, 70, 71, 72, 73, 74, 75, 76, 77, 78, 79, 80, 81, 82, 83, 84, 85, 86, 87, 88, 89, 90, 97, 98, 99, 100, 101, 102, 103, 104, 105, 106, 107, 108, 109, 110, 111, 112, 113, 114, 115, 116, 117, 118, 119, 120, 121, 122, 48, 49, 50, 51, 52, 53, 54, 55, 56, 57, 43, 47]⟩ : ByteArray)[X]'h).toNat : Int) = ((sg_alpha.getD X 0).toNat : Int) := by
  rw [List.getD_eq_getElem?_getD, List.getElem?_eq_getElem (show X < sg_alpha.length from xl)]
  rfl
set_option maxHeartbeats 8000000 in
set_option maxRecDepth 100000 in
theorem impl_signsOf.calls (a0 : ByteArray) (r : ByteArray) (w : World) (h : impl_signsOf.f a0 = some r) :
    Calls Tryd.prog 114 #[.string a0] w fun e w' => e = .returned (.string r) ∧ Below w.heap.size w w' := by
  unfold impl_signsOf.f at h
  by_cases hl : a0.size ≤ 1000000000000
  rotate_left
  · rw [if_neg hl] at h; cases h
  rw [if_pos hl] at h
  obtain rfl := Option.some.inj h
  have HS := Aside0.mk hl
  have HF := Aside0.mk (Go.Proofs.YtgoedenbekedbaaDoor.Bld.fresh w)
  have HB := Aside0.mk (Below.refl w.heap.size w)
  clear hl h
  go_enter Tryd.func114, Tryd.ntmps114
  go_wp2
  go_loopw [0] (fun v wr => ∃ (t : ByteArray) (acc : List UInt8), v = .string t ∧ Aside0 (t.size ≤ a0.size) ∧ Aside0 (acc.length ≤ 4 * (a0.size - t.size)) ∧ Aside0 (Lib.IsBuilder 122 5 w.heap.size w.heap.size (Lib.byteCells acc) wr) ∧ Aside0 (Below w.heap.size w wr) ∧ Aside0 (acc ++ sg_of t.data.toList = sg_of a0.data.toList)) (fun v _ => match v with | .string t => t.size | _ => 0)
  case atStart => exact ⟨a0, [], rfl, ⟨Nat.le_refl _⟩, ⟨by simp⟩, HF, ⟨below_alloc HB.out _⟩, ⟨rfl⟩⟩
  case round =>
    clear HF HB
    obtain ⟨t, acc, rfl, HT, HA, HI, HB, HE⟩ := hrel
    by_cases c3 : t.toList = ([] : List UInt8)
    · have c3b0 : (t.toList == ([] : List UInt8)) = true := beq_iff_eq.mpr c3
      have c3b1 : (t.toList != ([] : List UInt8)) = false := bne_eq_false_iff_eq.mpr c3
      have C3 := Aside0.mk c3
      clear c3
      go_wp2_with (go_at_call 148; (with_reducible refine (Go.Proofs.YtgoedenbekedbaaDoor.Bld.string w.heap.size w.heap.size acc _ HI.out (below_size HB.out)).mono ?_); rintro e w2 ⟨rfl, hb⟩; have n0_ := Aside0.mk (HB.out.trans hb); clear HB hb; have HB := n0_; clear n0_)
      go_ret
      have e := HE.out
      have c3 := C3.out
      rw [ByteArray.toList_eq] at c3
      rw [c3, show sg_of [] = [] from rfl, List.append_nil] at e
      exact ⟨by rw [e]; rfl, HB.out⟩
    · have c3b0 : (t.toList == ([] : List UInt8)) = false := beq_eq_false_iff_ne.mpr c3
      have c3b1 : (t.toList != ([] : List UInt8)) = true := bne_iff_ne.mpr c3
      have hz : 0 < t.size := by
        rcases Nat.eq_zero_or_pos t.size with h0 | h0
        · exact absurd (by rw [ByteArray.toList_eq]; exact List.eq_nil_of_length_eq_zero (by rw [data_length]; exact h0)) c3
        · exact h0
      have hT := HT.out
      have hS := HS.out
      obtain ⟨J, hJ⟩ : ∃ J : Nat, J = min 3 t.size := ⟨_, rfl⟩
      have j1 : 1 ≤ J := by omega
      have j3 : J ≤ 3 := by omega
      have jt : J ≤ t.size := by omega
      have hJ_ : (if (t.size : Int) < 3 then (t.size : Int) else 3) = (J : Int) := by split <;> omega
      obtain ⟨G, hG⟩ : ∃ G, t.extract 0 J = G := ⟨_, rfl⟩
      have gs : G.size = J := by rw [← hG]; simp [ByteArray.size_extract]; omega
      have gd : G.data.toList = t.data.toList.take 3 := by
        rw [← hG]
        simp only [ByteArray.data_extract, Array.toList_extract, List.extract_eq_take_drop, List.drop_zero, Nat.sub_zero]
        rw [hJ]
        rcases Nat.le_total 3 t.size with q | q
        · rw [Nat.min_eq_left q]
        · rw [Nat.min_eq_right q, List.take_of_length_le (by rw [data_length]; omega), List.take_of_length_le (by rw [data_length]; omega)]
      have GS := Aside0.mk gs
      have GD := Aside0.mk gd
      have J_ := Aside0.mk hJ
      clear hJ gs gd
      go_wp2
      go_loop [5, 20] (fun n i => ∃ k : Nat, k ≤ 3 ∧ i = .int .i64 k ∧ n = .int .i64 (sg_num G.data.toList k)) (fun _ i => 3 - (intOf i).toNat)
      case atStart => exact ⟨0, by omega, rfl, rfl⟩
      case round =>
        obtain ⟨k, hk, rfl, rfl⟩ := hrel
        have nl := sg_num_lt G.data.toList k
        have GSo := GS.out
        by_cases e3 : k = 3
        · subst e3
          have HI0 := HI
          have HB0 := HB
          clear HI HB
          have nl3 := sg_num_lt G.data.toList 3
          obtain ⟨N, hN⟩ : ∃ N, sg_num G.data.toList 3 = N := ⟨_, rfl⟩
          have HN := Aside0.mk hN
          rw [hN] at nl3
          simp only [hN]
          clear hN
          have m0 : (0 : Int) ≤ (N : Int) := by omega
          have m1 : (N : Int) ≤ 16777215 := by omega
          go_wp2
          go_loopw [36] (fun i wr2 => ∃ k : Nat, k ≤ 4 ∧ i = .int .i64 k ∧ Aside0 (Lib.IsBuilder 122 5 w.heap.size w.heap.size (Lib.byteCells (acc ++ (sg_quad G.data.toList).take k)) wr2) ∧ Aside0 (Below w.heap.size w wr2)) (fun i _ => 4 - (intOf i).toNat)
          case atStart => exact ⟨0, by omega, rfl, by simpa using HI0, HB0⟩
          case round =>
            clear HI0 HB0
            obtain ⟨k2, hk2, rfl, HI, HB⟩ := hrel
            by_cases e4 : k2 = 4
            · subst e4
              have es : (t.extract J t.size).size = t.size - J := by simp [ByteArray.size_extract]
              have ed : (t.extract J t.size).data.toList = t.data.toList.drop 3 := by
                simp only [ByteArray.data_extract, Array.toList_extract, List.extract_eq_take_drop]
                rw [List.take_of_length_le (by rw [List.length_drop, data_length]; omega)]
                have jj := J_.out
                rcases Nat.le_total 3 t.size with q | q
                · rw [jj, Nat.min_eq_left q]
                · rw [jj, Nat.min_eq_right q, (List.drop_eq_nil_iff (l := t.data.toList) (i := t.size)).2 (by rw [data_length]; omega), (List.drop_eq_nil_iff (l := t.data.toList) (i := 3)).2 (by rw [data_length]; omega)]
              have ES := Aside0.mk es
              have ED := Aside0.mk ed
              clear es ed
              go_wp2
              go_roundw
              case rel =>
                refine ⟨t.extract J t.size, acc ++ sg_quad G.data.toList, rfl, ⟨by have := ES.out; omega⟩, ⟨?_⟩, HI, HB, ⟨?_⟩⟩
                · have := HA.out; have := ES.out; rw [List.length_append, sg_quad_len]; omega
                · have e := HE.out
                  have hne : t.data.toList ≠ [] := fun e0 => by have h9 := congrArg List.length e0; rw [data_length, List.length_nil] at h9; omega
                  rw [sg_of_cons _ hne, ← GD.out, ← ED.out, ← List.append_assoc] at e
                  exact e
              case measure => have := ES.out; simp only [Array.getD_eq_getD_getElem?]; simp; omega
            · have GSo := GS.out
              obtain rfl | rfl | rfl | rfl : k2 = 0 ∨ k2 = 1 ∨ k2 = 2 ∨ k2 = 3 := by omega
              · by_cases q : G.size < 0
                · exact absurd q (by have := GS.out; omega)
                · skip
                  have q1 : decide (G.size < 0) = false := decide_eq_false q
                  have q2 : decide ((0 : Int) > (G.size : Int)) = false := decide_eq_false (by omega)
                  obtain ⟨X, hX⟩ : ∃ X : Nat, X = N / 2 ^ (18 - 6 * 0) % 64 := ⟨_, rfl⟩
                  have xl : X < 64 := by rw [hX]; exact Nat.mod_lt _ (by decide)
                  have hN : Go.bits .and .i64 ((N : Int) / 262144) 63 = (X : Int) := by rw [sg_and63 _ (by omega) (by omega), hX]; omega
                  obtain ⟨C, hC⟩ : ∃ C : Nat, C = (sg_alpha.getD X 0).toNat := ⟨_, rfl⟩
                  have one : (sg_one G.data.toList 0).toNat = C := by unfold sg_one; rw [if_neg (by rw [data_length]; exact q), HN.out, hC, hX]
                  have ONE := Aside0.mk one
                  have hx : ∀ h : X < (⟨#[65, 66, 67, 68, 69, 70, 71, 72, 73, 74, 75, 76, 77, 78, 79, 80, 81, 82, 83, 84, 85, 86, 87, 88, 89, 90, 97, 98, 99, 100, 101, 102, 103, 104, 105, 106, 107, 108, 109, 110, 111, 112, 113, 114, 115, 116, 117, 118, 119, 120, 121, 122, 48, 49, 50, 51, 52, 53, 54, 55, 56, 57, 43, 47]⟩ : ByteArray).size, (((⟨#[65, 66, 67, 68, 69, 70, 71, 72, 73, 74, 75, 76, 77, 78, 79, 80, 81, 82, 83, 84, 85, 86, 87, 88, 89, 90, 97, 98, 99, 100, 101, 102, 103, 104, 105, 106, 107, 108, 109, 110, 111, 112, 113, 114, 115, 116, 117, 118, 119, 120, 121, 122, 48, 49, 50, 51, 52, 53, 54, 55, 56, 57, 43, 47]⟩ : ByteArray)[X]'h).toNat : Int) = (C : Int) := fun h => by rw [hC]; exact sg_alpha_at X xl h
                  have x0 := eq_true (show (0 : Int) ≤ (X : Int) by omega)
                  have x1 := eq_true (show (X : Int) < 64 by omega)
                  have x2 := eq_true xl
                  clear one hC
                  clear hX
                  go_wp2_with (go_at_call 147; (with_reducible refine (Go.Proofs.YtgoedenbekedbaaDoor.Bld.writeByte w.heap.size w.heap.size _ (C : Int) _ HI.out (by rw [Lib.byteCells_length]; have := HA.out; have := HS.out; simp [sg_quad]; omega) (below_size HB.out)).mono ?_); rintro e w2 ⟨rfl, hI, hb⟩; have n0_ := Aside0.mk (HB.out.trans hb); have n1_ := Aside0.mk hI; clear HB HI hI hb; have HB := n0_; have HI := n1_; clear n0_ n1_)
                  go_roundw
                  case rel => exact ⟨1, by omega, by go_num, by have h := HI.out; rw [show [Value.int .u8 (C : Int)] = Lib.byteCells [sg_one G.data.toList 0] by rw [← ONE.out]; rfl, ← Lib.byteCells_append, List.append_assoc] at h; exact ⟨h⟩, HB⟩
                  case measure => simp [intOf]
              · by_cases q : G.size < 1
                · exact absurd q (by have := GS.out; omega)
                · skip
                  have q1 : decide (G.size < 1) = false := decide_eq_false q
                  have q2 : decide ((1 : Int) > (G.size : Int)) = false := decide_eq_false (by omega)
                  obtain ⟨X, hX⟩ : ∃ X : Nat, X = N / 2 ^ (18 - 6 * 1) % 64 := ⟨_, rfl⟩
                  have xl : X < 64 := by rw [hX]; exact Nat.mod_lt _ (by decide)
                  have hN : Go.bits .and .i64 ((N : Int) / 4096) 63 = (X : Int) := by rw [sg_and63 _ (by omega) (by omega), hX]; omega
                  obtain ⟨C, hC⟩ : ∃ C : Nat, C = (sg_alpha.getD X 0).toNat := ⟨_, rfl⟩
                  have one : (sg_one G.data.toList 1).toNat = C := by unfold sg_one; rw [if_neg (by rw [data_length]; exact q), HN.out, hC, hX]
                  have ONE := Aside0.mk one
                  have hx : ∀ h : X < (⟨#[65, 66, 67, 68, 69, 70, 71, 72, 73, 74, 75, 76, 77, 78, 79, 80, 81, 82, 83, 84, 85, 86, 87, 88, 89, 90, 97, 98, 99, 100, 101, 102, 103, 104, 105, 106, 107, 108, 109, 110, 111, 112, 113, 114, 115, 116, 117, 118, 119, 120, 121, 122, 48, 49, 50, 51, 52, 53, 54, 55, 56, 57, 43, 47]⟩ : ByteArray).size, (((⟨#[65, 66, 67, 68, 69, 70, 71, 72, 73, 74, 75, 76, 77, 78, 79, 80, 81, 82, 83, 84, 85, 86, 87, 88, 89, 90, 97, 98, 99, 100, 101, 102, 103, 104, 105, 106, 107, 108, 109, 110, 111, 112, 113, 114, 115, 116, 117, 118, 119, 120, 121, 122, 48, 49, 50, 51, 52, 53, 54, 55, 56, 57, 43, 47]⟩ : ByteArray)[X]'h).toNat : Int) = (C : Int) := fun h => by rw [hC]; exact sg_alpha_at X xl h
                  have x0 := eq_true (show (0 : Int) ≤ (X : Int) by omega)
                  have x1 := eq_true (show (X : Int) < 64 by omega)
                  have x2 := eq_true xl
                  clear one hC
                  clear hX
                  go_wp2_with (go_at_call 147; (with_reducible refine (Go.Proofs.YtgoedenbekedbaaDoor.Bld.writeByte w.heap.size w.heap.size _ (C : Int) _ HI.out (by rw [Lib.byteCells_length]; have := HA.out; have := HS.out; simp [sg_quad]; omega) (below_size HB.out)).mono ?_); rintro e w2 ⟨rfl, hI, hb⟩; have n0_ := Aside0.mk (HB.out.trans hb); have n1_ := Aside0.mk hI; clear HB HI hI hb; have HB := n0_; have HI := n1_; clear n0_ n1_)
                  go_roundw
                  case rel => exact ⟨2, by omega, by go_num, by have h := HI.out; rw [show [Value.int .u8 (C : Int)] = Lib.byteCells [sg_one G.data.toList 1] by rw [← ONE.out]; rfl, ← Lib.byteCells_append, List.append_assoc] at h; exact ⟨h⟩, HB⟩
                  case measure => simp [intOf]
              · by_cases q : G.size < 2
                · skip
                  have q1 : decide (G.size < 2) = true := decide_eq_true q
                  have q2 : decide ((2 : Int) > (G.size : Int)) = true := decide_eq_true (by omega)
                  have one : sg_one G.data.toList 2 = 61 := by unfold sg_one; rw [if_pos (by rw [data_length]; exact q)]
                  have ONE := Aside0.mk one
                  clear one
                  go_wp2_with (go_at_call 147; (with_reducible refine (Go.Proofs.YtgoedenbekedbaaDoor.Bld.writeByte w.heap.size w.heap.size _ 61 _ HI.out (by rw [Lib.byteCells_length]; have := HA.out; have := HS.out; simp [sg_quad]; omega) (below_size HB.out)).mono ?_); rintro e w2 ⟨rfl, hI, hb⟩; have n0_ := Aside0.mk (HB.out.trans hb); have n1_ := Aside0.mk hI; clear HB HI hI hb; have HB := n0_; have HI := n1_; clear n0_ n1_)
                  go_roundw
                  case rel => exact ⟨3, by omega, by go_num, by have h := HI.out; rw [show [Value.int .u8 61] = Lib.byteCells [sg_one G.data.toList 2] by rw [ONE.out]; rfl, ← Lib.byteCells_append, List.append_assoc] at h; exact ⟨h⟩, HB⟩
                  case measure => simp [intOf]
                · skip
                  have q1 : decide (G.size < 2) = false := decide_eq_false q
                  have q2 : decide ((2 : Int) > (G.size : Int)) = false := decide_eq_false (by omega)
                  obtain ⟨X, hX⟩ : ∃ X : Nat, X = N / 2 ^ (18 - 6 * 2) % 64 := ⟨_, rfl⟩
                  have xl : X < 64 := by rw [hX]; exact Nat.mod_lt _ (by decide)
                  have hN : Go.bits .and .i64 ((N : Int) / 64) 63 = (X : Int) := by rw [sg_and63 _ (by omega) (by omega), hX]; omega
                  obtain ⟨C, hC⟩ : ∃ C : Nat, C = (sg_alpha.getD X 0).toNat := ⟨_, rfl⟩
                  have one : (sg_one G.data.toList 2).toNat = C := by unfold sg_one; rw [if_neg (by rw [data_length]; exact q), HN.out, hC, hX]
                  have ONE := Aside0.mk one
                  have hx : ∀ h : X < (⟨#[65, 66, 67, 68, 69, 70, 71, 72, 73, 74, 75, 76, 77, 78, 79, 80, 81, 82, 83, 84, 85, 86, 87, 88, 89, 90, 97, 98, 99, 100, 101, 102, 103, 104, 105, 106, 107, 108, 109, 110, 111, 112, 113, 114, 115, 116, 117, 118, 119, 120, 121, 122, 48, 49, 50, 51, 52, 53, 54, 55, 56, 57, 43, 47]⟩ : ByteArray).size, (((⟨#[65, 66, 67, 68, 69, 70, 71, 72, 73, 74, 75, 76, 77, 78, 79, 80, 81, 82, 83, 84, 85, 86, 87, 88, 89, 90, 97, 98, 99, 100, 101, 102, 103, 104, 105, 106, 107, 108, 109, 110, 111, 112, 113, 114, 115, 116, 117, 118, 119, 120, 121, 122, 48, 49, 50, 51, 52, 53, 54, 55, 56, 57, 43, 47]⟩ : ByteArray)[X]'h).toNat : Int) = (C : Int) := fun h => by rw [hC]; exact sg_alpha_at X xl h
                  have x0 := eq_true (show (0 : Int) ≤ (X : Int) by omega)
                  have x1 := eq_true (show (X : Int) < 64 by omega)
                  have x2 := eq_true xl
                  clear one hC
                  clear hX
                  go_wp2_with (go_at_call 147; (with_reducible refine (Go.Proofs.YtgoedenbekedbaaDoor.Bld.writeByte w.heap.size w.heap.size _ (C : Int) _ HI.out (by rw [Lib.byteCells_length]; have := HA.out; have := HS.out; simp [sg_quad]; omega) (below_size HB.out)).mono ?_); rintro e w2 ⟨rfl, hI, hb⟩; have n0_ := Aside0.mk (HB.out.trans hb); have n1_ := Aside0.mk hI; clear HB HI hI hb; have HB := n0_; have HI := n1_; clear n0_ n1_)
                  go_roundw
                  case rel => exact ⟨3, by omega, by go_num, by have h := HI.out; rw [show [Value.int .u8 (C : Int)] = Lib.byteCells [sg_one G.data.toList 2] by rw [← ONE.out]; rfl, ← Lib.byteCells_append, List.append_assoc] at h; exact ⟨h⟩, HB⟩
                  case measure => simp [intOf]
              · by_cases q : G.size < 3
                · skip
                  have q1 : decide (G.size < 3) = true := decide_eq_true q
                  have q2 : decide ((3 : Int) > (G.size : Int)) = true := decide_eq_true (by omega)
                  have one : sg_one G.data.toList 3 = 61 := by unfold sg_one; rw [if_pos (by rw [data_length]; exact q)]
                  have ONE := Aside0.mk one
                  clear one
                  go_wp2_with (go_at_call 147; (with_reducible refine (Go.Proofs.YtgoedenbekedbaaDoor.Bld.writeByte w.heap.size w.heap.size _ 61 _ HI.out (by rw [Lib.byteCells_length]; have := HA.out; have := HS.out; simp [sg_quad]; omega) (below_size HB.out)).mono ?_); rintro e w2 ⟨rfl, hI, hb⟩; have n0_ := Aside0.mk (HB.out.trans hb); have n1_ := Aside0.mk hI; clear HB HI hI hb; have HB := n0_; have HI := n1_; clear n0_ n1_)
                  go_roundw
                  case rel => exact ⟨4, by omega, by go_num, by have h := HI.out; rw [show [Value.int .u8 61] = Lib.byteCells [sg_one G.data.toList 3] by rw [ONE.out]; rfl, ← Lib.byteCells_append, List.append_assoc] at h; exact ⟨h⟩, HB⟩
                  case measure => simp [intOf]
                · skip
                  have q1 : decide (G.size < 3) = false := decide_eq_false q
                  have q2 : decide ((3 : Int) > (G.size : Int)) = false := decide_eq_false (by omega)
                  obtain ⟨X, hX⟩ : ∃ X : Nat, X = N / 2 ^ (18 - 6 * 3) % 64 := ⟨_, rfl⟩
                  have xl : X < 64 := by rw [hX]; exact Nat.mod_lt _ (by decide)
                  have hN : Go.bits .and .i64 ((N : Int)) 63 = (X : Int) := by rw [sg_and63 _ (by omega) (by omega), hX]; omega
                  obtain ⟨C, hC⟩ : ∃ C : Nat, C = (sg_alpha.getD X 0).toNat := ⟨_, rfl⟩
                  have one : (sg_one G.data.toList 3).toNat = C := by unfold sg_one; rw [if_neg (by rw [data_length]; exact q), HN.out, hC, hX]
                  have ONE := Aside0.mk one
                  have hx : ∀ h : X < (⟨#[65, 66, 67, 68, 69, 70, 71, 72, 73, 74, 75, 76, 77, 78, 79, 80, 81, 82, 83, 84, 85, 86, 87, 88, 89, 90, 97, 98, 99, 100, 101, 102, 103, 104, 105, 106, 107, 108, 109, 110, 111, 112, 113, 114, 115, 116, 117, 118, 119, 120, 121, 122, 48, 49, 50, 51, 52, 53, 54, 55, 56, 57, 43, 47]⟩ : ByteArray).size, (((⟨#[65, 66, 67, 68, 69, 70, 71, 72, 73, 74, 75, 76, 77, 78, 79, 80, 81, 82, 83, 84, 85, 86, 87, 88, 89, 90, 97, 98, 99, 100, 101, 102, 103, 104, 105, 106, 107, 108, 109, 110, 111, 112, 113, 114, 115, 116, 117, 118, 119, 120, 121, 122, 48, 49, 50, 51, 52, 53, 54, 55, 56, 57, 43, 47]⟩ : ByteArray)[X]'h).toNat : Int) = (C : Int) := fun h => by rw [hC]; exact sg_alpha_at X xl h
                  have x0 := eq_true (show (0 : Int) ≤ (X : Int) by omega)
                  have x1 := eq_true (show (X : Int) < 64 by omega)
                  have x2 := eq_true xl
                  clear one hC
                  clear hX
                  go_wp2_with (go_at_call 147; (with_reducible refine (Go.Proofs.YtgoedenbekedbaaDoor.Bld.writeByte w.heap.size w.heap.size _ (C : Int) _ HI.out (by rw [Lib.byteCells_length]; have := HA.out; have := HS.out; simp [sg_quad]; omega) (below_size HB.out)).mono ?_); rintro e w2 ⟨rfl, hI, hb⟩; have n0_ := Aside0.mk (HB.out.trans hb); have n1_ := Aside0.mk hI; clear HB HI hI hb; have HB := n0_; have HI := n1_; clear n0_ n1_)
                  go_roundw
                  case rel => exact ⟨4, by omega, by go_num, by have h := HI.out; rw [show [Value.int .u8 (C : Int)] = Lib.byteCells [sg_one G.data.toList 3] by rw [← ONE.out]; rfl, ← Lib.byteCells_append, List.append_assoc] at h; exact ⟨h⟩, HB⟩
                  case measure => simp [intOf]
        · have k3 : k < 3 := by omega
          have n0 : (0 : Int) ≤ (sg_num G.data.toList k : Int) := by omega
          have n1 : (sg_num G.data.toList k : Int) ≤ 65535 := by
            have : 256 ^ k ≤ 256 ^ 2 := Nat.pow_le_pow_right (by omega) (by omega)
            omega
          have b0 := bt_range G k
          have bG := sg_bt G k
          by_cases q : k < G.size
          · have hx : ∀ h : k < G.size, ((G[k]'h).toNat : Int) = bt G k := fun h => bt_at G k (by simpa using h)
            have q1 : decide (k < G.size) = true := decide_eq_true q
            have NX := Aside0.mk (show Go.bits .or .i64 ((sg_num G.data.toList k : Int) * 256) (bt G k) = ((sg_num G.data.toList (k + 1) : Nat) : Int) by
              rw [sg_or _ _ (by omega) (by omega) (by omega) b0.1 (by omega), sg_num]
              unfold sg_b; rw [← bG]; omega)
            go_wp2
            go_round
            case rel => exact ⟨k + 1, by omega, by go_num, by rw [NX.out]⟩
            case measure => simp [intOf]; omega
          · have q1 : decide (k < G.size) = false := decide_eq_false q
            have NX := Aside0.mk (show ((sg_num G.data.toList k : Nat) : Int) * 256 = ((sg_num G.data.toList (k + 1) : Nat) : Int) by
              have e : sg_b G.data.toList k = 0 := by
                unfold sg_b
                rw [List.getD_eq_getElem?_getD, List.getElem?_eq_none (by rw [data_length]; omega)]; rfl
              rw [sg_num, e]; omega)
            go_wp2
            go_round
            case rel => exact ⟨k + 1, by omega, by go_num, by rw [NX.out]⟩
            case measure => simp [intOf]; omega

/-! ### strconv_Itoa: function 135 -/
def strconv_Itoa.f (a0 : Int) : Option ByteArray := if -9223372036854775808 ≤ a0 ∧ a0 ≤ 9223372036854775807 then some ⟨(Lib.itoa a0).toArray⟩ else none
theorem strconv_Itoa.calls (a0 : Int) (r : ByteArray) (w : World) (tb : Go.Proofs.YtgoedenbekedbaaDoor.TabsH.Tabs0 w) (h : strconv_Itoa.f a0 = some r) :
    Calls Tryd.prog 135 #[.int .i64 a0] w fun e w' => e = .returned (.string r) ∧ Below w.heap.size w w' := by
  unfold strconv_Itoa.f at h
  by_cases hl : -9223372036854775808 ≤ a0 ∧ a0 ≤ 9223372036854775807
  rotate_left
  · rw [if_neg hl] at h; cases h
  rw [if_pos hl] at h
  obtain rfl := Option.some.inj h
  refine (Tryd.strconv_Itoa a0 hl.1 hl.2 w tb.pow10).mono ?_
  rintro e w' ⟨he, k, os, rfl⟩
  exact ⟨he, Lib.below_grow _ _ (Nat.le_refl _) k os⟩

/-! ### impl_headText: function 81 -/
def impl_headText.f (a0_0 : ByteArray) (a0_1 : Int) (a0_2 : ByteArray) : Option (ByteArray) := if a0_0.size + 1 ≤ 9223372036854775807 then ((strconv_Itoa.f a0_1).bind fun t153 => (if (a0_0 ++ (⟨#[10]⟩ : ByteArray)).size + t153.size ≤ 9223372036854775807 then (if ((a0_0 ++ (⟨#[10]⟩ : ByteArray)) ++ t153).size + 1 ≤ 9223372036854775807 then ((impl_signsOf.f a0_2).bind fun t154 => (if (((a0_0 ++ (⟨#[10]⟩ : ByteArray)) ++ t153) ++ (⟨#[10]⟩ : ByteArray)).size + t154.size ≤ 9223372036854775807 then (if ((((a0_0 ++ (⟨#[10]⟩ : ByteArray)) ++ t153) ++ (⟨#[10]⟩ : ByteArray)) ++ t154).size + 1 ≤ 9223372036854775807 then (some (((((a0_0 ++ (⟨#[10]⟩ : ByteArray)) ++ t153) ++ (⟨#[10]⟩ : ByteArray)) ++ t154) ++ (⟨#[10]⟩ : ByteArray))) else (none)) else (none))) else (none)) else (none))) else (none)
def impl_headText.T1 : Bool × List (List Nat × List Nat) := (true, [([], []), ([0], [0]), ([1], [1]), ([], []), ([3], [3]), ([4], [4]), ([2, 5], [2, 5]), ([6], [6]), ([], []), ([8], [8]), ([9, 5], [9]), ([7, 10], [7, 10]), ([11], [11]), ([12, 10, 0, 1, 2, 3, 4, 5, 6, 7, 8, 9, 10, 11, 12], [12])])
def impl_headText.B1 : List Nat := [0, 1, 3, 0, 8, 24, 63, 127, 0, 256, 824, 2047, 4095, 8191]
theorem impl_headText.tab1 : rtab .any (opsOf Tryd.f81 1) = impl_headText.T1 := by kernel_rfl
theorem impl_headText.bits1 : waitsOk impl_headText.T1.2 impl_headText.B1 = true := by kernel_rfl
set_option maxHeartbeats 8000000 in
set_option maxRecDepth 100000 in
theorem impl_headText.calls (a0_0 : ByteArray) (a0_1 : Int) (a0_2 : ByteArray) (r : ByteArray) (w : World) (tb : Go.Proofs.YtgoedenbekedbaaDoor.TabsH.Tabs0 w) (h : impl_headText.f a0_0 a0_1 a0_2 = some r) :
    Calls Tryd.prog 81 #[.agg #[.string a0_0, .int .i64 a0_1, .string a0_2]] w fun e w' => e = .returned (.string r) ∧ Below w.heap.size w w' := by
  have hu27 := Tryd.underlying27
  have TB := Aside0.mk tb
  clear tb
  have HB := Aside0.mk (Below.refl w.heap.size w)
  have H : (if a0_0.size + 1 ≤ 9223372036854775807 then ((strconv_Itoa.f a0_1).bind fun t153 => (if (a0_0 ++ (⟨#[10]⟩ : ByteArray)).size + t153.size ≤ 9223372036854775807 then (if ((a0_0 ++ (⟨#[10]⟩ : ByteArray)) ++ t153).size + 1 ≤ 9223372036854775807 then ((impl_signsOf.f a0_2).bind fun t154 => (if (((a0_0 ++ (⟨#[10]⟩ : ByteArray)) ++ t153) ++ (⟨#[10]⟩ : ByteArray)).size + t154.size ≤ 9223372036854775807 then (if ((((a0_0 ++ (⟨#[10]⟩ : ByteArray)) ++ t153) ++ (⟨#[10]⟩ : ByteArray)) ++ t154).size + 1 ≤ 9223372036854775807 then (some (((((a0_0 ++ (⟨#[10]⟩ : ByteArray)) ++ t153) ++ (⟨#[10]⟩ : ByteArray)) ++ t154) ++ (⟨#[10]⟩ : ByteArray))) else (none)) else (none))) else (none)) else (none))) else (none)) = some r := h
  clear h
  by_cases c2 : a0_0.size + 1 ≤ 9223372036854775807
  · rw [if_pos c2] at H
    have c2b0 := eq_true c2
    have c2b1 : decide (a0_0.size + 1 ≤ 9223372036854775807) = true := decide_eq_true c2
    try have c2b2 : (9223372036854775807 < a0_0.size + 1) = False := eq_false (Nat.not_lt.2 c2)
    replace H := Option.bind_eq_some_iff.mp H
    obtain ⟨t153, A30, H⟩ := H
    replace H : (if (a0_0 ++ (⟨#[10]⟩ : ByteArray)).size + t153.size ≤ 9223372036854775807 then (if ((a0_0 ++ (⟨#[10]⟩ : ByteArray)) ++ t153).size + 1 ≤ 9223372036854775807 then ((impl_signsOf.f a0_2).bind fun t154 => (if (((a0_0 ++ (⟨#[10]⟩ : ByteArray)) ++ t153) ++ (⟨#[10]⟩ : ByteArray)).size + t154.size ≤ 9223372036854775807 then (if ((((a0_0 ++ (⟨#[10]⟩ : ByteArray)) ++ t153) ++ (⟨#[10]⟩ : ByteArray)) ++ t154).size + 1 ≤ 9223372036854775807 then (some (((((a0_0 ++ (⟨#[10]⟩ : ByteArray)) ++ t153) ++ (⟨#[10]⟩ : ByteArray)) ++ t154) ++ (⟨#[10]⟩ : ByteArray))) else (none)) else (none))) else (none)) else (none)) = some r := H
    have A3 := Aside0.mk A30
    clear A30
    by_cases c4 : (a0_0 ++ (⟨#[10]⟩ : ByteArray)).size + t153.size ≤ 9223372036854775807
    · rw [if_pos c4] at H
      have c4b0 := eq_true c4
      have c4b1 : decide ((a0_0 ++ (⟨#[10]⟩ : ByteArray)).size + t153.size ≤ 9223372036854775807) = true := decide_eq_true c4
      try have c4b3 : (9223372036854775807 < a0_0.size + 1 + t153.size) = False := eq_false (Nat.not_lt.2 (by have h_ := c4; simp only [ByteArray.size_append] at h_; exact h_))
      try have c4b2 : (9223372036854775807 < (a0_0 ++ (⟨#[10]⟩ : ByteArray)).size + t153.size) = False := eq_false (Nat.not_lt.2 c4)
      by_cases c5 : ((a0_0 ++ (⟨#[10]⟩ : ByteArray)) ++ t153).size + 1 ≤ 9223372036854775807
      · rw [if_pos c5] at H
        have c5b0 := eq_true c5
        have c5b1 : decide (((a0_0 ++ (⟨#[10]⟩ : ByteArray)) ++ t153).size + 1 ≤ 9223372036854775807) = true := decide_eq_true c5
        try have c5b3 : (9223372036854775807 < a0_0.size + 1 + t153.size + 1) = False := eq_false (Nat.not_lt.2 (by have h_ := c5; simp only [ByteArray.size_append] at h_; exact h_))
        try have c5b2 : (9223372036854775807 < ((a0_0 ++ (⟨#[10]⟩ : ByteArray)) ++ t153).size + 1) = False := eq_false (Nat.not_lt.2 c5)
        replace H := Option.bind_eq_some_iff.mp H
        obtain ⟨t154, A60, H⟩ := H
        replace H : (if (((a0_0 ++ (⟨#[10]⟩ : ByteArray)) ++ t153) ++ (⟨#[10]⟩ : ByteArray)).size + t154.size ≤ 9223372036854775807 then (if ((((a0_0 ++ (⟨#[10]⟩ : ByteArray)) ++ t153) ++ (⟨#[10]⟩ : ByteArray)) ++ t154).size + 1 ≤ 9223372036854775807 then (some (((((a0_0 ++ (⟨#[10]⟩ : ByteArray)) ++ t153) ++ (⟨#[10]⟩ : ByteArray)) ++ t154) ++ (⟨#[10]⟩ : ByteArray))) else (none)) else (none)) = some r := H
        have A6 := Aside0.mk A60
        clear A60
        by_cases c7 : (((a0_0 ++ (⟨#[10]⟩ : ByteArray)) ++ t153) ++ (⟨#[10]⟩ : ByteArray)).size + t154.size ≤ 9223372036854775807
        · rw [if_pos c7] at H
          have c7b0 := eq_true c7
          have c7b1 : decide ((((a0_0 ++ (⟨#[10]⟩ : ByteArray)) ++ t153) ++ (⟨#[10]⟩ : ByteArray)).size + t154.size ≤ 9223372036854775807) = true := decide_eq_true c7
          try have c7b3 : (9223372036854775807 < a0_0.size + 1 + t153.size + 1 + t154.size) = False := eq_false (Nat.not_lt.2 (by have h_ := c7; simp only [ByteArray.size_append] at h_; exact h_))
          try have c7b2 : (9223372036854775807 < (((a0_0 ++ (⟨#[10]⟩ : ByteArray)) ++ t153) ++ (⟨#[10]⟩ : ByteArray)).size + t154.size) = False := eq_false (Nat.not_lt.2 c7)
          by_cases c8 : ((((a0_0 ++ (⟨#[10]⟩ : ByteArray)) ++ t153) ++ (⟨#[10]⟩ : ByteArray)) ++ t154).size + 1 ≤ 9223372036854775807
          · rw [if_pos c8] at H
            have c8b0 := eq_true c8
            have c8b1 : decide (((((a0_0 ++ (⟨#[10]⟩ : ByteArray)) ++ t153) ++ (⟨#[10]⟩ : ByteArray)) ++ t154).size + 1 ≤ 9223372036854775807) = true := decide_eq_true c8
            try have c8b3 : (9223372036854775807 < a0_0.size + 1 + t153.size + 1 + t154.size + 1) = False := eq_false (Nat.not_lt.2 (by have h_ := c8; simp only [ByteArray.size_append] at h_; exact h_))
            try have c8b2 : (9223372036854775807 < ((((a0_0 ++ (⟨#[10]⟩ : ByteArray)) ++ t153) ++ (⟨#[10]⟩ : ByteArray)) ++ t154).size + 1) = False := eq_false (Nat.not_lt.2 c8)
            obtain rfl := Option.some.inj H
            go_enter Tryd.func81, Tryd.ntmps81
            try go_wp2_with (first | ((with_reducible refine gate_dst (N := 1) rfl ?_); refine box_event ?hg (N := 1) ?hd (cs := #[.string a0_0, .int .i64 a0_1, .string a0_2]) (t := 27) ?hr ?_; (case hd => rfl); (case hg => rfl); (case hr => first | (go_simp; done) | (go_simp; rfl)); intro gb152 hg w9 hbox hb; have n0_ := Aside0.mk (below_step (by repeat (first | (with_reducible first | exact HB.out | apply below_alloc | apply pw_below_drewN | apply below_drew1) | exact HB.out)) hb); have n1_ := Aside0.mk (hbox); have n2_ := Aside0.mk ((by rw [hg]; exact (below_size (by repeat (first | (with_reducible first | exact HB.out | apply below_alloc | apply pw_below_drewN | apply below_drew1) | exact HB.out))) : w.heap.size ≤ gb152)); have n3_ := Aside0.mk ((by rw [hg]; exact (below_size (by repeat (first | (with_reducible first | exact HB.out | apply below_alloc | apply pw_below_drewN | apply below_drew1) | exact HB.out))) : w.heap.size ≤ gb152)); clear HB; have HB := n0_; have BK152 := n1_; have GW152 := n2_; have GE152 := n3_; clear n0_ n1_ n2_ n3_; clear hb hbox hg))
            have n0_ := Aside0.mk (blk_drew BK152.out)
            have n1_ := Aside0.mk (below_drew1 HB.out)
            clear BK152
            clear HB
            have BK152 := n0_
            have HB := n1_
            clear n0_ n1_
            refine start_ (n := 14) (S := fun w' => w'.cell? ⟨gb152, 0, none⟩ = some (.string a0_0) ∧ w'.cell? ⟨gb152, 1, none⟩ = some (.int .i64 a0_1) ∧ w'.cell? ⟨gb152, 2, none⟩ = some (.string a0_2)) (ds := []) #[false, false, false, false, false, false, false, false, false, false, false, false, false, false] (by kernel_rfl) rfl rfl ⟨(blk_cell BK152.out 0).trans rfl, (blk_cell BK152.out 1).trans rfl, (blk_cell BK152.out 2).trans rfl⟩ (fun hHeld => ?_); refine with_tabW impl_headText.tab1 impl_headText.bits1 (fun HT_ HW_ => ?_)
            generalize w9.drew = w10 at BK152 HB hHeld ⊢
            refine pure_ (i := 0) (N := some 3) (v := ?_) (a' := ?_) #[true, false, false, false, false, false, false, false, false, false, false, false, false, false] rfl rfl (any_of HT_.out (by kernel_rfl)) (fun _ _ _ h => h) (Or.inl ⟨by rfl, ?_⟩) ?_ ?_
            rotate_left
            · intro w'
              go_simp
              with_reducible rfl
            rotate_left
            · simp only [Act.put, List.setIfInBounds_toArray, List.set_cons_zero, List.set_cons_succ, i64_w, i32_w]
              rfl
            refine pure_ (i := 3) (N := some 6) (v := ?_) (a' := ?_) #[true, false, false, true, false, false, false, false, false, false, false, false, false, false] rfl rfl (any_of HT_.out (by kernel_rfl)) (fun _ _ _ h => h) (Or.inl ⟨by rfl, ?_⟩) ?_ ?_
            rotate_left
            · intro w'
              go_simp
              with_reducible rfl
            rotate_left
            · simp only [Act.put, List.setIfInBounds_toArray, List.set_cons_zero, List.set_cons_succ, i64_w, i32_w]
              rfl
            refine pure_ (i := 8) (N := some 11) (v := ?_) (a' := ?_) #[true, false, false, true, false, false, false, false, true, false, false, false, false, false] rfl rfl (any_of HT_.out (by kernel_rfl)) (fun _ _ _ h => h) (Or.inl ⟨by rfl, ?_⟩) ?_ ?_
            rotate_left
            · intro w'
              go_simp
              with_reducible rfl
            rotate_left
            · simp only [Act.put, List.setIfInBounds_toArray, List.set_cons_zero, List.set_cons_succ, i64_w, i32_w]
              rfl
            refine take_ (i := 1) (N := some 4) (v := ?_) (a' := ?_) #[true, true, false, true, false, false, false, false, true, false, false, false, false, false] rfl rfl (take_ofW HT_.out HW_.out (by kernel_rfl)) (fun _ _ _ h => h) (Or.inl ⟨by rfl, ?_⟩) hHeld ?_ ?_
            rotate_left
            · rintro w' ⟨s0, s1, s2⟩
              go_simp
              with_reducible rfl
            rotate_left
            · simp only [Act.put, List.setIfInBounds_toArray, List.set_cons_zero, List.set_cons_succ, i64_w, i32_w]
              rfl
            refine pure_ (i := 2) (N := some 5) (v := ?_) (a' := ?_) #[true, true, true, true, false, false, false, false, true, false, false, false, false, false] rfl rfl (any_of HT_.out (by kernel_rfl)) (fun _ _ _ h => h) (Or.inl ⟨by rfl, ?_⟩) ?_ ?_
            rotate_left
            · intro w'
              go_simp
              with_reducible rfl
            rotate_left
            · simp only [Act.put, List.setIfInBounds_toArray, List.set_cons_zero, List.set_cons_succ, i64_w, i32_w]
              rfl
            refine take_ (i := 4) (N := some 7) (v := ?_) (a' := ?_) #[true, true, true, true, true, false, false, false, true, false, false, false, false, false] rfl rfl (take_ofW HT_.out HW_.out (by kernel_rfl)) (fun _ _ _ h => h) (Or.inl ⟨by rfl, ?_⟩) hHeld ?_ ?_
            rotate_left
            · rintro w' ⟨s0, s1, s2⟩
              go_simp
              with_reducible rfl
            rotate_left
            · simp only [Act.put, List.setIfInBounds_toArray, List.set_cons_zero, List.set_cons_succ, i64_w, i32_w]
              rfl
            refine take_ (i := 9) (N := some 12) (v := ?_) (a' := ?_) #[true, true, true, true, true, false, false, false, true, true, false, false, false, false] rfl rfl (take_ofW HT_.out HW_.out (by kernel_rfl)) (fun _ _ _ h => h) (Or.inl ⟨by rfl, ?_⟩) hHeld ?_ ?_
            rotate_left
            · rintro w' ⟨s0, s1, s2⟩
              go_simp
              with_reducible rfl
            rotate_left
            · simp only [Act.put, List.setIfInBounds_toArray, List.set_cons_zero, List.set_cons_succ, i64_w, i32_w]
              rfl
            refine one_ (i := 5) (N := some 8) #[true, true, true, true, true, true, false, false, true, true, false, false, false, false] rfl rfl (one_of HT_.out (by kernel_rfl)) (by decide) (fun K hK => ?_)
            refine goes_ Tryd.func135 (by kernel_rfl) rfl #[.int .i64 a0_1] (by rfl) rfl rfl (by (try simp only [List.map_toArray, List.map_cons, List.map_nil]); first | done | rfl | (simp only [List.length_drop, List.length_take]; rfl)) ?_
            with_reducible refine (strconv_Itoa.calls a0_1 t153 _ ?side1 A3.out).mono ?_
            (case side1 => exact Go.Proofs.YtgoedenbekedbaaDoor.TabsH.Tabs0.of_below TB.out (by repeat (first | (with_reducible first | exact HB.out | apply below_alloc | apply pw_below_drewN | apply below_drew1 | refine below_set ?_ GE152.out) | exact HB.out)))
            rintro e w11 ⟨rfl, hb⟩
            refine ⟨_, rfl, ?_⟩
            have n0_ := Aside0.mk (blk_below (g := gb152) (o := .cells #[.string a0_0, .int .i64 a0_1, .string a0_2] 27 (0, 0)) (by (with_reducible repeat (first | refine blk_drewN ?_ _ | refine blk_drew ?_ | refine blk_alloc ?_ _)); exact BK152.out) hb)
            have n1_ := Aside0.mk (below_step (by repeat (first | (with_reducible first | exact HB.out | apply below_alloc | apply pw_below_drewN | apply below_drew1 | refine below_set ?_ GE152.out) | exact HB.out)) hb)
            clear BK152
            clear HB
            have BK152 := n0_
            have HB := n1_
            clear n0_ n1_
            (try clear hb)
            (try clear hb2)
            (try clear hk)
            (try clear hi)
            refine hK.out _ _ ⟨(blk_cell BK152.out 0).trans rfl, (blk_cell BK152.out 1).trans rfl, (blk_cell BK152.out 2).trans rfl⟩ (fun hHeld => ?_)
            clear hK K
            refine norm_ (a' := ?_) ?_ ?_
            rotate_left
            · show Act.put _ (some 8) _ = _
              simp only [Act.put, List.setIfInBounds_toArray, List.set_cons_zero, List.set_cons_succ, i64_w, i32_w]
              rfl
            refine pure_ (i := 6) (N := some 9) (v := ?_) (a' := ?_) #[true, true, true, true, true, true, true, false, true, true, false, false, false, false] rfl rfl (any_of HT_.out (by kernel_rfl)) (fun _ _ _ h => h) (Or.inl ⟨by rfl, ?_⟩) ?_ ?_
            rotate_left
            · intro w'
              go_simp
              with_reducible rfl
            rotate_left
            · simp only [Act.put, List.setIfInBounds_toArray, List.set_cons_zero, List.set_cons_succ, i64_w, i32_w]
              rfl
            refine pure_ (i := 7) (N := some 10) (v := ?_) (a' := ?_) #[true, true, true, true, true, true, true, true, true, true, false, false, false, false] rfl rfl (any_of HT_.out (by kernel_rfl)) (fun _ _ _ h => h) (Or.inl ⟨by rfl, ?_⟩) ?_ ?_
            rotate_left
            · intro w'
              go_simp
              with_reducible rfl
            rotate_left
            · simp only [Act.put, List.setIfInBounds_toArray, List.set_cons_zero, List.set_cons_succ, i64_w, i32_w]
              rfl
            refine one_ (i := 10) (N := some 13) #[true, true, true, true, true, true, true, true, true, true, true, false, false, false] rfl rfl (one_of HT_.out (by kernel_rfl)) (by decide) (fun K hK => ?_)
            refine goes_ Tryd.func114 (by kernel_rfl) rfl #[.string a0_2] (by rfl) rfl rfl (by (try simp only [List.map_toArray, List.map_cons, List.map_nil]); first | done | rfl | (simp only [List.length_drop, List.length_take]; rfl)) ?_
            with_reducible refine (impl_signsOf.calls a0_2 t154 _ A6.out).mono ?_
            rintro e w12 ⟨rfl, hb⟩
            refine ⟨_, rfl, ?_⟩
            have n0_ := Aside0.mk (blk_below (g := gb152) (o := .cells #[.string a0_0, .int .i64 a0_1, .string a0_2] 27 (0, 0)) (by (with_reducible repeat (first | refine blk_drewN ?_ _ | refine blk_drew ?_ | refine blk_alloc ?_ _)); exact BK152.out) hb)
            have n1_ := Aside0.mk (below_step (by repeat (first | (with_reducible first | exact HB.out | apply below_alloc | apply pw_below_drewN | apply below_drew1 | refine below_set ?_ GE152.out) | exact HB.out)) hb)
            clear BK152
            clear HB
            have BK152 := n0_
            have HB := n1_
            clear n0_ n1_
            (try clear hb)
            (try clear hb2)
            (try clear hk)
            (try clear hi)
            refine hK.out _ _ ⟨(blk_cell BK152.out 0).trans rfl, (blk_cell BK152.out 1).trans rfl, (blk_cell BK152.out 2).trans rfl⟩ (fun hHeld => ?_)
            clear hK K
            refine norm_ (a' := ?_) ?_ ?_
            rotate_left
            · show Act.put _ (some 13) _ = _
              simp only [Act.put, List.setIfInBounds_toArray, List.set_cons_zero, List.set_cons_succ, i64_w, i32_w]
              rfl
            refine pure_ (i := 11) (N := some 14) (v := ?_) (a' := ?_) #[true, true, true, true, true, true, true, true, true, true, true, true, false, false] rfl rfl (any_of HT_.out (by kernel_rfl)) (fun _ _ _ h => h) (Or.inl ⟨by rfl, ?_⟩) ?_ ?_
            rotate_left
            · intro w'
              go_simp
              with_reducible rfl
            rotate_left
            · simp only [Act.put, List.setIfInBounds_toArray, List.set_cons_zero, List.set_cons_succ, i64_w, i32_w]
              rfl
            refine pure_ (i := 12) (N := some 15) (v := ?_) (a' := ?_) #[true, true, true, true, true, true, true, true, true, true, true, true, true, false] rfl rfl (any_of HT_.out (by kernel_rfl)) (fun _ _ _ h => h) (Or.inl ⟨by rfl, ?_⟩) ?_ ?_
            rotate_left
            · intro w'
              go_simp
              with_reducible rfl
            rotate_left
            · simp only [Act.put, List.setIfInBounds_toArray, List.set_cons_zero, List.set_cons_succ, i64_w, i32_w]
              rfl
            refine pure_ (i := 13) (N := some 2) (v := ?_) (a' := ?_) #[true, true, true, true, true, true, true, true, true, true, true, true, true, true] rfl rfl (any_of HT_.out (by kernel_rfl)) (fun _ _ _ h => h) (Or.inl ⟨by rfl, ?_⟩) ?_ ?_
            rotate_left
            · intro w'
              go_simp
              with_reducible rfl
            rotate_left
            · simp only [Act.put, List.setIfInBounds_toArray, List.set_cons_zero, List.set_cons_succ, i64_w, i32_w]
              rfl
            refine done_ (done_of HT_.out (by kernel_rfl)) ?_
            try go_wp2
            go_ret
            exact ⟨by first | rfl | (simp [errW_none, errW_some] <;> rfl) | (simp [*, errW_none, errW_some] <;> rfl), by repeat (first | (with_reducible first | exact HB.out | apply below_alloc | apply pw_below_drewN | apply below_drew1 | refine below_set ?_ GE152.out) | exact HB.out)⟩
          · rw [if_neg c8] at H
            exact absurd H (by simp)
        · rw [if_neg c7] at H
          exact absurd H (by simp)
      · rw [if_neg c5] at H
        exact absurd H (by simp)
    · rw [if_neg c4] at H
      exact absurd H (by simp)
  · rw [if_neg c2] at H
    exact absurd H (by simp)

/-! ### strings_TrimRight: function 150 -/
def strings_TrimRight.f (a0 : ByteArray) (a1 : ByteArray) : Option ByteArray :=
  match a1.data.toList with
  | [c] => if c.toNat < 128 ∧ a0.size ≤ 9223372036854775807 then some ⟨(Lib.trimRightB a0.data.toList c).toArray⟩ else none
  | _ => none
theorem strings_TrimRight.calls (a0 : ByteArray) (a1 : ByteArray) (r : ByteArray) (w : World) (h : strings_TrimRight.f a0 a1 = some r) :
    Calls Tryd.prog 150 #[.string a0, .string a1] w fun e w' => e = .returned (.string r) ∧ Drawn0 w w' := by
  unfold strings_TrimRight.f at h
  obtain ⟨⟨l⟩⟩ := a1
  match l, h with
  | [], h => cases h
  | [c], h =>
    by_cases hc : c.toNat < 128 ∧ a0.size ≤ 9223372036854775807
    · simp only [if_pos hc] at h
      obtain rfl := Option.some.inj h
      exact (Tryd.strings_TrimRight_one a0 c hc.1 w hc.2).mono fun e w' ⟨he, hw⟩ => ⟨he, hw ▸ Drawn0.refl _⟩
    · simp only [if_neg hc] at h
      cases h
  | _ :: _ :: _, h => cases h

/-! ### strings_IndexByte: function 151 -/
def strings_IndexByte.f (a0 : ByteArray) (a1 : Int) : Option (Int) := some (Lib.indexByte a0.data.toList a1.toNat.toUInt8)
theorem strings_IndexByte.calls (a0 : ByteArray) (a1 : Int) (r : Int) (w : World) (h : strings_IndexByte.f a0 a1 = some r) :
    Calls Tryd.prog 151 #[.string a0, .int .u8 a1] w fun e w' => e = .returned (.int .i64 r) ∧ Drawn0 w w' := by
  obtain rfl := Option.some.inj h
  exact (Tryd.strings_IndexByte a0 a1 w).mono fun e w' ⟨he, hw⟩ => ⟨he, hw ▸ Drawn0.refl _⟩

end
end Go.Proofs.YtgoedenbekedbaaDoor.PFnExactReadHead
