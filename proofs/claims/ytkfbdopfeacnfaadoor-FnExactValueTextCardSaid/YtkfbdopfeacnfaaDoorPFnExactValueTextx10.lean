-- Printed by wip/tools/patch_print.py (a changed copy of the kit's printing program).
import Derived.Test.YtkfbdopfeacnfaaDoorPFnExactValueTextx0
import Derived.Test.YtkfbdopfeacnfaaDoorPFnExactValueTextx8
import Derived.Test.YtkfbdopfeacnfaaDoorPFnExactValueTextx9
namespace Go.Proofs.YtkfbdopfeacnfaaDoor.PFnExactValueText
open Go.RowKit Go.Proofs.YtkfbdopfeacnfaaDoorW.PrintWords Go.Proofs.YtkfbdopfeacnfaaDoorW.PrintLast Go.Proofs.YtkfbdopfeacnfaaDoorW.PrintMore
attribute [local go_sem] max2_int min2_int max_two min_two max_three min_three max_four min_four   -- for this text's walks alone
set_option linter.unusedVariables false
set_option linter.unusedSimpArgs false

noncomputable section
/-! ### slices_Compare_int_int: function 119 -/
def slices_Compare_int_int.l0 : Nat → List Int → List Int → List Int → Int → Int → Option (Int)
  | 0, _, _, _, _, _ => none
  | k + 1, x0, x1, x9, x10, x11 => if x11 < x10 then (if 0 ≤ x11 then (if x11 < (x9.length : Int) then (if x11 ≥ (x1.length : Int) then (some 1) else (if x11 < (x1.length : Int) then ((cmp_Compare_int.f (rd x9 x11) (rd x1 x11)).bind fun t268 => (if t268 = 0 then (slices_Compare_int_int.l0 k x0 x1 x9 x10 (wrap64 (x11 + 1))) else (some t268))) else (none))) else (none)) else (none)) else (if (x0.length : Int) < (x1.length : Int) then (some (-1)) else (some 0))
def slices_Compare_int_int.f (k : Nat) (l0 : List Int) (l1 : List Int) : Option (Int) := slices_Compare_int_int.l0 k l0 l1 l0 (l0.length : Int) 0
theorem slices_Compare_int_int.mono_l : ∀ k, (∀ y0 y1 y2 y3 y4, LeO (slices_Compare_int_int.l0 k y0 y1 y2 y3 y4) (slices_Compare_int_int.l0 (k + 1) y0 y1 y2 y3 y4))
  | 0 => fun _ _ _ _ _ r h => by simp [slices_Compare_int_int.l0] at h
  | k + 1 => by
    have ih0 := slices_Compare_int_int.mono_l k
    · intro y0 y1 y2 y3 y4
      unfold slices_Compare_int_int.l0
      repeat' first
      | (with_reducible exact ih0 _ _ _ _ _)
      | (with_reducible exact LeO.refl _)
      | (with_reducible exact LeO.none _)
      | (with_reducible refine LeO.ite ?_ ?_)
      | (with_reducible refine LeO.bind ?_ (fun _ => ?_))
      | exact ih0 _ _ _ _ _
      | exact LeO.none _
      | refine LeO.ite ?_ ?_
      | refine LeO.bind ?_ (fun _ => ?_)
theorem slices_Compare_int_int.mono : ∀ a0 a1 k, LeO (slices_Compare_int_int.f k a0 a1) (slices_Compare_int_int.f (k + 1) a0 a1) := by
  intro a0 a1 k
  have ih0 := slices_Compare_int_int.mono_l k
  unfold slices_Compare_int_int.f
  repeat' first
      | (with_reducible exact ih0 _ _ _ _ _)
      | (with_reducible exact LeO.refl _)
      | (with_reducible exact LeO.none _)
      | (with_reducible refine LeO.ite ?_ ?_)
      | (with_reducible refine LeO.bind ?_ (fun _ => ?_))
      | exact ih0 _ _ _ _ _
      | exact LeO.none _
      | refine LeO.ite ?_ ?_
      | refine LeO.bind ?_ (fun _ => ?_)
set_option maxHeartbeats 8000000 in
set_option maxRecDepth 100000 in
theorem slices_Compare_int_int.calls (k : Nat) (A0 : Option Addr) (c0 : Nat) (l0 : List Int) (A1 : Option Addr) (c1 : Nat) (l1 : List Int) (r : Int) (w : World) (hr0 : Kd.C (Kd.int .i64) w A0 l0.length l0) (hc0 : l0.length ≤ c0) (hr1 : Kd.C (Kd.int .i64) w A1 l1.length l1) (hc1 : l1.length ≤ c1) (h : slices_Compare_int_int.f k l0 l1 = some r) :
    Calls Tryd.prog 119 #[.slice A0 l0.length c0, .slice A1 l1.length c1] w fun e w' => e = .returned (.int .i64 r) ∧ Drawn0 w w' := by
  have HR0 := Aside0.mk hr0
  have HC0 := Aside0.mk hc0
  clear hr0 hc0
  have HR1 := Aside0.mk hr1
  have HC1 := Aside0.mk hc1
  clear hr1 hc1
  have H : (slices_Compare_int_int.l0 k l0 l1 l0 (l0.length : Int) 0) = some r := h
  clear h
  have H' := Aside0.mk H
  clear H
  go_enter Tryd.func119, Tryd.ntmps119
  go_wp2
  go_loopg [11] k (fun kq v11 w' => ∃ (x11_1 : Int), v11 = .int .i64 x11_1 ∧ Aside0 (slices_Compare_int_int.l0 kq l0 l1 l0 (l0.length : Int) x11_1 = some r) ∧ Aside0 (kq ≤ k) ∧ Drawn0 w w')
  case atStart => exact ⟨(0), (by first | rfl | (simp; done) | (simp [*]; done) | (simp; apply Bool.eq_iff_iff.mpr; simp only [bne_iff_ne, ne_eq, beq_iff_eq]; omega)), H', ⟨Nat.le_refl _⟩, by repeat (first | exact Drawn0.refl _ | apply Drawn0.step)⟩
  case round =>
    clear H'
    try clear c1
    try clear p2
    obtain ⟨x11_1, rfl, HA, HK1, ⟨m1, rfl⟩⟩ := hrel
    cases gk with
    | zero => exact absurd HA.out (by simp [slices_Compare_int_int.l0])
    | succ k1 =>
      have H := HA.out
      clear HA
      simp only [slices_Compare_int_int.l0] at H
      by_cases c3 : x11_1 < (l0.length : Int)
      · rw [if_pos c3] at H
        have c3b0 : decide (x11_1 < (l0.length : Int)) = true := decide_eq_true c3
        clear c3
        by_cases c4 : 0 ≤ x11_1
        · rw [if_pos c4] at H
          have c4b0 : decide (0 ≤ x11_1) = true := decide_eq_true c4
          clear c4
          by_cases c5 : x11_1 < (l0.length : Int)
          · rw [if_pos c5] at H
            have c5b0 : decide (x11_1 < (l0.length : Int)) = true := decide_eq_true c5
            clear c5
            by_cases c6 : x11_1 ≥ (l1.length : Int)
            · rw [if_pos c6] at H
              have c6b0 : decide ((l1.length : Int) ≤ x11_1) = true := decide_eq_true c6
              clear c6
              obtain rfl := Option.some.inj H
              have p266 : 0 ≤ (x11_1 : Int) := of_decide_eq_true (by first | (with_reducible assumption) | assumption)
              have q266 : x11_1 < (l0.length : Int) := of_decide_eq_true (by first | (with_reducible assumption) | assumption)
              obtain ⟨ad266, e266, hx266_0⟩ := Kd.at_int HR0.out x11_1 p266 q266
              cases e266
              replace p266 := eq_true p266
              replace q266 := eq_true q266
              go_wp2
              go_ret
              exact ⟨by first | rfl | (simp; done) | (simp [*]; done), by repeat (first | exact Drawn0.refl _ | apply Drawn0.step)⟩
            · rw [if_neg c6] at H
              have c6b0 : decide ((l1.length : Int) ≤ x11_1) = false := decide_eq_false c6
              clear c6
              by_cases c7 : x11_1 < (l1.length : Int)
              · rw [if_pos c7] at H
                have c7b0 : decide (x11_1 < (l1.length : Int)) = true := decide_eq_true c7
                clear c7
                replace H := Option.bind_eq_some_iff.mp H
                obtain ⟨t268, A80, H⟩ := H
                replace H : (if t268 = 0 then (slices_Compare_int_int.l0 k1 l0 l1 l0 (l0.length : Int) (wrap64 (x11_1 + 1))) else (some t268)) = some r := H
                have A8 := Aside0.mk A80
                clear A80
                by_cases c9 : t268 = 0
                · rw [if_pos c9] at H
                  have c9b0 : (t268 == 0) = true := beq_iff_eq.mpr c9
                  have c9b1 : (t268 != 0) = false := bne_eq_false_iff_eq.mpr c9
                  clear c9
                  have H' := Aside0.mk H
                  clear H
                  have p266 : 0 ≤ (x11_1 : Int) := of_decide_eq_true (by first | (with_reducible assumption) | assumption)
                  have q266 : x11_1 < (l0.length : Int) := of_decide_eq_true (by first | (with_reducible assumption) | assumption)
                  obtain ⟨ad266, e266, hx266_0⟩ := Kd.at_int HR0.out x11_1 p266 q266
                  cases e266
                  replace p266 := eq_true p266
                  replace q266 := eq_true q266
                  have p267 : 0 ≤ (x11_1 : Int) := of_decide_eq_true (by first | (with_reducible assumption) | assumption)
                  have q267 : x11_1 < (l1.length : Int) := of_decide_eq_true (by first | (with_reducible assumption) | assumption)
                  obtain ⟨ad267, e267, hx267_0⟩ := Kd.at_int HR1.out x11_1 p267 q267
                  cases e267
                  replace p267 := eq_true p267
                  replace q267 := eq_true q267
                  go_wp2_with (first | ((with_reducible refine gate_callee (f := 146) rfl ?_); refine goesL_ (some 26) rfl rfl Tryd.func146 (by kernel_rfl) rfl #[.int .i64 (rd l0 x11_1), .int .i64 (rd l1 x11_1)] rfl (by (try simp only [List.map_toArray, List.map_cons, List.map_nil]); first | done | rfl | (simp only [List.length_drop, List.length_take]; rfl)) ?_; (with_reducible refine (cmp_Compare_int.calls (rd l0 x11_1) (rd l1 x11_1) t268 _ A8.out).mono ?_); rintro e w' ⟨rfl, ⟨nd, rfl⟩⟩; refine ⟨_, rfl, ?_⟩))
                  go_roundg k1
                  case measure => have := HK1.out; omega
                  case rel => exact ⟨(wrap64 (x11_1 + 1)), (by first | rfl | (simp; done) | (simp [*]; done) | (simp; apply Bool.eq_iff_iff.mpr; simp only [bne_iff_ne, ne_eq, beq_iff_eq]; omega)), H', ⟨by have := HK1.out; omega⟩, by repeat (first | exact Drawn0.refl _ | apply Drawn0.step)⟩
                · rw [if_neg c9] at H
                  have c9b0 : (t268 == 0) = false := beq_eq_false_iff_ne.mpr c9
                  have c9b1 : (t268 != 0) = true := bne_iff_ne.mpr c9
                  obtain rfl := Option.some.inj H
                  have p266 : 0 ≤ (x11_1 : Int) := of_decide_eq_true (by first | (with_reducible assumption) | assumption)
                  have q266 : x11_1 < (l0.length : Int) := of_decide_eq_true (by first | (with_reducible assumption) | assumption)
                  obtain ⟨ad266, e266, hx266_0⟩ := Kd.at_int HR0.out x11_1 p266 q266
                  cases e266
                  replace p266 := eq_true p266
                  replace q266 := eq_true q266
                  have p267 : 0 ≤ (x11_1 : Int) := of_decide_eq_true (by first | (with_reducible assumption) | assumption)
                  have q267 : x11_1 < (l1.length : Int) := of_decide_eq_true (by first | (with_reducible assumption) | assumption)
                  obtain ⟨ad267, e267, hx267_0⟩ := Kd.at_int HR1.out x11_1 p267 q267
                  cases e267
                  replace p267 := eq_true p267
                  replace q267 := eq_true q267
                  go_wp2_with (first | ((with_reducible refine gate_callee (f := 146) rfl ?_); refine goesL_ (some 26) rfl rfl Tryd.func146 (by kernel_rfl) rfl #[.int .i64 (rd l0 x11_1), .int .i64 (rd l1 x11_1)] rfl (by (try simp only [List.map_toArray, List.map_cons, List.map_nil]); first | done | rfl | (simp only [List.length_drop, List.length_take]; rfl)) ?_; (with_reducible refine (cmp_Compare_int.calls (rd l0 x11_1) (rd l1 x11_1) t268 _ A8.out).mono ?_); rintro e w' ⟨rfl, ⟨nd, rfl⟩⟩; refine ⟨_, rfl, ?_⟩))
                  go_ret
                  exact ⟨by first | rfl | (simp; done) | (simp [*]; done), by repeat (first | exact Drawn0.refl _ | apply Drawn0.step)⟩
              · rw [if_neg c7] at H
                exact absurd H (by simp)
          · rw [if_neg c5] at H
            exact absurd H (by simp)
        · rw [if_neg c4] at H
          exact absurd H (by simp)
      · rw [if_neg c3] at H
        have c3b0 : decide (x11_1 < (l0.length : Int)) = false := decide_eq_false c3
        clear c3
        by_cases c10 : (l0.length : Int) < (l1.length : Int)
        · rw [if_pos c10] at H
          have c10b0 : decide ((l0.length : Int) < (l1.length : Int)) = true := decide_eq_true c10
          have c10b1 : decide (l0.length < l1.length) = true := decide_eq_true (Int.ofNat_lt.mp c10)
          clear c10
          obtain rfl := Option.some.inj H
          go_wp2
          go_ret
          exact ⟨by first | rfl | (simp; done) | (simp [*]; done), by repeat (first | exact Drawn0.refl _ | apply Drawn0.step)⟩
        · rw [if_neg c10] at H
          have c10b0 : decide ((l0.length : Int) < (l1.length : Int)) = false := decide_eq_false c10
          have c10b1 : decide (l0.length < l1.length) = false := decide_eq_false (fun h => c10 (Int.ofNat_lt.mpr h))
          clear c10
          obtain rfl := Option.some.inj H
          go_wp2
          go_ret
          exact ⟨by first | rfl | (simp; done) | (simp [*]; done), by repeat (first | exact Drawn0.refl _ | apply Drawn0.step)⟩

/-! ### impl_compareKeys: function 85 -/
def impl_compareKeys.f (k : Nat) (a0 : ByteArray) (a1 : ByteArray) : Option (Int) := (impl_runesOf.f k a0).bind fun bt269 => ((impl_runesOf.f k a1).bind fun bt273 => ((impl_pairsOf.f k bt269.1).bind fun t277 => ((impl_pairsOf.f k bt273.1).bind fun t280 => ((slices_Compare_int_int.f k t277 t280).bind fun t283 => (some t283)))))
theorem impl_compareKeys.mono : ∀ a0 a1 k, LeO (impl_compareKeys.f k a0 a1) (impl_compareKeys.f (k + 1) a0 a1) := by
  intro a0 a1 k
  unfold impl_compareKeys.f
  repeat' first
      | (with_reducible exact impl_pairsOf.mono _ _)
      | (with_reducible exact impl_runesOf.mono _ _)
      | (with_reducible exact slices_Compare_int_int.mono _ _ _)
      | (with_reducible exact LeO.refl _)
      | (with_reducible exact LeO.none _)
      | (with_reducible refine LeO.ite ?_ ?_)
      | (with_reducible refine LeO.bind ?_ (fun _ => ?_))
      | exact impl_pairsOf.mono _ _
      | exact impl_runesOf.mono _ _
      | exact slices_Compare_int_int.mono _ _ _
      | exact LeO.none _
      | refine LeO.ite ?_ ?_
      | refine LeO.bind ?_ (fun _ => ?_)
set_option maxHeartbeats 8000000 in
set_option maxRecDepth 100000 in
theorem impl_compareKeys.calls (k : Nat) (a0 : ByteArray) (a1 : ByteArray) (r : Int) (w : World) (tb : Go.Proofs.YtkfbdopfeacnfaaDoor.TabsV.Tabs0 w) (h : impl_compareKeys.f k a0 a1 = some r) :
    Calls Tryd.prog 85 #[.string a0, .string a1] w fun e w' => e = .returned (.int .i64 r) ∧ Below w.heap.size w w' := by
  have TB := Aside0.mk tb
  clear tb
  have HB := Aside0.mk (Below.refl w.heap.size w)
  have H : ((impl_runesOf.f k a0).bind fun bt269 => ((impl_runesOf.f k a1).bind fun bt273 => ((impl_pairsOf.f k bt269.1).bind fun t277 => ((impl_pairsOf.f k bt273.1).bind fun t280 => ((slices_Compare_int_int.f k t277 t280).bind fun t283 => (some t283)))))) = some r := h
  clear h
  replace H := Option.bind_eq_some_iff.mp H
  obtain ⟨⟨t269, t270⟩, A30, H⟩ := H
  replace H : ((impl_runesOf.f k a1).bind fun bt273 => ((impl_pairsOf.f k t269).bind fun t277 => ((impl_pairsOf.f k bt273.1).bind fun t280 => ((slices_Compare_int_int.f k t277 t280).bind fun t283 => (some t283))))) = some r := H
  have A3 := Aside0.mk A30
  clear A30
  replace H := Option.bind_eq_some_iff.mp H
  obtain ⟨⟨t273, t274⟩, A40, H⟩ := H
  replace H : ((impl_pairsOf.f k t269).bind fun t277 => ((impl_pairsOf.f k t273).bind fun t280 => ((slices_Compare_int_int.f k t277 t280).bind fun t283 => (some t283)))) = some r := H
  have A4 := Aside0.mk A40
  clear A40
  replace H := Option.bind_eq_some_iff.mp H
  obtain ⟨t277, A50, H⟩ := H
  replace H : ((impl_pairsOf.f k t273).bind fun t280 => ((slices_Compare_int_int.f k t277 t280).bind fun t283 => (some t283))) = some r := H
  have A5 := Aside0.mk A50
  clear A50
  replace H := Option.bind_eq_some_iff.mp H
  obtain ⟨t280, A60, H⟩ := H
  replace H : ((slices_Compare_int_int.f k t277 t280).bind fun t283 => (some t283)) = some r := H
  have A6 := Aside0.mk A60
  clear A60
  replace H := Option.bind_eq_some_iff.mp H
  obtain ⟨t283, A70, H⟩ := H
  replace H : (some t283) = some r := H
  have A7 := Aside0.mk A70
  clear A70
  obtain rfl := Option.some.inj H
  go_enter Tryd.func85, Tryd.ntmps85
  go_wp2_with (first | ((with_reducible refine gate_callee (f := 81) rfl ?_); refine goesL_ (some 11) rfl rfl Tryd.func81 (by kernel_rfl) rfl #[.string a0] rfl (by (try simp only [List.map_toArray, List.map_cons, List.map_nil]); first | done | rfl | (simp only [List.length_drop, List.length_take]; rfl)) ?_; (with_reducible refine (impl_runesOf.calls k a0 t269 t270 _ ?side1 A3.out).mono ?_); (case side1 => exact Go.Proofs.YtkfbdopfeacnfaaDoor.TabsV.Tabs0.of_below TB.out (by repeat (first | (with_reducible first | exact HB.out | apply below_alloc | apply pw_below_drewN | apply below_drew1) | exact HB.out))); rintro e w8 ⟨v271, rfl, ho0, hb⟩; refine ⟨_, rfl, ?_⟩; have n0_ := Aside0.mk (Kd.R_lower ho0 (below_size (by repeat (first | (with_reducible first | exact HB.out | apply below_alloc | apply pw_below_drewN | apply below_drew1) | exact HB.out)))); have n1_ := Aside0.mk (below_step (by repeat (first | (with_reducible first | exact HB.out | apply below_alloc | apply pw_below_drewN | apply below_drew1) | exact HB.out)) hb); clear HB; have HO272 := n0_; have HB := n1_; clear n0_ n1_; (try clear hb); (try clear hb2); (try clear hk); (try clear hi); (try clear ho0)) | ((with_reducible refine gate_callee (f := 81) rfl ?_); refine goesL_ (some 16) rfl rfl Tryd.func81 (by kernel_rfl) rfl #[.string a1] rfl (by (try simp only [List.map_toArray, List.map_cons, List.map_nil]); first | done | rfl | (simp only [List.length_drop, List.length_take]; rfl)) ?_; (with_reducible refine (impl_runesOf.calls k a1 t273 t274 _ ?side1 A4.out).mono ?_); (case side1 => exact Go.Proofs.YtkfbdopfeacnfaaDoor.TabsV.Tabs0.of_below TB.out (by repeat (first | (with_reducible first | exact HB.out | apply below_alloc | apply pw_below_drewN | apply below_drew1) | exact HB.out))); rintro e w9 ⟨v275, rfl, ho0, hb⟩; refine ⟨_, rfl, ?_⟩; have n0_ := Aside0.mk (Kd.R_elder' (by (with_reducible repeat (first | apply Kd.R_alloc | apply Kd.R_drewN | apply Kd.R_drew)); exact HO272.out) (Kd.R_base ho0) hb); have n1_ := Aside0.mk (Kd.R_lower (Kd.R_new' ho0 (Kd.R_lt (by (with_reducible repeat (first | apply Kd.R_alloc | apply Kd.R_drewN | apply Kd.R_drew)); exact HO272.out))) (below_size (by repeat (first | (with_reducible first | exact HB.out | apply below_alloc | apply pw_below_drewN | apply below_drew1) | exact HB.out)))); have n2_ := Aside0.mk (below_step (by repeat (first | (with_reducible first | exact HB.out | apply below_alloc | apply pw_below_drewN | apply below_drew1) | exact HB.out)) hb); clear HO272; clear HB; have HO272 := n0_; have HO276 := n1_; have HB := n2_; clear n0_ n1_ n2_; (try clear hb); (try clear hb2); (try clear hk); (try clear hi); (try clear ho0); obtain ⟨Ao10, co10, eo10⟩ := Kd.R_slice HO272.out; subst eo10) | ((with_reducible refine gate_callee (f := 101) rfl ?_); refine goesL_ (some 20) rfl rfl Tryd.func101 (by kernel_rfl) rfl #[.slice Ao10 t269.length co10] rfl (by (try simp only [List.map_toArray, List.map_cons, List.map_nil]); first | done | rfl | (simp only [List.length_drop, List.length_take]; rfl)) ?_; (with_reducible refine (impl_pairsOf.calls k _ _ t269 t277 _ ?side1 ?side2 A5.out).mono ?_); (case side1 => repeat (first | exact (Kd.R_reads' HO272.out).2.2 | (with_reducible refine Kd.C_alloc ?_ _) | (with_reducible refine Kd.C_drewN ?_ _) | (with_reducible refine Kd.C_drew ?_))); (case side2 => exact (Kd.R_reads' HO272.out).2.1); rintro e w11 ⟨v278, rfl, ho0, hb⟩; refine ⟨_, rfl, ?_⟩; have n0_ := Aside0.mk (Kd.R_elder' (by (with_reducible repeat (first | apply Kd.R_alloc | apply Kd.R_drewN | apply Kd.R_drew)); exact HO272.out) (Kd.R_base ho0) hb); have n1_ := Aside0.mk (Kd.R_elder' (by (with_reducible repeat (first | apply Kd.R_alloc | apply Kd.R_drewN | apply Kd.R_drew)); exact HO276.out) (Kd.R_base ho0) hb); have n2_ := Aside0.mk (Kd.R_lower (Kd.R_new' (Kd.R_new' ho0 (Kd.R_lt (by (with_reducible repeat (first | apply Kd.R_alloc | apply Kd.R_drewN | apply Kd.R_drew)); exact HO272.out))) (Kd.R_lt (by (with_reducible repeat (first | apply Kd.R_alloc | apply Kd.R_drewN | apply Kd.R_drew)); exact HO276.out))) (below_size (by repeat (first | (with_reducible first | exact HB.out | apply below_alloc | apply pw_below_drewN | apply below_drew1) | exact HB.out)))); have n3_ := Aside0.mk (below_step (by repeat (first | (with_reducible first | exact HB.out | apply below_alloc | apply pw_below_drewN | apply below_drew1) | exact HB.out)) hb); clear HO272; clear HO276; clear HB; have HO272 := n0_; have HO276 := n1_; have HO279 := n2_; have HB := n3_; clear n0_ n1_ n2_ n3_; (try clear hb); (try clear hb2); (try clear hk); (try clear hi); (try clear ho0); obtain ⟨Ao12, co12, eo12⟩ := Kd.R_slice HO276.out; subst eo12) | ((with_reducible refine gate_callee (f := 101) rfl ?_); refine goesL_ (some 22) rfl rfl Tryd.func101 (by kernel_rfl) rfl #[.slice Ao12 t273.length co12] rfl (by (try simp only [List.map_toArray, List.map_cons, List.map_nil]); first | done | rfl | (simp only [List.length_drop, List.length_take]; rfl)) ?_; (with_reducible refine (impl_pairsOf.calls k _ _ t273 t280 _ ?side1 ?side2 A6.out).mono ?_); (case side1 => repeat (first | exact (Kd.R_reads' HO276.out).2.2 | (with_reducible refine Kd.C_alloc ?_ _) | (with_reducible refine Kd.C_drewN ?_ _) | (with_reducible refine Kd.C_drew ?_))); (case side2 => exact (Kd.R_reads' HO276.out).2.1); rintro e w13 ⟨v281, rfl, ho0, hb⟩; refine ⟨_, rfl, ?_⟩; have n0_ := Aside0.mk (Kd.R_elder' (by (with_reducible repeat (first | apply Kd.R_alloc | apply Kd.R_drewN | apply Kd.R_drew)); exact HO272.out) (Kd.R_base ho0) hb); have n1_ := Aside0.mk (Kd.R_elder' (by (with_reducible repeat (first | apply Kd.R_alloc | apply Kd.R_drewN | apply Kd.R_drew)); exact HO276.out) (Kd.R_base ho0) hb); have n2_ := Aside0.mk (Kd.R_elder' (by (with_reducible repeat (first | apply Kd.R_alloc | apply Kd.R_drewN | apply Kd.R_drew)); exact HO279.out) (Kd.R_base ho0) hb); have n3_ := Aside0.mk (Kd.R_lower (Kd.R_new' (Kd.R_new' (Kd.R_new' ho0 (Kd.R_lt (by (with_reducible repeat (first | apply Kd.R_alloc | apply Kd.R_drewN | apply Kd.R_drew)); exact HO272.out))) (Kd.R_lt (by (with_reducible repeat (first | apply Kd.R_alloc | apply Kd.R_drewN | apply Kd.R_drew)); exact HO276.out))) (Kd.R_lt (by (with_reducible repeat (first | apply Kd.R_alloc | apply Kd.R_drewN | apply Kd.R_drew)); exact HO279.out))) (below_size (by repeat (first | (with_reducible first | exact HB.out | apply below_alloc | apply pw_below_drewN | apply below_drew1) | exact HB.out)))); have n4_ := Aside0.mk (below_step (by repeat (first | (with_reducible first | exact HB.out | apply below_alloc | apply pw_below_drewN | apply below_drew1) | exact HB.out)) hb); clear HO272; clear HO276; clear HO279; clear HB; have HO272 := n0_; have HO276 := n1_; have HO279 := n2_; have HO282 := n3_; have HB := n4_; clear n0_ n1_ n2_ n3_ n4_; (try clear hb); (try clear hb2); (try clear hk); (try clear hi); (try clear ho0); obtain ⟨Ao14, co14, eo14⟩ := Kd.R_slice HO279.out; subst eo14; obtain ⟨Ao15, co15, eo15⟩ := Kd.R_slice HO282.out; subst eo15) | ((with_reducible refine gate_callee (f := 119) rfl ?_); refine goesL_ (some 23) rfl rfl Tryd.func119 (by kernel_rfl) rfl #[.slice Ao14 t277.length co14, .slice Ao15 t280.length co15] rfl (by (try simp only [List.map_toArray, List.map_cons, List.map_nil]); first | done | rfl | (simp only [List.length_drop, List.length_take]; rfl)) ?_; (with_reducible refine (slices_Compare_int_int.calls k _ _ t277 _ _ t280 t283 _ ?side1 ?side2 ?side3 ?side4 A7.out).mono ?_); (case side1 => repeat (first | exact (Kd.R_reads' HO279.out).2.2 | (with_reducible refine Kd.C_alloc ?_ _) | (with_reducible refine Kd.C_drewN ?_ _) | (with_reducible refine Kd.C_drew ?_))); (case side2 => exact (Kd.R_reads' HO279.out).2.1); (case side3 => repeat (first | exact (Kd.R_reads' HO282.out).2.2 | (with_reducible refine Kd.C_alloc ?_ _) | (with_reducible refine Kd.C_drewN ?_ _) | (with_reducible refine Kd.C_drew ?_))); (case side4 => exact (Kd.R_reads' HO282.out).2.1); rintro e w' ⟨rfl, ⟨nd, rfl⟩⟩; refine ⟨_, rfl, ?_⟩))
  go_ret
  exact ⟨by first | rfl | (simp [errW_none, errW_some] <;> rfl) | (simp [*, errW_none, errW_some] <;> rfl), by repeat (first | (with_reducible first | exact HB.out | apply below_alloc | apply pw_below_drewN | apply below_drew1) | exact HB.out)⟩

/-! ### impl_isPart: function 72 -/
theorem impl_isPart.heap : Kd.Heap k61 := Kd.heap_iso _ (Kd.heap_pair Kd.heap_string (Kd.heap_pair (Kd.heap_int .i64) (Kd.heap_pair (Kd.heap_int .i64) (Kd.heap_pair Kd.heap_string (Kd.heap_int .i64)))))
theorem add0_ad (a : Addr) : a.add 0 = a := by cases a; simp [Addr.add]
/-- Is this part's key wrong here? -/
def impl_isPart.bad (k : Nat) (kind : Int) (key last : ByteArray) (i : Int) : Option Bool :=
  if kind = 7 then (impl_isText.f k key).bind fun t => if t = true then (if 0 < i then (impl_compareKeys.f k last key).bind fun c => some (decide (0 ≤ c)) else some false) else some true
  else if kind = 6 then some (!key.toList.isEmpty) else some false
mutual
def impl_isPart.f : Nat → List S61 → Int → Option Bool
  | 0, _, _ => none
  | k + 1, l, dp => if 6 < dp then some false else if 0 < (l.length : Int) then (impl_isNode.f k (rd_T61 l 0).f0 (rd_T61 l 0).f1 (rd_T61 l 0).f2 (rd_T61 l 0).f3 (rd_T61 l 0).f4).bind fun b => if b = true then (impl_partsOf.f k l).bind fun ps => if ps.length < 1000000 then impl_isPart.l k l dp ps ⟨#[]⟩ 0 else none else some false
    else none
def impl_isPart.l : Nat → List S61 → Int → List (List S61) → ByteArray → Int → Option Bool
  | 0, _, _, _, _, _ => none
  | k + 1, l, dp, ps, last, i => if i < (ps.length : Int) then (if 0 < ((rd_L5 ps i).length : Int) then (impl_isPart.bad k (rd_T61 l 0).f1 (rd_T61 (rd_L5 ps i) 0).f0 last i).bind fun b => if b = true then some false
      else (impl_isPart.f k (rd_L5 ps i) (wrap64 (dp + 1))).bind fun b => if b = true then impl_isPart.l k l dp ps (rd_T61 (rd_L5 ps i) 0).f0 (i + 1) else some false else none) else some true
end
theorem impl_isPart.bad_mono : ∀ kind key last i k, LeO (impl_isPart.bad k kind key last i) (impl_isPart.bad (k + 1) kind key last i) := by
  intro kind key last i k
  unfold impl_isPart.bad
  exact LeO.ite (LeO.bind (impl_isText.mono _ _) fun t => LeO.ite (LeO.ite (LeO.bind (impl_compareKeys.mono _ _ _) fun c => LeO.refl _) (LeO.refl _)) (LeO.refl _)) (LeO.refl _)
theorem impl_isPart.mono_l : ∀ k, (∀ l dp, LeO (impl_isPart.f k l dp) (impl_isPart.f (k + 1) l dp)) ∧ (∀ l dp ps last i, LeO (impl_isPart.l k l dp ps last i) (impl_isPart.l (k + 1) l dp ps last i))
  | 0 => ⟨fun _ _ r h => by simp [impl_isPart.f] at h, fun _ _ _ _ _ r h => by simp [impl_isPart.l] at h⟩
  | k + 1 => by
    obtain ⟨ih0, ih1⟩ := impl_isPart.mono_l k
    refine ⟨?_, ?_⟩
    · intro l dp
      rw [impl_isPart.f, impl_isPart.f]
      exact LeO.ite (LeO.refl _) (LeO.ite (LeO.bind (impl_isNode.mono _ _ _ _ _ _) fun b => LeO.ite (LeO.bind (impl_partsOf.mono _ _) fun ps => LeO.ite (ih1 _ _ _ _ _) (LeO.refl _)) (LeO.refl _)) (LeO.refl _))
    · intro l dp ps last i
      rw [impl_isPart.l, impl_isPart.l]
      exact LeO.ite (LeO.ite (LeO.bind (impl_isPart.bad_mono _ _ _ _ _) fun b => LeO.ite (LeO.refl _) (LeO.bind (ih0 _ _) fun b => LeO.ite (ih1 _ _ _ _ _) (LeO.refl _))) (LeO.refl _)) (LeO.refl _)
theorem impl_isPart.mono : ∀ l dp k, LeO (impl_isPart.f k l dp) (impl_isPart.f (k + 1) l dp) := fun l dp k => (impl_isPart.mono_l k).1 l dp
set_option maxHeartbeats 16000000 in
set_option maxRecDepth 100000 in
theorem impl_isPart.calls (k : Nat) : ∀ (A0 : Option Addr) (c0 : Nat) (l : List S61) (dp : Int) (r : Bool) (w : World) (tb : Go.Proofs.YtkfbdopfeacnfaaDoor.TabsV.Tabs0 w) (hr0 : Kd.C k61 w A0 l.length l) (hc0 : l.length ≤ c0) (h : impl_isPart.f k l dp = some r),
    Calls Tryd.prog 72 #[.slice A0 l.length c0, .int .i64 dp] w fun e w' => e = .returned (.bool r) ∧ Below w.heap.size w w' := by
  induction k using Nat.strongRecOn with
  | _ k IH =>
  intro A0 c0 l dp r w tb hr0 hc0 h
  have hu61 := Tryd.underlying61
  have HR0 := Aside0.mk hr0
  have HC0 := Aside0.mk hc0
  have HB := Aside0.mk (Below.refl w.heap.size w)
  have TB := Aside0.mk tb
  have HIH := Aside0.mk IH
  clear hr0 hc0 tb IH
  cases k with
  | zero => rw [impl_isPart.f] at h; cases h
  | succ k =>
  have HIH := Aside0.mk (fun (m : Nat) (hm : m ≤ k) => HIH.out m (Nat.lt_succ_of_le hm))
  obtain ⟨K, hK⟩ : ∃ K, K = k := ⟨_, rfl⟩
  rw [impl_isPart.f] at h
  by_cases c1 : 6 < dp
  · rw [if_pos c1] at h
    have c1b0 : decide (6 < dp) = true := decide_eq_true c1
    injection h with h
    subst h
    clear c1
    go_enter Tryd.func72, Tryd.ntmps72
    go_wp2
    go_ret
    exact ⟨by first | rfl | (simp; done), HB.out⟩
  rw [if_neg c1] at h
  have c1b0 : decide (6 < dp) = false := decide_eq_false c1
  by_cases c3 : 0 < (l.length : Int)
  rotate_left
  · rw [if_neg c3] at h; cases h
  rw [if_pos c3] at h
  obtain ⟨ad, e0, hx0, hx1, hx2, hx3, hx4⟩ := at_T61 HR0.out 0 (Int.le_refl _) (by omega)
  cases e0
  have q0 : ((0 : Int) < (l.length : Int)) = True := eq_true c3
  have q1 : (0 < l.length) = True := eq_true (by omega)
  simp only [Int.toNat_zero, Nat.zero_mul, add0_ad] at hx0 hx1 hx2 hx3 hx4
  have X0 := Aside0.mk hx0
  have X1 := Aside0.mk hx1
  have X2 := Aside0.mk hx2
  have X3 := Aside0.mk hx3
  have X4 := Aside0.mk hx4
  obtain ⟨x, hx⟩ : ∃ x, x = rd_T61 l 0 := ⟨_, rfl⟩
  rw [← hx] at h hx0 hx1 hx2 hx3 hx4 X0 X1 X2 X3 X4
  have HX := Aside0.mk hx
  clear hx c1 c3
  obtain ⟨b, hb0, h⟩ := Option.bind_eq_some_iff.mp h
  have HNODE := Aside0.mk hb0
  clear hb0
  cases b with
  | false =>
    rw [if_neg (by decide)] at h
    injection h with h
    subst h
    go_enter Tryd.func72, Tryd.ntmps72
    go_wp2_with (first | (go_at_call 103; refine (impl_isNode.calls k x.f0 x.f1 x.f2 x.f3 x.f4 _ _ (Go.Proofs.YtkfbdopfeacnfaaDoor.TabsV.Tabs0.of_below TB.out HB.out) HNODE.out).mono ?_; rintro e w1 ⟨rfl, hb⟩; have m0_ := Aside0.mk (below_step HB.out hb); clear hx0 hx1 hx2 hx3 hx4 hb; clear HB; have HB := m0_; clear m0_; have hx0 := (HB.out.cell (World.block_lt_of_cell? _ _ X0.out)).trans X0.out; have hx1 := (HB.out.cell (World.block_lt_of_cell? _ _ X1.out)).trans X1.out; have hx2 := (HB.out.cell (World.block_lt_of_cell? _ _ X2.out)).trans X2.out; have hx3 := (HB.out.cell (World.block_lt_of_cell? _ _ X3.out)).trans X3.out; have hx4 := (HB.out.cell (World.block_lt_of_cell? _ _ X4.out)).trans X4.out))
    go_ret
    exact ⟨by first | rfl | (simp; done), HB.out⟩
  | true =>
  rw [if_pos rfl] at h
  obtain ⟨ps, hps, h⟩ := Option.bind_eq_some_iff.mp h
  have HPS := Aside0.mk hps
  clear hps
  by_cases c4 : ps.length < 1000000
  rotate_left
  · rw [if_neg c4] at h; cases h
  rw [if_pos c4] at h
  have HLEN := Aside0.mk c4
  have HL := Aside0.mk h
  clear h c4
  go_enter Tryd.func72, Tryd.ntmps72
  go_wp2_with (first | (go_at_call 103; refine (impl_isNode.calls k x.f0 x.f1 x.f2 x.f3 x.f4 _ _ (Go.Proofs.YtkfbdopfeacnfaaDoor.TabsV.Tabs0.of_below TB.out HB.out) HNODE.out).mono ?_; rintro e w1 ⟨rfl, hb⟩; have m0_ := Aside0.mk (below_step HB.out hb); clear hx0 hx1 hx2 hx3 hx4 hb; clear HB; have HB := m0_; clear m0_; have hx0 := (HB.out.cell (World.block_lt_of_cell? _ _ X0.out)).trans X0.out; have hx1 := (HB.out.cell (World.block_lt_of_cell? _ _ X1.out)).trans X1.out; have hx2 := (HB.out.cell (World.block_lt_of_cell? _ _ X2.out)).trans X2.out; have hx3 := (HB.out.cell (World.block_lt_of_cell? _ _ X3.out)).trans X3.out; have hx4 := (HB.out.cell (World.block_lt_of_cell? _ _ X4.out)).trans X4.out) | (go_at_call 44; refine (impl_partsOf.calls k (fun k_ => k_ < w.heap.size) _ _ l ps _ (Kd.V_mk HC0.out (Kd.F_below (Kd.C_F impl_isPart.heap HR0.out) HB.out)) HPS.out).mono ?_; rintro e w2 ⟨v281, rfl, ho0, hb⟩; have HN := Aside0.mk (Kd.N_lower (Kd.N_mono (ok' := fun k_ => True) ho0 (fun k_ hk_ => trivial)) (below_size HB.out)); have m0_ := Aside0.mk (below_step HB.out hb); clear hx0 hx1 hx2 hx3 hx4 hb; clear HB; have HB := m0_; clear m0_; have hx0 := (HB.out.cell (World.block_lt_of_cell? _ _ X0.out)).trans X0.out; have hx1 := (HB.out.cell (World.block_lt_of_cell? _ _ X1.out)).trans X1.out; have hx2 := (HB.out.cell (World.block_lt_of_cell? _ _ X2.out)).trans X2.out; have hx3 := (HB.out.cell (World.block_lt_of_cell? _ _ X3.out)).trans X3.out; have hx4 := (HB.out.cell (World.block_lt_of_cell? _ _ X4.out)).trans X4.out; clear ho0; obtain ⟨A2, c2, e2⟩ := Kd.N_slice HN.out; subst e2))
  subst hK
  go_loopg [5, 21] K (fun kq v5 v21 w' => ∃ (last : ByteArray) (i : Int), v5 = .string last ∧ v21 = .int .i64 i ∧ Aside0 (impl_isPart.l kq l dp ps last i = some r ∧ kq ≤ K ∧ 0 ≤ i) ∧ Aside0 (Kd.N (Kd.slice 61 k61) 22 w' w.heap.size (fun _ => True) (.slice A2 ps.length c2) ps) ∧ Aside0 (Below w.heap.size w w'))
  case atStart => exact ⟨⟨#[]⟩, 0, rfl, rfl, ⟨HL.out, Nat.le_refl _, Int.le_refl _⟩, HN, HB⟩
  case round =>
    clear HL HB HN hx0 hx1 hx2 hx3 hx4
    obtain ⟨last, i, rfl, rfl, HL, HN, HB⟩ := hrel
    have hx0 := (HB.out.cell (World.block_lt_of_cell? _ _ X0.out)).trans X0.out
    have hx1 := (HB.out.cell (World.block_lt_of_cell? _ _ X1.out)).trans X1.out
    have hx2 := (HB.out.cell (World.block_lt_of_cell? _ _ X2.out)).trans X2.out
    have hx3 := (HB.out.cell (World.block_lt_of_cell? _ _ X3.out)).trans X3.out
    have hx4 := (HB.out.cell (World.block_lt_of_cell? _ _ X4.out)).trans X4.out
    cases gk with
    | zero => have := HL.out.1; rw [impl_isPart.l] at this; cases this
    | succ m =>
      have h := HL.out.1
      rw [impl_isPart.l, ← HX.out] at h
      by_cases c5 : i < (ps.length : Int)
      rotate_left
      · rw [if_neg c5] at h
        have c5b0 : decide (i < (ps.length : Int)) = false := decide_eq_false c5
        clear c5
        injection h with h
        subst h
        go_wp2
        go_ret
        exact ⟨by first | rfl | (simp; done), HB.out⟩
      rw [if_pos c5] at h
      have c5b0 : decide (i < (ps.length : Int)) = true := decide_eq_true c5
      have hi0 : (0 ≤ i) = True := eq_true HL.out.2.2
      have hi1 : (i < (ps.length : Int)) = True := eq_true c5
      have hi2 : wrap64 (i + 1) = i + 1 := by unfold wrap64; have := HL.out.2.2; have := HLEN.out; omega
      have hi3 : IntKind.i64.wrap (i + 1) = i + 1 := by rw [IntKind.wrap_i64]; have := HL.out.2.2; have := HLEN.out; omega
      obtain ⟨ad3, A3, c3, e3, hcl, hQC, hQ⟩ := at_L5 (Kd.N_reads' HN.out).2.2 i HL.out.2.2 c5
      cases e3
      obtain ⟨q, hq⟩ : ∃ q, q = rd_L5 ps i := ⟨_, rfl⟩
      rw [← hq] at h hcl hQC hQ
      by_cases c6 : 0 < (q.length : Int)
      rotate_left
      · rw [if_neg c6] at h; cases h
      rw [if_pos c6] at h
      obtain ⟨ad4, e4, hy0, _⟩ := at_T61 hQ 0 (Int.le_refl _) (by omega)
      cases e4
      simp only [Int.toNat_zero, Nat.zero_mul, add0_ad] at hy0
      obtain ⟨p, hp⟩ : ∃ p, p = rd_T61 q 0 := ⟨_, rfl⟩
      rw [← hp] at h hy0
      have q2 : ((0 : Int) < (q.length : Int)) = True := eq_true c6
      have q3 : (0 < q.length) = True := eq_true (by omega)
      have HP := Aside0.mk hQ
      have HQC := Aside0.mk hQC
      have HQ_ := Aside0.mk hq
      have HP_ := Aside0.mk hp
      clear c5 c6 hQ hQC hq hp
      obtain ⟨bad, hbad, h⟩ := Option.bind_eq_some_iff.mp h
      unfold impl_isPart.bad at hbad
      by_cases c7 : x.f1 = 7
      · rw [if_pos c7] at hbad
        have c7b0 : (x.f1 == 7) = true := beq_iff_eq.mpr c7
        have c7b1 : (x.f1 == 6) = false := beq_eq_false_iff_ne.mpr (by omega)
        clear c7
        obtain ⟨t, ht, hbad⟩ := Option.bind_eq_some_iff.mp hbad
        have HTX := Aside0.mk ht
        clear ht
        cases t with
        | false =>
          rw [if_neg (by decide)] at hbad
          injection hbad with hbad
          subst hbad
          rw [if_pos rfl] at h
          injection h with h
          subst h
          go_wp2_with (first | (go_at_call 104; refine (impl_isText.calls m p.f0 _ _ (Go.Proofs.YtkfbdopfeacnfaaDoor.TabsV.Tabs0.of_below TB.out HB.out) HTX.out).mono ?_; rintro e w4 ⟨rfl, hb⟩; have m0_ := Aside0.mk (below_step HB.out hb); have m1_ := Aside0.mk (Kd.N_below HN.out hb); have m2_ := Aside0.mk (Kd.C_below HP.out hb); clear hx0 hx1 hx2 hx3 hx4 hb; clear HB HN HP; (try clear hcl); have HB := m0_; have HN := m1_; have HP := m2_; clear m0_ m1_ m2_; have hx0 := (HB.out.cell (World.block_lt_of_cell? _ _ X0.out)).trans X0.out; have hx1 := (HB.out.cell (World.block_lt_of_cell? _ _ X1.out)).trans X1.out; have hx2 := (HB.out.cell (World.block_lt_of_cell? _ _ X2.out)).trans X2.out; have hx3 := (HB.out.cell (World.block_lt_of_cell? _ _ X3.out)).trans X3.out; have hx4 := (HB.out.cell (World.block_lt_of_cell? _ _ X4.out)).trans X4.out))
          go_ret
          exact ⟨by first | rfl | (simp; done), HB.out⟩
        | true =>
          rw [if_pos rfl] at hbad
          by_cases c8 : 0 < i
          · rw [if_pos c8] at hbad
            have c8b0 : decide (0 < i) = true := decide_eq_true c8
            clear c8
            obtain ⟨c, hc, hbad⟩ := Option.bind_eq_some_iff.mp hbad
            have HCM := Aside0.mk hc
            clear hc
            injection hbad with hbad
            cases bad with
            | true =>
              rw [if_pos rfl] at h
              injection h with h
              subst h
              go_wp2_with (first | (go_at_call 104; refine (impl_isText.calls m p.f0 _ _ (Go.Proofs.YtkfbdopfeacnfaaDoor.TabsV.Tabs0.of_below TB.out HB.out) HTX.out).mono ?_; rintro e w4 ⟨rfl, hb⟩; have m0_ := Aside0.mk (below_step HB.out hb); have m1_ := Aside0.mk (Kd.N_below HN.out hb); have m2_ := Aside0.mk (Kd.C_below HP.out hb); clear hx0 hx1 hx2 hx3 hx4 hb; clear HB HN HP; (try clear hcl); have HB := m0_; have HN := m1_; have HP := m2_; clear m0_ m1_ m2_; have hx0 := (HB.out.cell (World.block_lt_of_cell? _ _ X0.out)).trans X0.out; have hx1 := (HB.out.cell (World.block_lt_of_cell? _ _ X1.out)).trans X1.out; have hx2 := (HB.out.cell (World.block_lt_of_cell? _ _ X2.out)).trans X2.out; have hx3 := (HB.out.cell (World.block_lt_of_cell? _ _ X3.out)).trans X3.out; have hx4 := (HB.out.cell (World.block_lt_of_cell? _ _ X4.out)).trans X4.out) | (go_at_call 85; refine (impl_compareKeys.calls m last p.f0 _ _ (Go.Proofs.YtkfbdopfeacnfaaDoor.TabsV.Tabs0.of_below TB.out HB.out) HCM.out).mono ?_; rintro e w5 ⟨rfl, hb⟩; have m0_ := Aside0.mk (below_step HB.out hb); have m1_ := Aside0.mk (Kd.N_below HN.out hb); have m2_ := Aside0.mk (Kd.C_below HP.out hb); clear hx0 hx1 hx2 hx3 hx4 hb; clear HB HN HP; have HB := m0_; have HN := m1_; have HP := m2_; clear m0_ m1_ m2_; have hx0 := (HB.out.cell (World.block_lt_of_cell? _ _ X0.out)).trans X0.out; have hx1 := (HB.out.cell (World.block_lt_of_cell? _ _ X1.out)).trans X1.out; have hx2 := (HB.out.cell (World.block_lt_of_cell? _ _ X2.out)).trans X2.out; have hx3 := (HB.out.cell (World.block_lt_of_cell? _ _ X3.out)).trans X3.out; have hx4 := (HB.out.cell (World.block_lt_of_cell? _ _ X4.out)).trans X4.out))
              go_ret
              exact ⟨by first | rfl | (simp; done), HB.out⟩
            | false =>
              rw [if_neg (by decide)] at h
              obtain ⟨b, hself, h⟩ := Option.bind_eq_some_iff.mp h
              have HSELF := Aside0.mk (fun w_ h_ t_ => HIH.out m (by have := HL.out.2.1; omega) (some ad4) c3 q (wrap64 (dp + 1)) b w_ t_ h_ HQC.out hself)
              clear hself
              cases b with
              | false =>
                rw [if_neg (by decide)] at h
                injection h with h
                subst h
                go_wp2_with (first | (go_at_call 104; refine (impl_isText.calls m p.f0 _ _ (Go.Proofs.YtkfbdopfeacnfaaDoor.TabsV.Tabs0.of_below TB.out HB.out) HTX.out).mono ?_; rintro e w4 ⟨rfl, hb⟩; have m0_ := Aside0.mk (below_step HB.out hb); have m1_ := Aside0.mk (Kd.N_below HN.out hb); have m2_ := Aside0.mk (Kd.C_below HP.out hb); clear hx0 hx1 hx2 hx3 hx4 hb; clear HB HN HP; (try clear hcl); have HB := m0_; have HN := m1_; have HP := m2_; clear m0_ m1_ m2_; have hx0 := (HB.out.cell (World.block_lt_of_cell? _ _ X0.out)).trans X0.out; have hx1 := (HB.out.cell (World.block_lt_of_cell? _ _ X1.out)).trans X1.out; have hx2 := (HB.out.cell (World.block_lt_of_cell? _ _ X2.out)).trans X2.out; have hx3 := (HB.out.cell (World.block_lt_of_cell? _ _ X3.out)).trans X3.out; have hx4 := (HB.out.cell (World.block_lt_of_cell? _ _ X4.out)).trans X4.out) | (go_at_call 85; refine (impl_compareKeys.calls m last p.f0 _ _ (Go.Proofs.YtkfbdopfeacnfaaDoor.TabsV.Tabs0.of_below TB.out HB.out) HCM.out).mono ?_; rintro e w5 ⟨rfl, hb⟩; have m0_ := Aside0.mk (below_step HB.out hb); have m1_ := Aside0.mk (Kd.N_below HN.out hb); have m2_ := Aside0.mk (Kd.C_below HP.out hb); clear hx0 hx1 hx2 hx3 hx4 hb; clear HB HN HP; have HB := m0_; have HN := m1_; have HP := m2_; clear m0_ m1_ m2_; have hx0 := (HB.out.cell (World.block_lt_of_cell? _ _ X0.out)).trans X0.out; have hx1 := (HB.out.cell (World.block_lt_of_cell? _ _ X1.out)).trans X1.out; have hx2 := (HB.out.cell (World.block_lt_of_cell? _ _ X2.out)).trans X2.out; have hx3 := (HB.out.cell (World.block_lt_of_cell? _ _ X3.out)).trans X3.out; have hx4 := (HB.out.cell (World.block_lt_of_cell? _ _ X4.out)).trans X4.out) | ((with_reducible refine gate_callee (f := 72) rfl ?_); refine goesL_ (some 65) rfl rfl Tryd.func72 (by kernel_rfl) rfl #[.slice (some ad4) q.length c3, .int .i64 (wrap64 (dp + 1))] rfl (by (try simp only [List.map_toArray, List.map_cons, List.map_nil]); first | done | rfl) ?_; (refine (HSELF.out _ HP.out (Go.Proofs.YtkfbdopfeacnfaaDoor.TabsV.Tabs0.of_below TB.out HB.out)).mono ?_); rintro e w6 ⟨rfl, hb⟩; refine ⟨_, rfl, ?_⟩; have m0_ := Aside0.mk (below_step HB.out hb); have m1_ := Aside0.mk (Kd.N_below HN.out hb); have m2_ := Aside0.mk (Kd.C_below HP.out hb); clear hx0 hx1 hx2 hx3 hx4 hb; clear HB HN HP; have HB := m0_; have HN := m1_; have HP := m2_; clear m0_ m1_ m2_; have hx0 := (HB.out.cell (World.block_lt_of_cell? _ _ X0.out)).trans X0.out; have hx1 := (HB.out.cell (World.block_lt_of_cell? _ _ X1.out)).trans X1.out; have hx2 := (HB.out.cell (World.block_lt_of_cell? _ _ X2.out)).trans X2.out; have hx3 := (HB.out.cell (World.block_lt_of_cell? _ _ X3.out)).trans X3.out; have hx4 := (HB.out.cell (World.block_lt_of_cell? _ _ X4.out)).trans X4.out))
                go_ret
                exact ⟨by first | rfl | (simp; done), HB.out⟩
              | true =>
                rw [if_pos rfl] at h
                have HL2 := Aside0.mk (show impl_isPart.l m l dp ps p.f0 (i + 1) = some r ∧ m ≤ K ∧ 0 ≤ i + 1 from ⟨h, by have := HL.out.2.1; omega, by have := HL.out.2.2; omega⟩)
                clear h
                go_wp2_with (first | (go_at_call 104; refine (impl_isText.calls m p.f0 _ _ (Go.Proofs.YtkfbdopfeacnfaaDoor.TabsV.Tabs0.of_below TB.out HB.out) HTX.out).mono ?_; rintro e w4 ⟨rfl, hb⟩; have m0_ := Aside0.mk (below_step HB.out hb); have m1_ := Aside0.mk (Kd.N_below HN.out hb); have m2_ := Aside0.mk (Kd.C_below HP.out hb); clear hx0 hx1 hx2 hx3 hx4 hb; clear HB HN HP; (try clear hcl); have HB := m0_; have HN := m1_; have HP := m2_; clear m0_ m1_ m2_; have hx0 := (HB.out.cell (World.block_lt_of_cell? _ _ X0.out)).trans X0.out; have hx1 := (HB.out.cell (World.block_lt_of_cell? _ _ X1.out)).trans X1.out; have hx2 := (HB.out.cell (World.block_lt_of_cell? _ _ X2.out)).trans X2.out; have hx3 := (HB.out.cell (World.block_lt_of_cell? _ _ X3.out)).trans X3.out; have hx4 := (HB.out.cell (World.block_lt_of_cell? _ _ X4.out)).trans X4.out) | (go_at_call 85; refine (impl_compareKeys.calls m last p.f0 _ _ (Go.Proofs.YtkfbdopfeacnfaaDoor.TabsV.Tabs0.of_below TB.out HB.out) HCM.out).mono ?_; rintro e w5 ⟨rfl, hb⟩; have m0_ := Aside0.mk (below_step HB.out hb); have m1_ := Aside0.mk (Kd.N_below HN.out hb); have m2_ := Aside0.mk (Kd.C_below HP.out hb); clear hx0 hx1 hx2 hx3 hx4 hb; clear HB HN HP; have HB := m0_; have HN := m1_; have HP := m2_; clear m0_ m1_ m2_; have hx0 := (HB.out.cell (World.block_lt_of_cell? _ _ X0.out)).trans X0.out; have hx1 := (HB.out.cell (World.block_lt_of_cell? _ _ X1.out)).trans X1.out; have hx2 := (HB.out.cell (World.block_lt_of_cell? _ _ X2.out)).trans X2.out; have hx3 := (HB.out.cell (World.block_lt_of_cell? _ _ X3.out)).trans X3.out; have hx4 := (HB.out.cell (World.block_lt_of_cell? _ _ X4.out)).trans X4.out) | ((with_reducible refine gate_callee (f := 72) rfl ?_); refine goesL_ (some 65) rfl rfl Tryd.func72 (by kernel_rfl) rfl #[.slice (some ad4) q.length c3, .int .i64 (wrap64 (dp + 1))] rfl (by (try simp only [List.map_toArray, List.map_cons, List.map_nil]); first | done | rfl) ?_; (refine (HSELF.out _ HP.out (Go.Proofs.YtkfbdopfeacnfaaDoor.TabsV.Tabs0.of_below TB.out HB.out)).mono ?_); rintro e w6 ⟨rfl, hb⟩; refine ⟨_, rfl, ?_⟩; have m0_ := Aside0.mk (below_step HB.out hb); have m1_ := Aside0.mk (Kd.N_below HN.out hb); have m2_ := Aside0.mk (Kd.C_below HP.out hb); clear hx0 hx1 hx2 hx3 hx4 hb; clear HB HN HP; have HB := m0_; have HN := m1_; have HP := m2_; clear m0_ m1_ m2_; have hx0 := (HB.out.cell (World.block_lt_of_cell? _ _ X0.out)).trans X0.out; have hx1 := (HB.out.cell (World.block_lt_of_cell? _ _ X1.out)).trans X1.out; have hx2 := (HB.out.cell (World.block_lt_of_cell? _ _ X2.out)).trans X2.out; have hx3 := (HB.out.cell (World.block_lt_of_cell? _ _ X3.out)).trans X3.out; have hx4 := (HB.out.cell (World.block_lt_of_cell? _ _ X4.out)).trans X4.out))
                go_roundg m
                case measure => have := HL2.out.2.1; omega
                case rel => exact ⟨p.f0, i + 1, by first | rfl | (simp; done), by first | rfl | (rw [hi2]; done) | (rw [hi3]; done), HL2, HN, HB⟩
          · rw [if_neg c8] at hbad
            have c8b0 : decide (0 < i) = false := decide_eq_false c8
            clear c8
            injection hbad with hbad
            subst hbad
            rw [if_neg (by decide)] at h
            obtain ⟨b, hself, h⟩ := Option.bind_eq_some_iff.mp h
            have HSELF := Aside0.mk (fun w_ h_ t_ => HIH.out m (by have := HL.out.2.1; omega) (some ad4) c3 q (wrap64 (dp + 1)) b w_ t_ h_ HQC.out hself)
            clear hself
            cases b with
            | false =>
              rw [if_neg (by decide)] at h
              injection h with h
              subst h
              go_wp2_with (first | (go_at_call 104; refine (impl_isText.calls m p.f0 _ _ (Go.Proofs.YtkfbdopfeacnfaaDoor.TabsV.Tabs0.of_below TB.out HB.out) HTX.out).mono ?_; rintro e w4 ⟨rfl, hb⟩; have m0_ := Aside0.mk (below_step HB.out hb); have m1_ := Aside0.mk (Kd.N_below HN.out hb); have m2_ := Aside0.mk (Kd.C_below HP.out hb); clear hx0 hx1 hx2 hx3 hx4 hb; clear HB HN HP; (try clear hcl); have HB := m0_; have HN := m1_; have HP := m2_; clear m0_ m1_ m2_; have hx0 := (HB.out.cell (World.block_lt_of_cell? _ _ X0.out)).trans X0.out; have hx1 := (HB.out.cell (World.block_lt_of_cell? _ _ X1.out)).trans X1.out; have hx2 := (HB.out.cell (World.block_lt_of_cell? _ _ X2.out)).trans X2.out; have hx3 := (HB.out.cell (World.block_lt_of_cell? _ _ X3.out)).trans X3.out; have hx4 := (HB.out.cell (World.block_lt_of_cell? _ _ X4.out)).trans X4.out) | ((with_reducible refine gate_callee (f := 72) rfl ?_); refine goesL_ (some 65) rfl rfl Tryd.func72 (by kernel_rfl) rfl #[.slice (some ad4) q.length c3, .int .i64 (wrap64 (dp + 1))] rfl (by (try simp only [List.map_toArray, List.map_cons, List.map_nil]); first | done | rfl) ?_; (refine (HSELF.out _ HP.out (Go.Proofs.YtkfbdopfeacnfaaDoor.TabsV.Tabs0.of_below TB.out HB.out)).mono ?_); rintro e w6 ⟨rfl, hb⟩; refine ⟨_, rfl, ?_⟩; have m0_ := Aside0.mk (below_step HB.out hb); have m1_ := Aside0.mk (Kd.N_below HN.out hb); have m2_ := Aside0.mk (Kd.C_below HP.out hb); clear hx0 hx1 hx2 hx3 hx4 hb; clear HB HN HP; have HB := m0_; have HN := m1_; have HP := m2_; clear m0_ m1_ m2_; have hx0 := (HB.out.cell (World.block_lt_of_cell? _ _ X0.out)).trans X0.out; have hx1 := (HB.out.cell (World.block_lt_of_cell? _ _ X1.out)).trans X1.out; have hx2 := (HB.out.cell (World.block_lt_of_cell? _ _ X2.out)).trans X2.out; have hx3 := (HB.out.cell (World.block_lt_of_cell? _ _ X3.out)).trans X3.out; have hx4 := (HB.out.cell (World.block_lt_of_cell? _ _ X4.out)).trans X4.out))
              go_ret
              exact ⟨by first | rfl | (simp; done), HB.out⟩
            | true =>
              rw [if_pos rfl] at h
              have HL2 := Aside0.mk (show impl_isPart.l m l dp ps p.f0 (i + 1) = some r ∧ m ≤ K ∧ 0 ≤ i + 1 from ⟨h, by have := HL.out.2.1; omega, by have := HL.out.2.2; omega⟩)
              clear h
              go_wp2_with (first | (go_at_call 104; refine (impl_isText.calls m p.f0 _ _ (Go.Proofs.YtkfbdopfeacnfaaDoor.TabsV.Tabs0.of_below TB.out HB.out) HTX.out).mono ?_; rintro e w4 ⟨rfl, hb⟩; have m0_ := Aside0.mk (below_step HB.out hb); have m1_ := Aside0.mk (Kd.N_below HN.out hb); have m2_ := Aside0.mk (Kd.C_below HP.out hb); clear hx0 hx1 hx2 hx3 hx4 hb; clear HB HN HP; (try clear hcl); have HB := m0_; have HN := m1_; have HP := m2_; clear m0_ m1_ m2_; have hx0 := (HB.out.cell (World.block_lt_of_cell? _ _ X0.out)).trans X0.out; have hx1 := (HB.out.cell (World.block_lt_of_cell? _ _ X1.out)).trans X1.out; have hx2 := (HB.out.cell (World.block_lt_of_cell? _ _ X2.out)).trans X2.out; have hx3 := (HB.out.cell (World.block_lt_of_cell? _ _ X3.out)).trans X3.out; have hx4 := (HB.out.cell (World.block_lt_of_cell? _ _ X4.out)).trans X4.out) | ((with_reducible refine gate_callee (f := 72) rfl ?_); refine goesL_ (some 65) rfl rfl Tryd.func72 (by kernel_rfl) rfl #[.slice (some ad4) q.length c3, .int .i64 (wrap64 (dp + 1))] rfl (by (try simp only [List.map_toArray, List.map_cons, List.map_nil]); first | done | rfl) ?_; (refine (HSELF.out _ HP.out (Go.Proofs.YtkfbdopfeacnfaaDoor.TabsV.Tabs0.of_below TB.out HB.out)).mono ?_); rintro e w6 ⟨rfl, hb⟩; refine ⟨_, rfl, ?_⟩; have m0_ := Aside0.mk (below_step HB.out hb); have m1_ := Aside0.mk (Kd.N_below HN.out hb); have m2_ := Aside0.mk (Kd.C_below HP.out hb); clear hx0 hx1 hx2 hx3 hx4 hb; clear HB HN HP; have HB := m0_; have HN := m1_; have HP := m2_; clear m0_ m1_ m2_; have hx0 := (HB.out.cell (World.block_lt_of_cell? _ _ X0.out)).trans X0.out; have hx1 := (HB.out.cell (World.block_lt_of_cell? _ _ X1.out)).trans X1.out; have hx2 := (HB.out.cell (World.block_lt_of_cell? _ _ X2.out)).trans X2.out; have hx3 := (HB.out.cell (World.block_lt_of_cell? _ _ X3.out)).trans X3.out; have hx4 := (HB.out.cell (World.block_lt_of_cell? _ _ X4.out)).trans X4.out))
              go_roundg m
              case measure => have := HL2.out.2.1; omega
              case rel => exact ⟨p.f0, i + 1, by first | rfl | (simp; done), by first | rfl | (rw [hi2]; done) | (rw [hi3]; done), HL2, HN, HB⟩
      · rw [if_neg c7] at hbad
        have c7b0 : (x.f1 == 7) = false := beq_eq_false_iff_ne.mpr c7
        clear c7
        by_cases c8 : x.f1 = 6
        · rw [if_pos c8] at hbad
          have c8b0 : (x.f1 == 6) = true := beq_iff_eq.mpr c8
          clear c8
          injection hbad with hbad
          cases c9 : p.f0.toList.isEmpty with
          | true =>
            have hb1 : bad = false := by rw [← hbad, c9]; rfl
            have c9b0 : (p.f0.toList == ([] : List UInt8)) = true := by rw [← c9]; cases p.f0.toList <;> rfl
            have c9b1 : (p.f0.toList != ([] : List UInt8)) = false := by simp only [bne, c9b0]; rfl
            clear hbad
            subst hb1
            rw [if_neg (by decide)] at h
            obtain ⟨b, hself, h⟩ := Option.bind_eq_some_iff.mp h
            have HSELF := Aside0.mk (fun w_ h_ t_ => HIH.out m (by have := HL.out.2.1; omega) (some ad4) c3 q (wrap64 (dp + 1)) b w_ t_ h_ HQC.out hself)
            clear hself
            cases b with
            | false =>
              rw [if_neg (by decide)] at h
              injection h with h
              subst h
              go_wp2_with (first | ((with_reducible refine gate_callee (f := 72) rfl ?_); refine goesL_ (some 65) rfl rfl Tryd.func72 (by kernel_rfl) rfl #[.slice (some ad4) q.length c3, .int .i64 (wrap64 (dp + 1))] rfl (by (try simp only [List.map_toArray, List.map_cons, List.map_nil]); first | done | rfl) ?_; (refine (HSELF.out _ HP.out (Go.Proofs.YtkfbdopfeacnfaaDoor.TabsV.Tabs0.of_below TB.out HB.out)).mono ?_); rintro e w6 ⟨rfl, hb⟩; refine ⟨_, rfl, ?_⟩; have m0_ := Aside0.mk (below_step HB.out hb); have m1_ := Aside0.mk (Kd.N_below HN.out hb); have m2_ := Aside0.mk (Kd.C_below HP.out hb); clear hx0 hx1 hx2 hx3 hx4 hb; clear HB HN HP; have HB := m0_; have HN := m1_; have HP := m2_; clear m0_ m1_ m2_; have hx0 := (HB.out.cell (World.block_lt_of_cell? _ _ X0.out)).trans X0.out; have hx1 := (HB.out.cell (World.block_lt_of_cell? _ _ X1.out)).trans X1.out; have hx2 := (HB.out.cell (World.block_lt_of_cell? _ _ X2.out)).trans X2.out; have hx3 := (HB.out.cell (World.block_lt_of_cell? _ _ X3.out)).trans X3.out; have hx4 := (HB.out.cell (World.block_lt_of_cell? _ _ X4.out)).trans X4.out))
              go_ret
              exact ⟨by first | rfl | (simp; done), HB.out⟩
            | true =>
              rw [if_pos rfl] at h
              have HL2 := Aside0.mk (show impl_isPart.l m l dp ps p.f0 (i + 1) = some r ∧ m ≤ K ∧ 0 ≤ i + 1 from ⟨h, by have := HL.out.2.1; omega, by have := HL.out.2.2; omega⟩)
              clear h
              go_wp2_with (first | ((with_reducible refine gate_callee (f := 72) rfl ?_); refine goesL_ (some 65) rfl rfl Tryd.func72 (by kernel_rfl) rfl #[.slice (some ad4) q.length c3, .int .i64 (wrap64 (dp + 1))] rfl (by (try simp only [List.map_toArray, List.map_cons, List.map_nil]); first | done | rfl) ?_; (refine (HSELF.out _ HP.out (Go.Proofs.YtkfbdopfeacnfaaDoor.TabsV.Tabs0.of_below TB.out HB.out)).mono ?_); rintro e w6 ⟨rfl, hb⟩; refine ⟨_, rfl, ?_⟩; have m0_ := Aside0.mk (below_step HB.out hb); have m1_ := Aside0.mk (Kd.N_below HN.out hb); have m2_ := Aside0.mk (Kd.C_below HP.out hb); clear hx0 hx1 hx2 hx3 hx4 hb; clear HB HN HP; have HB := m0_; have HN := m1_; have HP := m2_; clear m0_ m1_ m2_; have hx0 := (HB.out.cell (World.block_lt_of_cell? _ _ X0.out)).trans X0.out; have hx1 := (HB.out.cell (World.block_lt_of_cell? _ _ X1.out)).trans X1.out; have hx2 := (HB.out.cell (World.block_lt_of_cell? _ _ X2.out)).trans X2.out; have hx3 := (HB.out.cell (World.block_lt_of_cell? _ _ X3.out)).trans X3.out; have hx4 := (HB.out.cell (World.block_lt_of_cell? _ _ X4.out)).trans X4.out))
              go_roundg m
              case measure => have := HL2.out.2.1; omega
              case rel => exact ⟨p.f0, i + 1, by first | rfl | (simp; done), by first | rfl | (rw [hi2]; done) | (rw [hi3]; done), HL2, HN, HB⟩
          | false =>
            have hb1 : bad = true := by rw [← hbad, c9]; rfl
            have c9b0 : (p.f0.toList == ([] : List UInt8)) = false := by rw [← c9]; cases p.f0.toList <;> rfl
            have c9b1 : (p.f0.toList != ([] : List UInt8)) = true := by simp only [bne, c9b0]; rfl
            clear hbad
            subst hb1
            rw [if_pos rfl] at h
            injection h with h
            subst h
            go_wp2
            go_ret
            exact ⟨by first | rfl | (simp; done), HB.out⟩
        · rw [if_neg c8] at hbad
          have c8b0 : (x.f1 == 6) = false := beq_eq_false_iff_ne.mpr c8
          clear c8
          injection hbad with hbad
          subst hbad
          rw [if_neg (by decide)] at h
          obtain ⟨b, hself, h⟩ := Option.bind_eq_some_iff.mp h
          have HSELF := Aside0.mk (fun w_ h_ t_ => HIH.out m (by have := HL.out.2.1; omega) (some ad4) c3 q (wrap64 (dp + 1)) b w_ t_ h_ HQC.out hself)
          clear hself
          cases b with
          | false =>
            rw [if_neg (by decide)] at h
            injection h with h
            subst h
            go_wp2_with (first | ((with_reducible refine gate_callee (f := 72) rfl ?_); refine goesL_ (some 65) rfl rfl Tryd.func72 (by kernel_rfl) rfl #[.slice (some ad4) q.length c3, .int .i64 (wrap64 (dp + 1))] rfl (by (try simp only [List.map_toArray, List.map_cons, List.map_nil]); first | done | rfl) ?_; (refine (HSELF.out _ HP.out (Go.Proofs.YtkfbdopfeacnfaaDoor.TabsV.Tabs0.of_below TB.out HB.out)).mono ?_); rintro e w6 ⟨rfl, hb⟩; refine ⟨_, rfl, ?_⟩; have m0_ := Aside0.mk (below_step HB.out hb); have m1_ := Aside0.mk (Kd.N_below HN.out hb); have m2_ := Aside0.mk (Kd.C_below HP.out hb); clear hx0 hx1 hx2 hx3 hx4 hb; clear HB HN HP; have HB := m0_; have HN := m1_; have HP := m2_; clear m0_ m1_ m2_; have hx0 := (HB.out.cell (World.block_lt_of_cell? _ _ X0.out)).trans X0.out; have hx1 := (HB.out.cell (World.block_lt_of_cell? _ _ X1.out)).trans X1.out; have hx2 := (HB.out.cell (World.block_lt_of_cell? _ _ X2.out)).trans X2.out; have hx3 := (HB.out.cell (World.block_lt_of_cell? _ _ X3.out)).trans X3.out; have hx4 := (HB.out.cell (World.block_lt_of_cell? _ _ X4.out)).trans X4.out))
            go_ret
            exact ⟨by first | rfl | (simp; done), HB.out⟩
          | true =>
            rw [if_pos rfl] at h
            have HL2 := Aside0.mk (show impl_isPart.l m l dp ps p.f0 (i + 1) = some r ∧ m ≤ K ∧ 0 ≤ i + 1 from ⟨h, by have := HL.out.2.1; omega, by have := HL.out.2.2; omega⟩)
            clear h
            go_wp2_with (first | ((with_reducible refine gate_callee (f := 72) rfl ?_); refine goesL_ (some 65) rfl rfl Tryd.func72 (by kernel_rfl) rfl #[.slice (some ad4) q.length c3, .int .i64 (wrap64 (dp + 1))] rfl (by (try simp only [List.map_toArray, List.map_cons, List.map_nil]); first | done | rfl) ?_; (refine (HSELF.out _ HP.out (Go.Proofs.YtkfbdopfeacnfaaDoor.TabsV.Tabs0.of_below TB.out HB.out)).mono ?_); rintro e w6 ⟨rfl, hb⟩; refine ⟨_, rfl, ?_⟩; have m0_ := Aside0.mk (below_step HB.out hb); have m1_ := Aside0.mk (Kd.N_below HN.out hb); have m2_ := Aside0.mk (Kd.C_below HP.out hb); clear hx0 hx1 hx2 hx3 hx4 hb; clear HB HN HP; have HB := m0_; have HN := m1_; have HP := m2_; clear m0_ m1_ m2_; have hx0 := (HB.out.cell (World.block_lt_of_cell? _ _ X0.out)).trans X0.out; have hx1 := (HB.out.cell (World.block_lt_of_cell? _ _ X1.out)).trans X1.out; have hx2 := (HB.out.cell (World.block_lt_of_cell? _ _ X2.out)).trans X2.out; have hx3 := (HB.out.cell (World.block_lt_of_cell? _ _ X3.out)).trans X3.out; have hx4 := (HB.out.cell (World.block_lt_of_cell? _ _ X4.out)).trans X4.out))
            go_roundg m
            case measure => have := HL2.out.2.1; omega
            case rel => exact ⟨p.f0, i + 1, by first | rfl | (simp; done), by first | rfl | (rw [hi2]; done) | (rw [hi3]; done), HL2, HN, HB⟩

/-! ### impl_isValue: function 41 -/
def impl_isValue.f (k : Nat) (l0 : List (S61)) : Option (Bool) := (impl_within.f (l0.length : Int) 1 40).bind fun t284 => (if t284 = true then ((impl_sizeOf.f k l0).bind fun t285 => (if t285 = (l0.length : Int) then (if 0 < (l0.length : Int) then (if ((rd_T61 l0 0).f0).toList = ([] : List UInt8) then ((impl_isPart.f k l0 1).bind fun t287 => (some t287)) else (some false)) else (none)) else (some false))) else (some false))
theorem impl_isValue.mono : ∀ a0 k, LeO (impl_isValue.f k a0) (impl_isValue.f (k + 1) a0) := by
  intro a0 k
  unfold impl_isValue.f
  repeat' first
      | (with_reducible exact impl_isPart.mono _ _ _)
      | (with_reducible exact impl_sizeOf.mono _ _)
      | (with_reducible exact LeO.refl _)
      | (with_reducible exact LeO.none _)
      | (with_reducible refine LeO.ite ?_ ?_)
      | (with_reducible refine LeO.bind ?_ (fun _ => ?_))
      | exact impl_isPart.mono _ _ _
      | exact impl_sizeOf.mono _ _
      | exact LeO.none _
      | refine LeO.ite ?_ ?_
      | refine LeO.bind ?_ (fun _ => ?_)
set_option maxHeartbeats 8000000 in
set_option maxRecDepth 100000 in
theorem impl_isValue.calls (k : Nat) (A0 : Option Addr) (c0 : Nat) (l0 : List (S61)) (r : Bool) (w : World) (tb : Go.Proofs.YtkfbdopfeacnfaaDoor.TabsV.Tabs0 w) (hr0 : Kd.C k61 w A0 l0.length l0) (hc0 : l0.length ≤ c0) (h : impl_isValue.f k l0 = some r) :
    Calls Tryd.prog 41 #[.slice A0 l0.length c0] w fun e w' => e = .returned (.bool r) ∧ Below w.heap.size w w' := by
  have TB := Aside0.mk tb
  clear tb
  have HR0 := Aside0.mk hr0
  have HC0 := Aside0.mk hc0
  clear hr0 hc0
  have HB := Aside0.mk (Below.refl w.heap.size w)
  have H : ((impl_within.f (l0.length : Int) 1 40).bind fun t284 => (if t284 = true then ((impl_sizeOf.f k l0).bind fun t285 => (if t285 = (l0.length : Int) then (if 0 < (l0.length : Int) then (if ((rd_T61 l0 0).f0).toList = ([] : List UInt8) then ((impl_isPart.f k l0 1).bind fun t287 => (some t287)) else (some false)) else (none)) else (some false))) else (some false))) = some r := h
  clear h
  replace H := Option.bind_eq_some_iff.mp H
  obtain ⟨t284, A20, H⟩ := H
  replace H : (if t284 = true then ((impl_sizeOf.f k l0).bind fun t285 => (if t285 = (l0.length : Int) then (if 0 < (l0.length : Int) then (if ((rd_T61 l0 0).f0).toList = ([] : List UInt8) then ((impl_isPart.f k l0 1).bind fun t287 => (some t287)) else (some false)) else (none)) else (some false))) else (some false)) = some r := H
  have A2 := Aside0.mk A20
  clear A20
  by_cases c3 : t284 = true
  · subst c3
    have H1 : ((impl_sizeOf.f k l0).bind fun t285 => (if t285 = (l0.length : Int) then (if 0 < (l0.length : Int) then (if ((rd_T61 l0 0).f0).toList = ([] : List UInt8) then ((impl_isPart.f k l0 1).bind fun t287 => (some t287)) else (some false)) else (none)) else (some false))) = some r := by rw [if_pos rfl] at H; exact H
    clear H
    have H := H1
    clear H1
    replace H := Option.bind_eq_some_iff.mp H
    obtain ⟨t285, A40, H⟩ := H
    replace H : (if t285 = (l0.length : Int) then (if 0 < (l0.length : Int) then (if ((rd_T61 l0 0).f0).toList = ([] : List UInt8) then ((impl_isPart.f k l0 1).bind fun t287 => (some t287)) else (some false)) else (none)) else (some false)) = some r := H
    have A4 := Aside0.mk A40
    clear A40
    by_cases c5 : t285 = (l0.length : Int)
    · rw [if_pos c5] at H
      have c5b0 : (t285 == (l0.length : Int)) = true := beq_iff_eq.mpr c5
      have c5b1 : (t285 != (l0.length : Int)) = false := bne_eq_false_iff_eq.mpr c5
      clear c5
      by_cases c6 : 0 < (l0.length : Int)
      · rw [if_pos c6] at H
        have c6b0 : decide (0 < (l0.length : Int)) = true := decide_eq_true c6
        have c6b1 : decide (0 < l0.length) = true := decide_eq_true (by omega)
        clear c6
        by_cases c7 : ((rd_T61 l0 0).f0).toList = ([] : List UInt8)
        · rw [if_pos c7] at H
          have c7b0 : (((rd_T61 l0 0).f0).toList == ([] : List UInt8)) = true := beq_iff_eq.mpr c7
          have c7b1 : (((rd_T61 l0 0).f0).toList != ([] : List UInt8)) = false := bne_eq_false_iff_eq.mpr c7
          clear c7
          replace H := Option.bind_eq_some_iff.mp H
          obtain ⟨t287, A80, H⟩ := H
          replace H : (some t287) = some r := H
          have A8 := Aside0.mk A80
          clear A80
          obtain rfl := Option.some.inj H
          go_enter Tryd.func41, Tryd.ntmps41
          go_wp2_with (first | ((with_reducible refine gate_callee (f := 70) rfl ?_); refine goesL_ (some 5) rfl rfl Tryd.func70 (by kernel_rfl) rfl #[.int .i64 (l0.length : Int), .int .i64 1, .int .i64 40] rfl (by (try simp only [List.map_toArray, List.map_cons, List.map_nil]); first | done | rfl | (simp only [List.length_drop, List.length_take]; rfl)) ?_; (with_reducible refine (impl_within.calls (l0.length : Int) 1 40 true _ A2.out).mono ?_); rintro e w' ⟨rfl, ⟨nd, rfl⟩⟩; refine ⟨_, rfl, ?_⟩) | (go_at_call 71; (with_reducible refine (impl_sizeOf.calls k _ _ l0 t285 _ ?side1 ?side2 A4.out).mono ?_); (case side1 => repeat (first | exact HR0.out | (with_reducible refine Kd.C_alloc ?_ _) | (with_reducible refine Kd.C_drewN ?_ _) | (with_reducible refine Kd.C_drew ?_))); (case side2 => exact HC0.out); rintro e w9 ⟨rfl, hb⟩; have n0_ := Aside0.mk (below_step (by repeat (first | (with_reducible first | exact HB.out | apply below_alloc | apply pw_below_drewN | apply below_drew1) | exact HB.out)) hb); clear HB; have HB := n0_; clear n0_; (try clear hb); (try clear hb2); (try clear hk); (try clear hi); have p286 : 0 ≤ (0 : Int) := (by omega); have q286 : 0 < (l0.length : Int) := of_decide_eq_true (by first | (with_reducible assumption) | assumption); obtain ⟨ad286, e286, hx286_0, hx286_1, hx286_2, hx286_3, hx286_4⟩ := at_T61 HR0.out 0 p286 q286; cases e286; have qi286 : (0 < l0.length) = True := eq_true (by omega); (try rw [show ((0 : Int)).toNat = 0 from rfl] at hx286_0); (try rw [show 0 * 5 = 0 from rfl] at hx286_0); (try rw [Addr.add_zero'] at hx286_0); (try rw [show ((0 : Int)).toNat = 0 from rfl] at hx286_1); (try rw [show 0 * 5 = 0 from rfl] at hx286_1); (try rw [Addr.add_zero'] at hx286_1); (try rw [show ((0 : Int)).toNat = 0 from rfl] at hx286_2); (try rw [show 0 * 5 = 0 from rfl] at hx286_2); (try rw [Addr.add_zero'] at hx286_2); (try rw [show ((0 : Int)).toNat = 0 from rfl] at hx286_3); (try rw [show 0 * 5 = 0 from rfl] at hx286_3); (try rw [Addr.add_zero'] at hx286_3); (try rw [show ((0 : Int)).toNat = 0 from rfl] at hx286_4); (try rw [show 0 * 5 = 0 from rfl] at hx286_4); (try rw [Addr.add_zero'] at hx286_4); replace hx286_0 := (HB.out.cell (World.block_lt_of_cell? w _ hx286_0)).trans hx286_0; replace hx286_1 := (HB.out.cell (World.block_lt_of_cell? w _ hx286_1)).trans hx286_1; replace hx286_2 := (HB.out.cell (World.block_lt_of_cell? w _ hx286_2)).trans hx286_2; replace hx286_3 := (HB.out.cell (World.block_lt_of_cell? w _ hx286_3)).trans hx286_3; replace hx286_4 := (HB.out.cell (World.block_lt_of_cell? w _ hx286_4)).trans hx286_4; replace p286 := eq_true p286; replace q286 := eq_true q286) | (go_at_call 72; (with_reducible refine (impl_isPart.calls k _ _ l0 1 t287 _ ?side1 ?side2 ?side3 A8.out).mono ?_); (case side1 => exact Go.Proofs.YtkfbdopfeacnfaaDoor.TabsV.Tabs0.of_below TB.out (by repeat (first | (with_reducible first | exact HB.out | apply below_alloc | apply pw_below_drewN | apply below_drew1) | exact HB.out))); (case side2 => repeat (first | exact (Kd.C_below HR0.out HB.out) | (with_reducible refine Kd.C_alloc ?_ _) | (with_reducible refine Kd.C_drewN ?_ _) | (with_reducible refine Kd.C_drew ?_))); (case side3 => exact HC0.out); rintro e w10 ⟨rfl, hb⟩; have n0_ := Aside0.mk (below_step (by repeat (first | (with_reducible first | exact HB.out | apply below_alloc | apply pw_below_drewN | apply below_drew1) | exact HB.out)) hb); clear HB; have HB := n0_; clear n0_; (try clear hb); (try clear hb2); (try clear hk); (try clear hi)))
          go_ret
          exact ⟨by first | rfl | (simp [errW_none, errW_some] <;> rfl) | (simp [*, errW_none, errW_some] <;> rfl), by repeat (first | (with_reducible first | exact HB.out | apply below_alloc | apply pw_below_drewN | apply below_drew1) | exact HB.out)⟩
        · rw [if_neg c7] at H
          have c7b0 : (((rd_T61 l0 0).f0).toList == ([] : List UInt8)) = false := beq_eq_false_iff_ne.mpr c7
          have c7b1 : (((rd_T61 l0 0).f0).toList != ([] : List UInt8)) = true := bne_iff_ne.mpr c7
          obtain rfl := Option.some.inj H
          go_enter Tryd.func41, Tryd.ntmps41
          go_wp2_with (first | ((with_reducible refine gate_callee (f := 70) rfl ?_); refine goesL_ (some 5) rfl rfl Tryd.func70 (by kernel_rfl) rfl #[.int .i64 (l0.length : Int), .int .i64 1, .int .i64 40] rfl (by (try simp only [List.map_toArray, List.map_cons, List.map_nil]); first | done | rfl | (simp only [List.length_drop, List.length_take]; rfl)) ?_; (with_reducible refine (impl_within.calls (l0.length : Int) 1 40 true _ A2.out).mono ?_); rintro e w' ⟨rfl, ⟨nd, rfl⟩⟩; refine ⟨_, rfl, ?_⟩) | (go_at_call 71; (with_reducible refine (impl_sizeOf.calls k _ _ l0 t285 _ ?side1 ?side2 A4.out).mono ?_); (case side1 => repeat (first | exact HR0.out | (with_reducible refine Kd.C_alloc ?_ _) | (with_reducible refine Kd.C_drewN ?_ _) | (with_reducible refine Kd.C_drew ?_))); (case side2 => exact HC0.out); rintro e w11 ⟨rfl, hb⟩; have n0_ := Aside0.mk (below_step (by repeat (first | (with_reducible first | exact HB.out | apply below_alloc | apply pw_below_drewN | apply below_drew1) | exact HB.out)) hb); clear HB; have HB := n0_; clear n0_; (try clear hb); (try clear hb2); (try clear hk); (try clear hi); have p286 : 0 ≤ (0 : Int) := (by omega); have q286 : 0 < (l0.length : Int) := of_decide_eq_true (by first | (with_reducible assumption) | assumption); obtain ⟨ad286, e286, hx286_0, hx286_1, hx286_2, hx286_3, hx286_4⟩ := at_T61 HR0.out 0 p286 q286; cases e286; have qi286 : (0 < l0.length) = True := eq_true (by omega); (try rw [show ((0 : Int)).toNat = 0 from rfl] at hx286_0); (try rw [show 0 * 5 = 0 from rfl] at hx286_0); (try rw [Addr.add_zero'] at hx286_0); (try rw [show ((0 : Int)).toNat = 0 from rfl] at hx286_1); (try rw [show 0 * 5 = 0 from rfl] at hx286_1); (try rw [Addr.add_zero'] at hx286_1); (try rw [show ((0 : Int)).toNat = 0 from rfl] at hx286_2); (try rw [show 0 * 5 = 0 from rfl] at hx286_2); (try rw [Addr.add_zero'] at hx286_2); (try rw [show ((0 : Int)).toNat = 0 from rfl] at hx286_3); (try rw [show 0 * 5 = 0 from rfl] at hx286_3); (try rw [Addr.add_zero'] at hx286_3); (try rw [show ((0 : Int)).toNat = 0 from rfl] at hx286_4); (try rw [show 0 * 5 = 0 from rfl] at hx286_4); (try rw [Addr.add_zero'] at hx286_4); replace hx286_0 := (HB.out.cell (World.block_lt_of_cell? w _ hx286_0)).trans hx286_0; replace hx286_1 := (HB.out.cell (World.block_lt_of_cell? w _ hx286_1)).trans hx286_1; replace hx286_2 := (HB.out.cell (World.block_lt_of_cell? w _ hx286_2)).trans hx286_2; replace hx286_3 := (HB.out.cell (World.block_lt_of_cell? w _ hx286_3)).trans hx286_3; replace hx286_4 := (HB.out.cell (World.block_lt_of_cell? w _ hx286_4)).trans hx286_4; replace p286 := eq_true p286; replace q286 := eq_true q286))
          go_ret
          exact ⟨by first | rfl | (simp [errW_none, errW_some] <;> rfl) | (simp [*, errW_none, errW_some] <;> rfl), by repeat (first | (with_reducible first | exact HB.out | apply below_alloc | apply pw_below_drewN | apply below_drew1) | exact HB.out)⟩
      · rw [if_neg c6] at H
        exact absurd H (by simp)
    · rw [if_neg c5] at H
      have c5b0 : (t285 == (l0.length : Int)) = false := beq_eq_false_iff_ne.mpr c5
      have c5b1 : (t285 != (l0.length : Int)) = true := bne_iff_ne.mpr c5
      obtain rfl := Option.some.inj H
      go_enter Tryd.func41, Tryd.ntmps41
      go_wp2_with (first | ((with_reducible refine gate_callee (f := 70) rfl ?_); refine goesL_ (some 5) rfl rfl Tryd.func70 (by kernel_rfl) rfl #[.int .i64 (l0.length : Int), .int .i64 1, .int .i64 40] rfl (by (try simp only [List.map_toArray, List.map_cons, List.map_nil]); first | done | rfl | (simp only [List.length_drop, List.length_take]; rfl)) ?_; (with_reducible refine (impl_within.calls (l0.length : Int) 1 40 true _ A2.out).mono ?_); rintro e w' ⟨rfl, ⟨nd, rfl⟩⟩; refine ⟨_, rfl, ?_⟩) | (go_at_call 71; (with_reducible refine (impl_sizeOf.calls k _ _ l0 t285 _ ?side1 ?side2 A4.out).mono ?_); (case side1 => repeat (first | exact HR0.out | (with_reducible refine Kd.C_alloc ?_ _) | (with_reducible refine Kd.C_drewN ?_ _) | (with_reducible refine Kd.C_drew ?_))); (case side2 => exact HC0.out); rintro e w12 ⟨rfl, hb⟩; have n0_ := Aside0.mk (below_step (by repeat (first | (with_reducible first | exact HB.out | apply below_alloc | apply pw_below_drewN | apply below_drew1) | exact HB.out)) hb); clear HB; have HB := n0_; clear n0_; (try clear hb); (try clear hb2); (try clear hk); (try clear hi)))
      go_ret
      exact ⟨by first | rfl | (simp [errW_none, errW_some] <;> rfl) | (simp [*, errW_none, errW_some] <;> rfl), by repeat (first | (with_reducible first | exact HB.out | apply below_alloc | apply pw_below_drewN | apply below_drew1) | exact HB.out)⟩
  · replace c3 := Bool.eq_false_iff.mpr c3
    subst c3
    have H1 : (some false) = some r := by rw [if_neg (show ¬ (false = true) by decide)] at H; exact H
    clear H
    have H := H1
    clear H1
    obtain rfl := Option.some.inj H
    go_enter Tryd.func41, Tryd.ntmps41
    go_wp2_with (first | ((with_reducible refine gate_callee (f := 70) rfl ?_); refine goesL_ (some 5) rfl rfl Tryd.func70 (by kernel_rfl) rfl #[.int .i64 (l0.length : Int), .int .i64 1, .int .i64 40] rfl (by (try simp only [List.map_toArray, List.map_cons, List.map_nil]); first | done | rfl | (simp only [List.length_drop, List.length_take]; rfl)) ?_; (with_reducible refine (impl_within.calls (l0.length : Int) 1 40 false _ A2.out).mono ?_); rintro e w' ⟨rfl, ⟨nd, rfl⟩⟩; refine ⟨_, rfl, ?_⟩))
    go_ret
    exact ⟨by first | rfl | (simp [errW_none, errW_some] <;> rfl) | (simp [*, errW_none, errW_some] <;> rfl), by repeat (first | (with_reducible first | exact HB.out | apply below_alloc | apply pw_below_drewN | apply below_drew1) | exact HB.out)⟩

/-! ### impl_hexOf: function 111 -/
def hx_d : List UInt8 := [48, 49, 50, 51, 52, 53, 54, 55, 56, 57, 97, 98, 99, 100, 101, 102]
def hx_two (b : UInt8) : List UInt8 := [hx_d.getD (b.toNat / 16) 0, hx_d.getD (b.toNat % 16) 0]
def hx_of (l : List UInt8) : List UInt8 := l.flatMap hx_two
theorem hx_len : ∀ l : List UInt8, (hx_of l).length = 2 * l.length
  | [] => rfl
  | b :: l => by
    have := hx_len l
    simp only [hx_of, List.flatMap_cons, List.length_append, List.length_cons, hx_two, List.length_nil] at this ⊢
    omega
theorem hx_take (l : List UInt8) (k : Nat) (h : k < l.length) : hx_of (l.take (k + 1)) = hx_of (l.take k) ++ hx_two (l.getD k 0) := by
  have e : l.take (k + 1) = l.take k ++ [l.getD k 0] := by rw [List.take_add_one, List.getD_eq_getElem?_getD, List.getElem?_eq_getElem h]; rfl
  rw [e]
  simp only [hx_of, List.flatMap_append, List.flatMap_cons, List.flatMap_nil, List.append_nil]
theorem hx_and15 (x : Int) (h0 : 0 ≤ x) (h1 : x < 256) : Go.bits .and .u8 x 15 = x % 16 := by
  have h := bits_mask .u8 8 (by decide) (fun n h₀ h₁ => by rw [show IntKind.u8.wrap n = n % 256 from rfl]; omega) 4 (by decide) x h0 (by omega)
  simpa using h
theorem hx_at (X : Nat) (xl : X < 16) (h : X < (⟨#[48, 49, 50, 51, 52, 53, 54, 55, 56, 57, 97, 98, 99, 100, 101, 102]⟩ : ByteArray).size) : (((⟨#[48, 49, 50, 51, 52, 53, 54, 55, 56, 57, 97, 98, 99, 100, 101, 102]⟩ : ByteArray)[X]'h).toNat : Int) = ((hx_d.getD X 0).toNat : Int) := by
  rw [List.getD_eq_getElem?_getD, List.getElem?_eq_getElem (show X < hx_d.length from xl)]
  rfl
def impl_hexOf.f (a0 : ByteArray) : Option ByteArray := if a0.size ≤ 1000000000000 then some ⟨(hx_of a0.data.toList).toArray⟩ else none
set_option maxHeartbeats 8000000 in
set_option maxRecDepth 100000 in
theorem impl_hexOf.calls (a0 : ByteArray) (r : ByteArray) (w : World) (h : impl_hexOf.f a0 = some r) :
    Calls Tryd.prog 111 #[.string a0] w fun e w' => e = .returned (.string r) ∧ Below w.heap.size w w' := by
  unfold impl_hexOf.f at h
  by_cases hl : a0.size ≤ 1000000000000
  rotate_left
  · rw [if_neg hl] at h; cases h
  rw [if_pos hl] at h
  obtain rfl := Option.some.inj h
  have HS := Aside0.mk hl
  have HF := Aside0.mk (Go.Proofs.YtkfbdopfeacnfaaDoor.Bld.fresh w)
  have HB := Aside0.mk (Below.refl w.heap.size w)
  clear hl h
  go_enter Tryd.func111, Tryd.ntmps111
  go_wp2
  go_loopw [7] (fun i wr => ∃ k : Nat, k ≤ a0.size ∧ i = .int .i64 k ∧ Aside0 (Lib.IsBuilder 127 5 w.heap.size w.heap.size (Lib.byteCells (hx_of (a0.data.toList.take k))) wr) ∧ Aside0 (Below w.heap.size w wr)) (fun i _ => a0.size - (intOf i).toNat)
  case atStart => exact ⟨0, by omega, rfl, by simpa [hx_of] using HF, ⟨below_alloc HB.out _⟩⟩
  case round =>
    clear HF HB
    obtain ⟨k, hk, rfl, HI, HB⟩ := hrel
    by_cases q : k < a0.size
    · have hS := HS.out
      have dl : a0.data.toList.length = a0.size := data_length a0
      have q0 : decide (k < a0.size) = true := decide_eq_true q
      obtain ⟨U, hU⟩ : ∃ U : UInt8, U = a0.data.toList.getD k 0 := ⟨_, rfl⟩
      have TK := hx_take a0.data.toList k (by omega)
      rw [← hU] at TK
      have hlen := hx_len (a0.data.toList.take k)
      rw [List.length_take, dl] at hlen
      obtain ⟨acc, hacc⟩ : ∃ acc, hx_of (a0.data.toList.take k) = acc := ⟨_, rfl⟩
      rw [hacc] at HI TK hlen
      clear hacc
      have HL := Aside0.mk (show acc.length + 2 ≤ 2000000000010 by omega)
      have HT := Aside0.mk TK
      clear TK hlen
      obtain ⟨V, hV⟩ : ∃ V : Nat, V = U.toNat := ⟨_, rfl⟩
      have vl : V < 256 := by rw [hV]; exact UInt8.toNat_lt U
      have hx : ∀ h : k < a0.size, ((a0[k]'h).toNat : Int) = (V : Int) := fun h => by
        rw [hV, hU, List.getD_eq_getElem?_getD, List.getElem?_eq_getElem (by omega)]
        rfl
      obtain ⟨X, hX⟩ : ∃ X : Nat, X = V / 16 := ⟨_, rfl⟩
      obtain ⟨Y, hY⟩ : ∃ Y : Nat, Y = V % 16 := ⟨_, rfl⟩
      have xl : X < 16 := by omega
      have yl : Y < 16 := by omega
      have e1 : (V : Int) / 16 = (X : Int) := by omega
      have e2 : Go.bits .and .u8 (V : Int) 15 = (Y : Int) := by rw [hx_and15 _ (by omega) (by omega)]; omega
      obtain ⟨C, hC⟩ : ∃ C : Nat, C = (hx_d.getD X 0).toNat := ⟨_, rfl⟩
      obtain ⟨D, hD⟩ : ∃ D : Nat, D = (hx_d.getD Y 0).toNat := ⟨_, rfl⟩
      have hc : ∀ h : X < (⟨#[48, 49, 50, 51, 52, 53, 54, 55, 56, 57, 97, 98, 99, 100, 101, 102]⟩ : ByteArray).size, (((⟨#[48, 49, 50, 51, 52, 53, 54, 55, 56, 57, 97, 98, 99, 100, 101, 102]⟩ : ByteArray)[X]'h).toNat : Int) = (C : Int) := fun h => by rw [hC]; exact hx_at X xl h
      have hd : ∀ h : Y < (⟨#[48, 49, 50, 51, 52, 53, 54, 55, 56, 57, 97, 98, 99, 100, 101, 102]⟩ : ByteArray).size, (((⟨#[48, 49, 50, 51, 52, 53, 54, 55, 56, 57, 97, 98, 99, 100, 101, 102]⟩ : ByteArray)[Y]'h).toNat : Int) = (D : Int) := fun h => by rw [hD]; exact hx_at Y yl h
      have two : Lib.byteCells (acc ++ hx_two U) = (Lib.byteCells acc ++ [.int .u8 (C : Int)]) ++ [.int .u8 (D : Int)] := by
        rw [Lib.byteCells_append, hC, hD, hX, hY, hV, List.append_assoc]
        rfl
      have TW := Aside0.mk two
      clear two hC hD hX hY hV hU
      have x0 := eq_true (show (0 : Int) ≤ (X : Int) by omega)
      have x1 := eq_true (show (X : Int) < 16 by omega)
      have x2 := eq_true xl
      have y0 := eq_true (show (0 : Int) ≤ (Y : Int) by omega)
      have y1 := eq_true (show (Y : Int) < 16 by omega)
      have y2 := eq_true yl
      go_wp2_with (go_at_call 108; (with_reducible refine (Go.Proofs.YtkfbdopfeacnfaaDoor.Bld.writeByte w.heap.size w.heap.size _ _ _ HI.out (by have := HL.out; simp only [Lib.byteCells_length, List.length_append, List.length_cons, List.length_nil]; omega) (below_size HB.out)).mono ?_); rintro e w2 ⟨rfl, hI, hb⟩; have n0_ := Aside0.mk (HB.out.trans hb); have n1_ := Aside0.mk hI; clear HB HI hI hb; have HB := n0_; have HI := n1_; clear n0_ n1_)
      go_roundw
      case rel => exact ⟨k + 1, by omega, by go_num, ⟨by rw [HT.out, TW.out]; exact HI.out⟩, HB⟩
      case measure => simp [intOf]; omega
    · have q0 : decide (k < a0.size) = false := decide_eq_false q
      have hk' : k = a0.size := by omega
      go_wp2_with (go_at_call 112; (with_reducible refine (Go.Proofs.YtkfbdopfeacnfaaDoor.Bld.string w.heap.size w.heap.size _ _ HI.out (below_size HB.out)).mono ?_); rintro e w2 ⟨rfl, hb⟩; have n0_ := Aside0.mk (HB.out.trans hb); clear HB hb; have HB := n0_; clear n0_)
      go_ret
      exact ⟨by rw [List.take_of_length_le (by rw [data_length]; omega)]; rfl, HB.out⟩

/-! ### strings_IndexByte: function 109 -/
def strings_IndexByte.f (a0 : ByteArray) (a1 : Int) : Option (Int) := some (Lib.indexByte a0.data.toList a1.toNat.toUInt8)
theorem strings_IndexByte.calls (a0 : ByteArray) (a1 : Int) (r : Int) (w : World) (h : strings_IndexByte.f a0 a1 = some r) :
    Calls Tryd.prog 109 #[.string a0, .int .u8 a1] w fun e w' => e = .returned (.int .i64 r) ∧ Drawn0 w w' := by
  obtain rfl := Option.some.inj h
  exact (Tryd.strings_IndexByte a0 a1 w).mono fun e w' ⟨he, hw⟩ => ⟨he, hw ▸ Drawn0.refl _⟩

end
end Go.Proofs.YtkfbdopfeacnfaaDoor.PFnExactValueText
