-- Printed for this claim by a changed copy of the kit's printing program (wip/tools/patch_print.py); Lean checks it.
import Derived.Test.YtkfbdopfeacnfaaDoorPFnExactWithFieldx0
import Derived.Test.YtkfbdopfeacnfaaDoorPFnExactWithFieldx9
import Derived.Test.YtkfbdopfeacnfaaDoorPFnExactWithFieldx10
namespace Go.Proofs.YtkfbdopfeacnfaaDoor.PFnExactWithField
open Go.RowKit Go.Proofs.YtkfbdopfeacnfaaDoorW.PrintWords Go.Proofs.YtkfbdopfeacnfaaDoorW.PrintLast Go.Proofs.YtkfbdopfeacnfaaDoorW.PrintMore
attribute [local go_sem] max2_int min2_int max_two min_two max_three min_three max_four min_four   -- for this text's walks alone
set_option linter.unusedVariables false
set_option linter.unusedSimpArgs false

noncomputable section
/-! ### impl_pairsOf: function 101 -/
def impl_pairsOf.l0 : Nat → List Int → List Int → Int → Int → Option (List Int)
 | 0, _, _, _, _ => none
 | k + 1, x3, x7, x8, x9 => if x9 < x8 then (if 0 ≤ x9 then (if x9 < (x7.length : Int) then (if (rd x7 x9) < 65536 then (if x3.length < 17592186044416 then (impl_pairsOf.l0 k (x3 ++ [rd x7 x9]) x7 x8 (wrap64 (x9 + 1))) else (none)) else ((some (([wrap64 (55296 + ((wrap64 ((rd x7 x9) - 65536)) / 1024)), wrap64 (56320 + (Go.bits .and .i64 (wrap64 ((rd x7 x9) - 65536)) 1023))] : List Int) : List Int)).bind fun y255 => (if x3.length + y255.length < 17592186044416 then (impl_pairsOf.l0 k (x3 ++ y255) x7 x8 (wrap64 (x9 + 1))) else (none)))) else (none)) else (none)) else (some x3)
def impl_pairsOf.f (k : Nat) (l0 : List Int) : Option (List Int) := impl_pairsOf.l0 k ([] : List Int) l0 (l0.length : Int) 0
theorem impl_pairsOf.mono_l : ∀ k, (∀ y0 y1 y2 y3, LeO (impl_pairsOf.l0 k y0 y1 y2 y3) (impl_pairsOf.l0 (k + 1) y0 y1 y2 y3))
 | 0 => fun _ _ _ _ r h => by simp [impl_pairsOf.l0] at h
 | k + 1 => by
  have ih0 := impl_pairsOf.mono_l k
  ·intro y0 y1 y2 y3
   unfold impl_pairsOf.l0
   repeat' first
   | (with_reducible exact ih0 _ _ _ _)
   | (with_reducible exact LeO.refl _)
   | (with_reducible exact LeO.none _)
   | (with_reducible refine LeO.ite ?_ ?_)
   | (with_reducible refine LeO.bind ?_ (fun _ => ?_))
   | exact ih0 _ _ _ _
   | exact LeO.none _
   | refine LeO.ite ?_ ?_
   | refine LeO.bind ?_ (fun _ => ?_)
theorem impl_pairsOf.mono : ∀ a0 k, LeO (impl_pairsOf.f k a0) (impl_pairsOf.f (k + 1) a0) := by
 intro a0 k
 have ih0 := impl_pairsOf.mono_l k
 unfold impl_pairsOf.f
 repeat' first
   | (with_reducible exact ih0 _ _ _ _)
   | (with_reducible exact LeO.refl _)
   | (with_reducible exact LeO.none _)
   | (with_reducible refine LeO.ite ?_ ?_)
   | (with_reducible refine LeO.bind ?_ (fun _ => ?_))
   | exact ih0 _ _ _ _
   | exact LeO.none _
   | refine LeO.ite ?_ ?_
   | refine LeO.bind ?_ (fun _ => ?_)
set_option maxHeartbeats 8000000 in
set_option maxRecDepth 100000 in
theorem impl_pairsOf.calls (k : Nat) (A0 : Option Addr) (c0 : Nat) (l0 : List Int) (r : List Int) (w : World) (hr0 : Kd.C (Kd.int .i64) w A0 l0.length l0) (hc0 : l0.length ≤ c0) (h : impl_pairsOf.f k l0 = some r) :
  Calls Tryd.prog 101 #[.slice A0 l0.length c0] w fun e w' => ∃ v0_ : Value, e = .returned (v0_) ∧ Kd.R (Kd.int .i64) 3 w' w.heap.size (fun _ => True) v0_ r ∧ Below w.heap.size w w' := by
 have HR0 := Aside0.mk hr0
 have HC0 := Aside0.mk hc0
 clear hr0 hc0
 have HB := Aside0.mk (Below.refl w.heap.size w)
 have H : (impl_pairsOf.l0 k ([] : List Int) l0 (l0.length : Int) 0) = some r := h
 clear h
 have H' := Aside0.mk H
 clear H
 go_enter Tryd.func101, Tryd.ntmps101
 go_wp2
 go_loopg [3, 9] k (fun kq v3 v9 w' => ∃ (x3_1 : List Int) (x9_1 : Int), v9 = .int .i64 x9_1 ∧ Aside0 (impl_pairsOf.l0 kq x3_1 l0 (l0.length : Int) x9_1 = some r) ∧ Aside0 (kq ≤ k) ∧ Aside0 (Kd.R (Kd.int .i64) 3 w' w.heap.size (fun _ => True) v3 x3_1) ∧ Aside0 (Below w.heap.size w w'))
 case atStart => exact ⟨(([] : List Int)), (0), (by first | rfl | (simp; done) | (simp [*]; done) | (simp; apply Bool.eq_iff_iff.mpr; simp only [bne_iff_ne, ne_eq, beq_iff_eq]; omega)), H', ⟨Nat.le_refl _⟩, ⟨by first | exact Kd.R_nil _ _ _ _ _ | exact Kd.N_nil _ _ _ _ _ | exact Kd.V_nil _ _ _ _ _ | exact Kd.Q_nil _ _ _ _ _ | exact Kd.S_nil _ _ _ _ _⟩, ⟨by repeat (first | (with_reducible first | exact HB.out | apply below_alloc | apply pw_below_drewN | apply below_drew1) | exact HB.out)⟩⟩
 case round =>
  clear H'
  try clear c1
  obtain ⟨x3_1, x9_1, rfl, HA, HK1, HO_3, HB⟩ := hrel
  cases gk with
  | zero => exact absurd HA.out (by simp [impl_pairsOf.l0])
  | succ k1 =>
   have H := HA.out
   clear HA
   simp only [impl_pairsOf.l0] at H
   by_cases c2 : x9_1 < (l0.length : Int)
   ·rw [if_pos c2] at H
    have c2b0 : decide (x9_1 < (l0.length : Int)) = true := decide_eq_true c2
    clear c2
    by_cases c3 : 0 ≤ x9_1
    ·rw [if_pos c3] at H
     have c3b0 : decide (0 ≤ x9_1) = true := decide_eq_true c3
     clear c3
     by_cases c4 : x9_1 < (l0.length : Int)
     ·rw [if_pos c4] at H
      have c4b0 : decide (x9_1 < (l0.length : Int)) = true := decide_eq_true c4
      clear c4
      by_cases c5 : (rd l0 x9_1) < 65536
      ·rw [if_pos c5] at H
       have c5b0 : decide ((rd l0 x9_1) < 65536) = true := decide_eq_true c5
       clear c5
       by_cases c6 : x3_1.length < 17592186044416
       ·rw [if_pos c6] at H
        have LMc6 := Aside0.mk c6
        clear c6
        obtain ⟨y252, hy252⟩ : ∃ y_ : List Int, y_ = (x3_1 ++ [rd l0 x9_1]) := ⟨_, rfl⟩
        replace H : (impl_pairsOf.l0 k1 y252 l0 (l0.length : Int) (wrap64 (x9_1 + 1))) = some r := by first | (rw [hy252]; with_reducible exact H) | (have H2_ := (Option.bind_some _ _).symm.trans H; rw [hy252]; with_reducible exact H2_) | (have H2_ := (Option.bind_some _ _).symm.trans H; with_reducible exact H2_) | with_reducible exact H | (rw [hy252]; exact H) | exact H
        have Ny252 := Aside0.mk hy252
        clear hy252
        have H' := Aside0.mk H
        clear H
        have p251 : 0 ≤ (x9_1 : Int) := of_decide_eq_true (by first | (with_reducible assumption) | assumption)
        have q251 : x9_1 < (l0.length : Int) := of_decide_eq_true (by first | (with_reducible assumption) | assumption)
        obtain ⟨ad251, e251, hx251_0⟩ := Kd.at_int HR0.out x9_1 p251 q251
        cases e251
        replace hx251_0 := (HB.out.cell (World.block_lt_of_cell? w _ hx251_0)).trans hx251_0
        replace p251 := eq_true p251
        replace q251 := eq_true q251
        go_wp2_with (first | ((with_reducible refine gate_builtin (b := .append) (xs := #[.tmp 15, .tmp 17]) rfl ?_); at_builtin; refine Kd.R_append (Kd.int .i64) (w0 := w) w.heap.size rfl (.tmp 15) (.tmp 17) 79 3 (.int .i64 0) 8 rfl Tryd.underlying79 info3 rfl (by decide) (by omega) u3 x3_1 (rd l0 x9_1) [.int .i64 (rd l0 x9_1)] (fun _ => True) (fun _ => False) rfl rfl ?aP (fun _ hk => hk.elim) ?aF ?aO ?aB ?aS ?aL ?_; (case aP => exact rfl); (case aB => exact (by repeat (first | (with_reducible first | exact HB.out | apply below_alloc | apply pw_below_drewN | apply below_drew1) | exact HB.out))); (case aF => exact (fun _ _ => trivial)); (case aO => exact (by (with_reducible repeat (first | apply Kd.R_alloc | apply Kd.R_drewN | apply Kd.R_drew)); exact HO_3.out)); (case aS => exact (below_size (by repeat (first | (with_reducible first | exact HB.out | apply below_alloc | apply pw_below_drewN | apply below_drew1) | exact HB.out)))); (case aL => have := LMc6.out; omega); intro v253 w7 ho hb hg hat; rw [← Ny252.out] at ho; have n0_ := Aside0.mk (hb); have n1_ := Aside0.mk (ho); clear HB; clear HO_3; have HB := n0_; have HO254 := n1_; clear n0_ n1_; clear ho hb hg hat))
        go_roundg k1
        case measure => have := HK1.out; omega
        case rel => exact ⟨(y252), (wrap64 (x9_1 + 1)), (by first | rfl | (simp; done) | (simp [*]; done) | (simp; apply Bool.eq_iff_iff.mpr; simp only [bne_iff_ne, ne_eq, beq_iff_eq]; omega)), H', ⟨by have := HK1.out; omega⟩, ⟨by (with_reducible repeat (first | apply Kd.R_alloc | apply Kd.R_drewN | apply Kd.R_drew)); exact HO254.out⟩, ⟨by repeat (first | (with_reducible first | exact HB.out | apply below_alloc | apply pw_below_drewN | apply below_drew1) | exact HB.out)⟩⟩
       ·rw [if_neg c6] at H
        exact absurd H (by simp)
      ·rw [if_neg c5] at H
       have c5b0 : decide ((rd l0 x9_1) < 65536) = false := decide_eq_false c5
       clear c5
       obtain ⟨y255, hy255⟩ : ∃ y_ : List Int, y_ = (([wrap64 (55296 + ((wrap64 ((rd l0 x9_1) - 65536)) / 1024)), wrap64 (56320 + (Go.bits .and .i64 (wrap64 ((rd l0 x9_1) - 65536)) 1023))] : List Int)) := ⟨_, rfl⟩
       replace H : (if x3_1.length + y255.length < 17592186044416 then (impl_pairsOf.l0 k1 (x3_1 ++ y255) l0 (l0.length : Int) (wrap64 (x9_1 + 1))) else (none)) = some r := by first | (rw [hy255]; with_reducible exact H) | (have H2_ := (Option.bind_some _ _).symm.trans H; rw [hy255]; with_reducible exact H2_) | (have H2_ := (Option.bind_some _ _).symm.trans H; with_reducible exact H2_) | with_reducible exact H | (rw [hy255]; exact H) | exact H
       have Ny255 := Aside0.mk hy255
       clear hy255
       by_cases c8 : x3_1.length + y255.length < 17592186044416
       ·rw [if_pos c8] at H
        have LMc8 := Aside0.mk c8
        clear c8
        obtain ⟨y258, hy258⟩ : ∃ y_ : List Int, y_ = (x3_1 ++ y255) := ⟨_, rfl⟩
        replace H : (impl_pairsOf.l0 k1 y258 l0 (l0.length : Int) (wrap64 (x9_1 + 1))) = some r := by first | (rw [hy258]; with_reducible exact H) | (have H2_ := (Option.bind_some _ _).symm.trans H; rw [hy258]; with_reducible exact H2_) | (have H2_ := (Option.bind_some _ _).symm.trans H; with_reducible exact H2_) | with_reducible exact H | (rw [hy258]; exact H) | exact H
        have Ny258 := Aside0.mk hy258
        clear hy258
        have H' := Aside0.mk H
        clear H
        have p251 : 0 ≤ (x9_1 : Int) := of_decide_eq_true (by first | (with_reducible assumption) | assumption)
        have q251 : x9_1 < (l0.length : Int) := of_decide_eq_true (by first | (with_reducible assumption) | assumption)
        obtain ⟨ad251, e251, hx251_0⟩ := Kd.at_int HR0.out x9_1 p251 q251
        cases e251
        replace hx251_0 := (HB.out.cell (World.block_lt_of_cell? w _ hx251_0)).trans hx251_0
        replace p251 := eq_true p251
        replace q251 := eq_true q251
        go_wp2_with (first | ((with_reducible refine gate_dst (N := 28) rfl ?_); refine Kd.R_lit (Kd.int .i64) _ 3 ?hg (N := 28) ?hd (xs := ([wrap64 (55296 + ((wrap64 ((rd l0 x9_1) - 65536)) / 1024)), wrap64 (56320 + (Go.bits .and .i64 (wrap64 ((rd l0 x9_1) - 65536)) 1023))] : List Int)) (inner := [.int .i64 (wrap64 (55296 + ((wrap64 ((rd l0 x9_1) - 65536)) / 1024))), .int .i64 (wrap64 (56320 + (Go.bits .and .i64 (wrap64 ((rd l0 x9_1) - 65536)) 1023)))]) (ok := fun _ => True) (okp := fun _ => True) ?hr ?hp (fun _ hk => hk) trivial (Below.refl _ _) (Nat.le_refl _) (by simp) ?_; (case hd => rfl); (case hg => rfl); (case hr => first | (go_simp; done) | (go_simp; rfl)); (case hp => exact (Reps.one (show Kd.M (Kd.int .i64) _ _ _ (wrap64 (55296 + ((wrap64 ((rd l0 x9_1) - 65536)) / 1024))) [.int .i64 (wrap64 (55296 + ((wrap64 ((rd l0 x9_1) - 65536)) / 1024)))] from rfl) (Reps.one (show Kd.M (Kd.int .i64) _ _ _ (wrap64 (56320 + (Go.bits .and .i64 (wrap64 ((rd l0 x9_1) - 65536)) 1023))) [.int .i64 (wrap64 (56320 + (Go.bits .and .i64 (wrap64 ((rd l0 x9_1) - 65536)) 1023)))] from rfl) (Reps.none _ _)))); intro v256 w9 ho10 hb hg_ hnew_; clear hg_ hnew_; (first | rw [← Ny255.out] at ho10 | (simp only [Int.reduceToNat] at ho10; rw [← Ny255.out] at ho10)); have n0_ := Aside0.mk (Kd.R_elder' (by (with_reducible repeat (first | apply Kd.R_alloc | apply Kd.R_drewN | apply Kd.R_drew)); exact HO_3.out) (Kd.R_base ho10) hb); have n1_ := Aside0.mk (Kd.R_lower (Kd.R_new' ho10 (Kd.R_lt (by (with_reducible repeat (first | apply Kd.R_alloc | apply Kd.R_drewN | apply Kd.R_drew)); exact HO_3.out))) (below_size (by repeat (first | (with_reducible first | exact HB.out | apply below_alloc | apply pw_below_drewN | apply below_drew1) | exact HB.out)))); have n2_ := Aside0.mk (below_step (by repeat (first | (with_reducible first | exact HB.out | apply below_alloc | apply pw_below_drewN | apply below_drew1) | exact HB.out)) hb); clear HO_3; clear HB; have HO_3 := n0_; have HO257 := n1_; have HB := n2_; clear n0_ n1_ n2_; clear hb ho10; obtain ⟨Ao12, co12, eo12⟩ := Kd.R_slice HO257.out; subst eo12) | ((with_reducible refine gate_builtin (b := .append) (xs := #[.tmp 21, .tmp 28]) rfl ?_); at_builtin; refine Kd.R_append_rows (Kd.int .i64) (w0 := w) w.heap.size rfl (.tmp 21) (.tmp 28) 79 3 (.int .i64 0) 8 rfl Tryd.underlying79 info3 rfl (by decide) (by omega) u3 x3_1 y255 _ _ _ (fun k_ => some k_ ≠ (.slice Ao12 y255.length co12 : Value).ownBlock) (fun _ => False) rfl rfl ?aO ?aR (fun _ _ h => h) (fun _ h => h.elim) ?aF ?aB ?aS ?aL ?_; (case aR => repeat (first | exact (Kd.R_reads' HO257.out).2.2 | (with_reducible refine Kd.C_alloc ?_ _) | (with_reducible refine Kd.C_drewN ?_ _) | (with_reducible refine Kd.C_drew ?_))); (case aB => exact (by repeat (first | (with_reducible first | exact HB.out | apply below_alloc | apply pw_below_drewN | apply below_drew1) | exact HB.out))); (case aF => exact (fun k_ hk => Kd.fresh' (Kd.R_lt (by (with_reducible repeat (first | apply Kd.R_alloc | apply Kd.R_drewN | apply Kd.R_drew)); exact HO257.out)) k_ hk)); (case aO => exact (by (with_reducible repeat (first | apply Kd.R_alloc | apply Kd.R_drewN | apply Kd.R_drew)); exact Kd.R_mono HO_3.out (fun _ hk => hk.2))); (case aS => exact (below_size (by repeat (first | (with_reducible first | exact HB.out | apply below_alloc | apply pw_below_drewN | apply below_drew1) | exact HB.out)))); (case aL => have := LMc8.out; omega); intro v259 w11 ho hb hg hat; rw [← Ny258.out] at ho; have n0_ := Aside0.mk (Kd.R_after (ok := (fun _ => True)) (by (with_reducible repeat (first | apply Kd.R_alloc | apply Kd.R_drewN | apply Kd.R_drew)); exact HO257.out) hg hat); have n1_ := Aside0.mk (hb); have n2_ := Aside0.mk (ho); clear HO257; clear HB; clear HO_3; have HO257 := n0_; have HB := n1_; have HO260 := n2_; clear n0_ n1_ n2_; clear ho hb hg hat))
        go_roundg k1
        case measure => have := HK1.out; omega
        case rel => exact ⟨(y258), (wrap64 (x9_1 + 1)), (by first | rfl | (simp; done) | (simp [*]; done) | (simp; apply Bool.eq_iff_iff.mpr; simp only [bne_iff_ne, ne_eq, beq_iff_eq]; omega)), H', ⟨by have := HK1.out; omega⟩, ⟨by (with_reducible repeat (first | apply Kd.R_alloc | apply Kd.R_drewN | apply Kd.R_drew)); exact Kd.R_mono HO260.out (fun _ hk => trivial)⟩, ⟨by repeat (first | (with_reducible first | exact HB.out | apply below_alloc | apply pw_below_drewN | apply below_drew1) | exact HB.out)⟩⟩
       ·rw [if_neg c8] at H
        exact absurd H (by simp)
     ·rw [if_neg c4] at H
      exact absurd H (by simp)
    ·rw [if_neg c3] at H
     exact absurd H (by simp)
   ·rw [if_neg c2] at H
    have c2b0 : decide (x9_1 < (l0.length : Int)) = false := decide_eq_false c2
    clear c2
    obtain rfl := Option.some.inj H
    go_wp2
    go_ret
    exact ⟨_, by first | rfl | (simp [errW_none, errW_some] <;> rfl) | (simp [*, errW_none, errW_some] <;> rfl), by (with_reducible repeat (first | apply Kd.R_alloc | apply Kd.R_drewN | apply Kd.R_drew)); exact HO_3.out, by repeat (first | (with_reducible first | exact HB.out | apply below_alloc | apply pw_below_drewN | apply below_drew1) | exact HB.out)⟩

/-! ### cmp_isNaN_int: function 161 -/
def cmp_isNaN_int.f (a0 : Int) : Option (Bool) := some (a0 != a0)
set_option maxHeartbeats 8000000 in
set_option maxRecDepth 100000 in
theorem cmp_isNaN_int.calls (a0 : Int) (r : Bool) (w : World) (h : cmp_isNaN_int.f a0 = some r) :
  Calls Tryd.prog 161 #[.int .i64 a0] w fun e w' => e = .returned (.bool r) ∧ Drawn0 w w' := by
 have H : (some (a0 != a0)) = some r := h
 clear h
 obtain rfl := Option.some.inj H
 go_enter Tryd.func161, Tryd.ntmps161
 go_wp2
 go_ret
 exact ⟨by first | rfl | (simp; done) | (simp [*]; done), by repeat (first | exact Drawn0.refl _ | apply Drawn0.step)⟩

/-! ### cmp_Compare_int: function 146 -/
def cmp_Compare_int.f (a0 : Int) (a1 : Int) : Option (Int) := (cmp_isNaN_int.f a0).bind fun t261 => ((cmp_isNaN_int.f a1).bind fun t262 => (if t261 = true then (if t262 = true then (some 0) else (some (-1))) else (if t262 = true then (some 1) else (if a0 < a1 then (some (-1)) else (if a0 > a1 then (some 1) else (some 0))))))
set_option maxHeartbeats 8000000 in
set_option maxRecDepth 100000 in
theorem cmp_Compare_int.calls (a0 : Int) (a1 : Int) (r : Int) (w : World) (h : cmp_Compare_int.f a0 a1 = some r) :
  Calls Tryd.prog 146 #[.int .i64 a0, .int .i64 a1] w fun e w' => e = .returned (.int .i64 r) ∧ Drawn0 w w' := by
 have H : ((cmp_isNaN_int.f a0).bind fun t261 => ((cmp_isNaN_int.f a1).bind fun t262 => (if t261 = true then (if t262 = true then (some 0) else (some (-1))) else (if t262 = true then (some 1) else (if a0 < a1 then (some (-1)) else (if a0 > a1 then (some 1) else (some 0))))))) = some r := h
 clear h
 replace H := Option.bind_eq_some_iff.mp H
 obtain ⟨t261, A30, H⟩ := H
 replace H : ((cmp_isNaN_int.f a1).bind fun t262 => (if t261 = true then (if t262 = true then (some 0) else (some (-1))) else (if t262 = true then (some 1) else (if a0 < a1 then (some (-1)) else (if a0 > a1 then (some 1) else (some 0)))))) = some r := H
 have A3 := Aside0.mk A30
 clear A30
 replace H := Option.bind_eq_some_iff.mp H
 obtain ⟨t262, A40, H⟩ := H
 replace H : (if t261 = true then (if t262 = true then (some 0) else (some (-1))) else (if t262 = true then (some 1) else (if a0 < a1 then (some (-1)) else (if a0 > a1 then (some 1) else (some 0))))) = some r := H
 have A4 := Aside0.mk A40
 clear A40
 by_cases c5 : t261 = true
 ·subst c5
  have H1 : (if t262 = true then (some 0) else (some (-1))) = some r := by rw [if_pos rfl] at H; exact H
  clear H
  have H := H1
  clear H1
  by_cases c6 : t262 = true
  ·subst c6
   have H1 : (some 0) = some r := by rw [if_pos rfl] at H; exact H
   clear H
   have H := H1
   clear H1
   obtain rfl := Option.some.inj H
   go_enter Tryd.func146, Tryd.ntmps146
   go_wp2_with (first | ((with_reducible refine gate_callee (f := 161) rfl ?_); refine goesL_ (some 8) rfl rfl Tryd.func161 (by kernel_rfl) rfl #[.int .i64 a0] rfl (by (try simp only [List.map_toArray, List.map_cons, List.map_nil]); first | done | rfl | (simp only [List.length_drop, List.length_take]; rfl)) ?_; (with_reducible refine (cmp_isNaN_int.calls a0 true _ A3.out).mono ?_); rintro e w' ⟨rfl, ⟨nd, rfl⟩⟩; refine ⟨_, rfl, ?_⟩) | ((with_reducible refine gate_callee (f := 161) rfl ?_); refine goesL_ (some 10) rfl rfl Tryd.func161 (by kernel_rfl) rfl #[.int .i64 a1] rfl (by (try simp only [List.map_toArray, List.map_cons, List.map_nil]); first | done | rfl | (simp only [List.length_drop, List.length_take]; rfl)) ?_; (with_reducible refine (cmp_isNaN_int.calls a1 true _ A4.out).mono ?_); rintro e w' ⟨rfl, ⟨nd, rfl⟩⟩; refine ⟨_, rfl, ?_⟩))
   go_ret
   exact ⟨by first | rfl | (simp; done) | (simp [*]; done), by repeat (first | exact Drawn0.refl _ | apply Drawn0.step)⟩
  ·replace c6 := Bool.eq_false_iff.mpr c6
   subst c6
   have H1 : (some (-1)) = some r := by rw [if_neg (show ¬ (false = true) by decide)] at H; exact H
   clear H
   have H := H1
   clear H1
   obtain rfl := Option.some.inj H
   go_enter Tryd.func146, Tryd.ntmps146
   go_wp2_with (first | ((with_reducible refine gate_callee (f := 161) rfl ?_); refine goesL_ (some 8) rfl rfl Tryd.func161 (by kernel_rfl) rfl #[.int .i64 a0] rfl (by (try simp only [List.map_toArray, List.map_cons, List.map_nil]); first | done | rfl | (simp only [List.length_drop, List.length_take]; rfl)) ?_; (with_reducible refine (cmp_isNaN_int.calls a0 true _ A3.out).mono ?_); rintro e w' ⟨rfl, ⟨nd, rfl⟩⟩; refine ⟨_, rfl, ?_⟩) | ((with_reducible refine gate_callee (f := 161) rfl ?_); refine goesL_ (some 10) rfl rfl Tryd.func161 (by kernel_rfl) rfl #[.int .i64 a1] rfl (by (try simp only [List.map_toArray, List.map_cons, List.map_nil]); first | done | rfl | (simp only [List.length_drop, List.length_take]; rfl)) ?_; (with_reducible refine (cmp_isNaN_int.calls a1 false _ A4.out).mono ?_); rintro e w' ⟨rfl, ⟨nd, rfl⟩⟩; refine ⟨_, rfl, ?_⟩))
   go_ret
   exact ⟨by first | rfl | (simp; done) | (simp [*]; done), by repeat (first | exact Drawn0.refl _ | apply Drawn0.step)⟩
 ·replace c5 := Bool.eq_false_iff.mpr c5
  subst c5
  have H1 : (if t262 = true then (some 1) else (if a0 < a1 then (some (-1)) else (if a0 > a1 then (some 1) else (some 0)))) = some r := by rw [if_neg (show ¬ (false = true) by decide)] at H; exact H
  clear H
  have H := H1
  clear H1
  by_cases c7 : t262 = true
  ·subst c7
   have H1 : (some 1) = some r := by rw [if_pos rfl] at H; exact H
   clear H
   have H := H1
   clear H1
   obtain rfl := Option.some.inj H
   go_enter Tryd.func146, Tryd.ntmps146
   go_wp2_with (first | ((with_reducible refine gate_callee (f := 161) rfl ?_); refine goesL_ (some 8) rfl rfl Tryd.func161 (by kernel_rfl) rfl #[.int .i64 a0] rfl (by (try simp only [List.map_toArray, List.map_cons, List.map_nil]); first | done | rfl | (simp only [List.length_drop, List.length_take]; rfl)) ?_; (with_reducible refine (cmp_isNaN_int.calls a0 false _ A3.out).mono ?_); rintro e w' ⟨rfl, ⟨nd, rfl⟩⟩; refine ⟨_, rfl, ?_⟩) | ((with_reducible refine gate_callee (f := 161) rfl ?_); refine goesL_ (some 10) rfl rfl Tryd.func161 (by kernel_rfl) rfl #[.int .i64 a1] rfl (by (try simp only [List.map_toArray, List.map_cons, List.map_nil]); first | done | rfl | (simp only [List.length_drop, List.length_take]; rfl)) ?_; (with_reducible refine (cmp_isNaN_int.calls a1 true _ A4.out).mono ?_); rintro e w' ⟨rfl, ⟨nd, rfl⟩⟩; refine ⟨_, rfl, ?_⟩))
   go_ret
   exact ⟨by first | rfl | (simp; done) | (simp [*]; done), by repeat (first | exact Drawn0.refl _ | apply Drawn0.step)⟩
  ·replace c7 := Bool.eq_false_iff.mpr c7
   subst c7
   have H1 : (if a0 < a1 then (some (-1)) else (if a0 > a1 then (some 1) else (some 0))) = some r := by rw [if_neg (show ¬ (false = true) by decide)] at H; exact H
   clear H
   have H := H1
   clear H1
   by_cases c8 : a0 < a1
   ·rw [if_pos c8] at H
    have c8b0 : decide (a0 < a1) = true := decide_eq_true c8
    clear c8
    obtain rfl := Option.some.inj H
    go_enter Tryd.func146, Tryd.ntmps146
    go_wp2_with (first | ((with_reducible refine gate_callee (f := 161) rfl ?_); refine goesL_ (some 8) rfl rfl Tryd.func161 (by kernel_rfl) rfl #[.int .i64 a0] rfl (by (try simp only [List.map_toArray, List.map_cons, List.map_nil]); first | done | rfl | (simp only [List.length_drop, List.length_take]; rfl)) ?_; (with_reducible refine (cmp_isNaN_int.calls a0 false _ A3.out).mono ?_); rintro e w' ⟨rfl, ⟨nd, rfl⟩⟩; refine ⟨_, rfl, ?_⟩) | ((with_reducible refine gate_callee (f := 161) rfl ?_); refine goesL_ (some 10) rfl rfl Tryd.func161 (by kernel_rfl) rfl #[.int .i64 a1] rfl (by (try simp only [List.map_toArray, List.map_cons, List.map_nil]); first | done | rfl | (simp only [List.length_drop, List.length_take]; rfl)) ?_; (with_reducible refine (cmp_isNaN_int.calls a1 false _ A4.out).mono ?_); rintro e w' ⟨rfl, ⟨nd, rfl⟩⟩; refine ⟨_, rfl, ?_⟩))
    go_ret
    exact ⟨by first | rfl | (simp; done) | (simp [*]; done), by repeat (first | exact Drawn0.refl _ | apply Drawn0.step)⟩
   ·rw [if_neg c8] at H
    have c8b0 : decide (a0 < a1) = false := decide_eq_false c8
    clear c8
    by_cases c9 : a0 > a1
    ·rw [if_pos c9] at H
     have c9b0 : decide (a1 < a0) = true := decide_eq_true c9
     clear c9
     obtain rfl := Option.some.inj H
     go_enter Tryd.func146, Tryd.ntmps146
     go_wp2_with (first | ((with_reducible refine gate_callee (f := 161) rfl ?_); refine goesL_ (some 8) rfl rfl Tryd.func161 (by kernel_rfl) rfl #[.int .i64 a0] rfl (by (try simp only [List.map_toArray, List.map_cons, List.map_nil]); first | done | rfl | (simp only [List.length_drop, List.length_take]; rfl)) ?_; (with_reducible refine (cmp_isNaN_int.calls a0 false _ A3.out).mono ?_); rintro e w' ⟨rfl, ⟨nd, rfl⟩⟩; refine ⟨_, rfl, ?_⟩) | ((with_reducible refine gate_callee (f := 161) rfl ?_); refine goesL_ (some 10) rfl rfl Tryd.func161 (by kernel_rfl) rfl #[.int .i64 a1] rfl (by (try simp only [List.map_toArray, List.map_cons, List.map_nil]); first | done | rfl | (simp only [List.length_drop, List.length_take]; rfl)) ?_; (with_reducible refine (cmp_isNaN_int.calls a1 false _ A4.out).mono ?_); rintro e w' ⟨rfl, ⟨nd, rfl⟩⟩; refine ⟨_, rfl, ?_⟩))
     go_ret
     exact ⟨by first | rfl | (simp; done) | (simp [*]; done), by repeat (first | exact Drawn0.refl _ | apply Drawn0.step)⟩
    ·rw [if_neg c9] at H
     have c9b0 : decide (a1 < a0) = false := decide_eq_false c9
     clear c9
     obtain rfl := Option.some.inj H
     go_enter Tryd.func146, Tryd.ntmps146
     go_wp2_with (first | ((with_reducible refine gate_callee (f := 161) rfl ?_); refine goesL_ (some 8) rfl rfl Tryd.func161 (by kernel_rfl) rfl #[.int .i64 a0] rfl (by (try simp only [List.map_toArray, List.map_cons, List.map_nil]); first | done | rfl | (simp only [List.length_drop, List.length_take]; rfl)) ?_; (with_reducible refine (cmp_isNaN_int.calls a0 false _ A3.out).mono ?_); rintro e w' ⟨rfl, ⟨nd, rfl⟩⟩; refine ⟨_, rfl, ?_⟩) | ((with_reducible refine gate_callee (f := 161) rfl ?_); refine goesL_ (some 10) rfl rfl Tryd.func161 (by kernel_rfl) rfl #[.int .i64 a1] rfl (by (try simp only [List.map_toArray, List.map_cons, List.map_nil]); first | done | rfl | (simp only [List.length_drop, List.length_take]; rfl)) ?_; (with_reducible refine (cmp_isNaN_int.calls a1 false _ A4.out).mono ?_); rintro e w' ⟨rfl, ⟨nd, rfl⟩⟩; refine ⟨_, rfl, ?_⟩))
     go_ret
     exact ⟨by first | rfl | (simp; done) | (simp [*]; done), by repeat (first | exact Drawn0.refl _ | apply Drawn0.step)⟩

/-! ### slices_Compare_int_int: function 119 -/
def slices_Compare_int_int.l0 : Nat → List Int → List Int → List Int → Int → Int → Option (Int)
 | 0, _, _, _, _, _ => none
 | k + 1, x0, x1, x9, x10, x11 => if x11 < x10 then (if 0 ≤ x11 then (if x11 < (x9.length : Int) then (if x11 ≥ (x1.length : Int) then (some 1) else (if x11 < (x1.length : Int) then ((cmp_Compare_int.f (rd x9 x11) (rd x1 x11)).bind fun t265 => (if t265 = 0 then (slices_Compare_int_int.l0 k x0 x1 x9 x10 (wrap64 (x11 + 1))) else (some t265))) else (none))) else (none)) else (none)) else (if (x0.length : Int) < (x1.length : Int) then (some (-1)) else (some 0))
def slices_Compare_int_int.f (k : Nat) (l0 : List Int) (l1 : List Int) : Option (Int) := slices_Compare_int_int.l0 k l0 l1 l0 (l0.length : Int) 0
theorem slices_Compare_int_int.mono_l : ∀ k, (∀ y0 y1 y2 y3 y4, LeO (slices_Compare_int_int.l0 k y0 y1 y2 y3 y4) (slices_Compare_int_int.l0 (k + 1) y0 y1 y2 y3 y4))
 | 0 => fun _ _ _ _ _ r h => by simp [slices_Compare_int_int.l0] at h
 | k + 1 => by
  have ih0 := slices_Compare_int_int.mono_l k
  ·intro y0 y1 y2 y3 y4
   unfold slices_Compare_int_int.l0
   repeat' first
   | (with_reducible exact ih0 _ _ _ _ _)
   | (with_reducible exact LeO.refl _)
   | (with_reducible exact LeO.none _)
   | (with_reducible refine LeO.ite ?_ ?_)
   | (with_reducible refine LeO.bind ?_ (fun _ => ?_))
   | exact ih0 _ _ _ _ _
   | exact LeO.none _
   | refine LeO.ite ?_ ?_
   | refine LeO.bind ?_ (fun _ => ?_)
theorem slices_Compare_int_int.mono : ∀ a0 a1 k, LeO (slices_Compare_int_int.f k a0 a1) (slices_Compare_int_int.f (k + 1) a0 a1) := by
 intro a0 a1 k
 have ih0 := slices_Compare_int_int.mono_l k
 unfold slices_Compare_int_int.f
 repeat' first
   | (with_reducible exact ih0 _ _ _ _ _)
   | (with_reducible exact LeO.refl _)
   | (with_reducible exact LeO.none _)
   | (with_reducible refine LeO.ite ?_ ?_)
   | (with_reducible refine LeO.bind ?_ (fun _ => ?_))
   | exact ih0 _ _ _ _ _
   | exact LeO.none _
   | refine LeO.ite ?_ ?_
   | refine LeO.bind ?_ (fun _ => ?_)
set_option maxHeartbeats 8000000 in
set_option maxRecDepth 100000 in
theorem slices_Compare_int_int.calls (k : Nat) (A0 : Option Addr) (c0 : Nat) (l0 : List Int) (A1 : Option Addr) (c1 : Nat) (l1 : List Int) (r : Int) (w : World) (hr0 : Kd.C (Kd.int .i64) w A0 l0.length l0) (hc0 : l0.length ≤ c0) (hr1 : Kd.C (Kd.int .i64) w A1 l1.length l1) (hc1 : l1.length ≤ c1) (h : slices_Compare_int_int.f k l0 l1 = some r) :
  Calls Tryd.prog 119 #[.slice A0 l0.length c0, .slice A1 l1.length c1] w fun e w' => e = .returned (.int .i64 r) ∧ Drawn0 w w' := by
 have HR0 := Aside0.mk hr0
 have HC0 := Aside0.mk hc0
 clear hr0 hc0
 have HR1 := Aside0.mk hr1
 have HC1 := Aside0.mk hc1
 clear hr1 hc1
 have H : (slices_Compare_int_int.l0 k l0 l1 l0 (l0.length : Int) 0) = some r := h
 clear h
 have H' := Aside0.mk H
 clear H
 go_enter Tryd.func119, Tryd.ntmps119
 go_wp2
 go_loopg [11] k (fun kq v11 w' => ∃ (x11_1 : Int), v11 = .int .i64 x11_1 ∧ Aside0 (slices_Compare_int_int.l0 kq l0 l1 l0 (l0.length : Int) x11_1 = some r) ∧ Aside0 (kq ≤ k) ∧ Drawn0 w w')
 case atStart => exact ⟨(0), (by first | rfl | (simp; done) | (simp [*]; done) | (simp; apply Bool.eq_iff_iff.mpr; simp only [bne_iff_ne, ne_eq, beq_iff_eq]; omega)), H', ⟨Nat.le_refl _⟩, by repeat (first | exact Drawn0.refl _ | apply Drawn0.step)⟩
 case round =>
  clear H'
  try clear c1
  try clear p2
  obtain ⟨x11_1, rfl, HA, HK1, ⟨m1, rfl⟩⟩ := hrel
  cases gk with
  | zero => exact absurd HA.out (by simp [slices_Compare_int_int.l0])
  | succ k1 =>
   have H := HA.out
   clear HA
   simp only [slices_Compare_int_int.l0] at H
   by_cases c3 : x11_1 < (l0.length : Int)
   ·rw [if_pos c3] at H
    have c3b0 : decide (x11_1 < (l0.length : Int)) = true := decide_eq_true c3
    clear c3
    by_cases c4 : 0 ≤ x11_1
    ·rw [if_pos c4] at H
     have c4b0 : decide (0 ≤ x11_1) = true := decide_eq_true c4
     clear c4
     by_cases c5 : x11_1 < (l0.length : Int)
     ·rw [if_pos c5] at H
      have c5b0 : decide (x11_1 < (l0.length : Int)) = true := decide_eq_true c5
      clear c5
      by_cases c6 : x11_1 ≥ (l1.length : Int)
      ·rw [if_pos c6] at H
       have c6b0 : decide ((l1.length : Int) ≤ x11_1) = true := decide_eq_true c6
       clear c6
       obtain rfl := Option.some.inj H
       have p263 : 0 ≤ (x11_1 : Int) := of_decide_eq_true (by first | (with_reducible assumption) | assumption)
       have q263 : x11_1 < (l0.length : Int) := of_decide_eq_true (by first | (with_reducible assumption) | assumption)
       obtain ⟨ad263, e263, hx263_0⟩ := Kd.at_int HR0.out x11_1 p263 q263
       cases e263
       replace p263 := eq_true p263
       replace q263 := eq_true q263
       go_wp2
       go_ret
       exact ⟨by first | rfl | (simp; done) | (simp [*]; done), by repeat (first | exact Drawn0.refl _ | apply Drawn0.step)⟩
      ·rw [if_neg c6] at H
       have c6b0 : decide ((l1.length : Int) ≤ x11_1) = false := decide_eq_false c6
       clear c6
       by_cases c7 : x11_1 < (l1.length : Int)
       ·rw [if_pos c7] at H
        have c7b0 : decide (x11_1 < (l1.length : Int)) = true := decide_eq_true c7
        clear c7
        replace H := Option.bind_eq_some_iff.mp H
        obtain ⟨t265, A80, H⟩ := H
        replace H : (if t265 = 0 then (slices_Compare_int_int.l0 k1 l0 l1 l0 (l0.length : Int) (wrap64 (x11_1 + 1))) else (some t265)) = some r := H
        have A8 := Aside0.mk A80
        clear A80
        by_cases c9 : t265 = 0
        ·rw [if_pos c9] at H
         have c9b0 : (t265 == 0) = true := beq_iff_eq.mpr c9
         have c9b1 : (t265 != 0) = false := bne_eq_false_iff_eq.mpr c9
         clear c9
         have H' := Aside0.mk H
         clear H
         have p263 : 0 ≤ (x11_1 : Int) := of_decide_eq_true (by first | (with_reducible assumption) | assumption)
         have q263 : x11_1 < (l0.length : Int) := of_decide_eq_true (by first | (with_reducible assumption) | assumption)
         obtain ⟨ad263, e263, hx263_0⟩ := Kd.at_int HR0.out x11_1 p263 q263
         cases e263
         replace p263 := eq_true p263
         replace q263 := eq_true q263
         have p264 : 0 ≤ (x11_1 : Int) := of_decide_eq_true (by first | (with_reducible assumption) | assumption)
         have q264 : x11_1 < (l1.length : Int) := of_decide_eq_true (by first | (with_reducible assumption) | assumption)
         obtain ⟨ad264, e264, hx264_0⟩ := Kd.at_int HR1.out x11_1 p264 q264
         cases e264
         replace p264 := eq_true p264
         replace q264 := eq_true q264
         go_wp2_with (first | ((with_reducible refine gate_callee (f := 146) rfl ?_); refine goesL_ (some 26) rfl rfl Tryd.func146 (by kernel_rfl) rfl #[.int .i64 (rd l0 x11_1), .int .i64 (rd l1 x11_1)] rfl (by (try simp only [List.map_toArray, List.map_cons, List.map_nil]); first | done | rfl | (simp only [List.length_drop, List.length_take]; rfl)) ?_; (with_reducible refine (cmp_Compare_int.calls (rd l0 x11_1) (rd l1 x11_1) t265 _ A8.out).mono ?_); rintro e w' ⟨rfl, ⟨nd, rfl⟩⟩; refine ⟨_, rfl, ?_⟩))
         go_roundg k1
         case measure => have := HK1.out; omega
         case rel => exact ⟨(wrap64 (x11_1 + 1)), (by first | rfl | (simp; done) | (simp [*]; done) | (simp; apply Bool.eq_iff_iff.mpr; simp only [bne_iff_ne, ne_eq, beq_iff_eq]; omega)), H', ⟨by have := HK1.out; omega⟩, by repeat (first | exact Drawn0.refl _ | apply Drawn0.step)⟩
        ·rw [if_neg c9] at H
         have c9b0 : (t265 == 0) = false := beq_eq_false_iff_ne.mpr c9
         have c9b1 : (t265 != 0) = true := bne_iff_ne.mpr c9
         obtain rfl := Option.some.inj H
         have p263 : 0 ≤ (x11_1 : Int) := of_decide_eq_true (by first | (with_reducible assumption) | assumption)
         have q263 : x11_1 < (l0.length : Int) := of_decide_eq_true (by first | (with_reducible assumption) | assumption)
         obtain ⟨ad263, e263, hx263_0⟩ := Kd.at_int HR0.out x11_1 p263 q263
         cases e263
         replace p263 := eq_true p263
         replace q263 := eq_true q263
         have p264 : 0 ≤ (x11_1 : Int) := of_decide_eq_true (by first | (with_reducible assumption) | assumption)
         have q264 : x11_1 < (l1.length : Int) := of_decide_eq_true (by first | (with_reducible assumption) | assumption)
         obtain ⟨ad264, e264, hx264_0⟩ := Kd.at_int HR1.out x11_1 p264 q264
         cases e264
         replace p264 := eq_true p264
         replace q264 := eq_true q264
         go_wp2_with (first | ((with_reducible refine gate_callee (f := 146) rfl ?_); refine goesL_ (some 26) rfl rfl Tryd.func146 (by kernel_rfl) rfl #[.int .i64 (rd l0 x11_1), .int .i64 (rd l1 x11_1)] rfl (by (try simp only [List.map_toArray, List.map_cons, List.map_nil]); first | done | rfl | (simp only [List.length_drop, List.length_take]; rfl)) ?_; (with_reducible refine (cmp_Compare_int.calls (rd l0 x11_1) (rd l1 x11_1) t265 _ A8.out).mono ?_); rintro e w' ⟨rfl, ⟨nd, rfl⟩⟩; refine ⟨_, rfl, ?_⟩))
         go_ret
         exact ⟨by first | rfl | (simp; done) | (simp [*]; done), by repeat (first | exact Drawn0.refl _ | apply Drawn0.step)⟩
       ·rw [if_neg c7] at H
        exact absurd H (by simp)
     ·rw [if_neg c5] at H
      exact absurd H (by simp)
    ·rw [if_neg c4] at H
     exact absurd H (by simp)
   ·rw [if_neg c3] at H
    have c3b0 : decide (x11_1 < (l0.length : Int)) = false := decide_eq_false c3
    clear c3
    by_cases c10 : (l0.length : Int) < (l1.length : Int)
    ·rw [if_pos c10] at H
     have c10b0 : decide ((l0.length : Int) < (l1.length : Int)) = true := decide_eq_true c10
     have c10b1 : decide (l0.length < l1.length) = true := decide_eq_true (Int.ofNat_lt.mp c10)
     clear c10
     obtain rfl := Option.some.inj H
     go_wp2
     go_ret
     exact ⟨by first | rfl | (simp; done) | (simp [*]; done), by repeat (first | exact Drawn0.refl _ | apply Drawn0.step)⟩
    ·rw [if_neg c10] at H
     have c10b0 : decide ((l0.length : Int) < (l1.length : Int)) = false := decide_eq_false c10
     have c10b1 : decide (l0.length < l1.length) = false := decide_eq_false (fun h => c10 (Int.ofNat_lt.mpr h))
     clear c10
     obtain rfl := Option.some.inj H
     go_wp2
     go_ret
     exact ⟨by first | rfl | (simp; done) | (simp [*]; done), by repeat (first | exact Drawn0.refl _ | apply Drawn0.step)⟩

/-! ### impl_compareKeys: function 85 -/
def impl_compareKeys.f (k : Nat) (a0 : ByteArray) (a1 : ByteArray) : Option (Int) := (impl_runesOf.f k a0).bind fun bt266 => ((impl_runesOf.f k a1).bind fun bt270 => ((impl_pairsOf.f k bt266.1).bind fun t274 => ((impl_pairsOf.f k bt270.1).bind fun t277 => ((slices_Compare_int_int.f k t274 t277).bind fun t280 => (some t280)))))
theorem impl_compareKeys.mono : ∀ a0 a1 k, LeO (impl_compareKeys.f k a0 a1) (impl_compareKeys.f (k + 1) a0 a1) := by
 intro a0 a1 k
 unfold impl_compareKeys.f
 repeat' first
   | (with_reducible exact impl_pairsOf.mono _ _)
   | (with_reducible exact impl_runesOf.mono _ _)
   | (with_reducible exact slices_Compare_int_int.mono _ _ _)
   | (with_reducible exact LeO.refl _)
   | (with_reducible exact LeO.none _)
   | (with_reducible refine LeO.ite ?_ ?_)
   | (with_reducible refine LeO.bind ?_ (fun _ => ?_))
   | exact impl_pairsOf.mono _ _
   | exact impl_runesOf.mono _ _
   | exact slices_Compare_int_int.mono _ _ _
   | exact LeO.none _
   | refine LeO.ite ?_ ?_
   | refine LeO.bind ?_ (fun _ => ?_)
set_option maxHeartbeats 8000000 in
set_option maxRecDepth 100000 in
theorem impl_compareKeys.calls (k : Nat) (a0 : ByteArray) (a1 : ByteArray) (r : Int) (w : World) (tb : Go.Proofs.YtkfbdopfeacnfaaDoor.TabsU.Tabs0 w) (h : impl_compareKeys.f k a0 a1 = some r) :
  Calls Tryd.prog 85 #[.string a0, .string a1] w fun e w' => e = .returned (.int .i64 r) ∧ Below w.heap.size w w' := by
 have TB := Aside0.mk tb
 clear tb
 have HB := Aside0.mk (Below.refl w.heap.size w)
 have H : ((impl_runesOf.f k a0).bind fun bt266 => ((impl_runesOf.f k a1).bind fun bt270 => ((impl_pairsOf.f k bt266.1).bind fun t274 => ((impl_pairsOf.f k bt270.1).bind fun t277 => ((slices_Compare_int_int.f k t274 t277).bind fun t280 => (some t280)))))) = some r := h
 clear h
 replace H := Option.bind_eq_some_iff.mp H
 obtain ⟨⟨t266, t267⟩, A30, H⟩ := H
 replace H : ((impl_runesOf.f k a1).bind fun bt270 => ((impl_pairsOf.f k t266).bind fun t274 => ((impl_pairsOf.f k bt270.1).bind fun t277 => ((slices_Compare_int_int.f k t274 t277).bind fun t280 => (some t280))))) = some r := H
 have A3 := Aside0.mk A30
 clear A30
 replace H := Option.bind_eq_some_iff.mp H
 obtain ⟨⟨t270, t271⟩, A40, H⟩ := H
 replace H : ((impl_pairsOf.f k t266).bind fun t274 => ((impl_pairsOf.f k t270).bind fun t277 => ((slices_Compare_int_int.f k t274 t277).bind fun t280 => (some t280)))) = some r := H
 have A4 := Aside0.mk A40
 clear A40
 replace H := Option.bind_eq_some_iff.mp H
 obtain ⟨t274, A50, H⟩ := H
 replace H : ((impl_pairsOf.f k t270).bind fun t277 => ((slices_Compare_int_int.f k t274 t277).bind fun t280 => (some t280))) = some r := H
 have A5 := Aside0.mk A50
 clear A50
 replace H := Option.bind_eq_some_iff.mp H
 obtain ⟨t277, A60, H⟩ := H
 replace H : ((slices_Compare_int_int.f k t274 t277).bind fun t280 => (some t280)) = some r := H
 have A6 := Aside0.mk A60
 clear A60
 replace H := Option.bind_eq_some_iff.mp H
 obtain ⟨t280, A70, H⟩ := H
 replace H : (some t280) = some r := H
 have A7 := Aside0.mk A70
 clear A70
 obtain rfl := Option.some.inj H
 go_enter Tryd.func85, Tryd.ntmps85
 go_wp2_with (first | ((with_reducible refine gate_callee (f := 81) rfl ?_); refine goesL_ (some 11) rfl rfl Tryd.func81 (by kernel_rfl) rfl #[.string a0] rfl (by (try simp only [List.map_toArray, List.map_cons, List.map_nil]); first | done | rfl | (simp only [List.length_drop, List.length_take]; rfl)) ?_; (with_reducible refine (impl_runesOf.calls k a0 t266 t267 _ ?side1 A3.out).mono ?_); (case side1 => exact Go.Proofs.YtkfbdopfeacnfaaDoor.TabsU.Tabs0.of_below TB.out (by repeat (first | (with_reducible first | exact HB.out | apply below_alloc | apply pw_below_drewN | apply below_drew1) | exact HB.out))); rintro e w8 ⟨v268, rfl, ho0, hb⟩; refine ⟨_, rfl, ?_⟩; have n0_ := Aside0.mk (Kd.R_lower ho0 (below_size (by repeat (first | (with_reducible first | exact HB.out | apply below_alloc | apply pw_below_drewN | apply below_drew1) | exact HB.out)))); have n1_ := Aside0.mk (below_step (by repeat (first | (with_reducible first | exact HB.out | apply below_alloc | apply pw_below_drewN | apply below_drew1) | exact HB.out)) hb); clear HB; have HO269 := n0_; have HB := n1_; clear n0_ n1_; (try clear hb); (try clear hb2); (try clear hk); (try clear hi); (try clear ho0)) | ((with_reducible refine gate_callee (f := 81) rfl ?_); refine goesL_ (some 16) rfl rfl Tryd.func81 (by kernel_rfl) rfl #[.string a1] rfl (by (try simp only [List.map_toArray, List.map_cons, List.map_nil]); first | done | rfl | (simp only [List.length_drop, List.length_take]; rfl)) ?_; (with_reducible refine (impl_runesOf.calls k a1 t270 t271 _ ?side1 A4.out).mono ?_); (case side1 => exact Go.Proofs.YtkfbdopfeacnfaaDoor.TabsU.Tabs0.of_below TB.out (by repeat (first | (with_reducible first | exact HB.out | apply below_alloc | apply pw_below_drewN | apply below_drew1) | exact HB.out))); rintro e w9 ⟨v272, rfl, ho0, hb⟩; refine ⟨_, rfl, ?_⟩; have n0_ := Aside0.mk (Kd.R_elder' (by (with_reducible repeat (first | apply Kd.R_alloc | apply Kd.R_drewN | apply Kd.R_drew)); exact HO269.out) (Kd.R_base ho0) hb); have n1_ := Aside0.mk (Kd.R_lower (Kd.R_new' ho0 (Kd.R_lt (by (with_reducible repeat (first | apply Kd.R_alloc | apply Kd.R_drewN | apply Kd.R_drew)); exact HO269.out))) (below_size (by repeat (first | (with_reducible first | exact HB.out | apply below_alloc | apply pw_below_drewN | apply below_drew1) | exact HB.out)))); have n2_ := Aside0.mk (below_step (by repeat (first | (with_reducible first | exact HB.out | apply below_alloc | apply pw_below_drewN | apply below_drew1) | exact HB.out)) hb); clear HO269; clear HB; have HO269 := n0_; have HO273 := n1_; have HB := n2_; clear n0_ n1_ n2_; (try clear hb); (try clear hb2); (try clear hk); (try clear hi); (try clear ho0); obtain ⟨Ao10, co10, eo10⟩ := Kd.R_slice HO269.out; subst eo10) | ((with_reducible refine gate_callee (f := 101) rfl ?_); refine goesL_ (some 20) rfl rfl Tryd.func101 (by kernel_rfl) rfl #[.slice Ao10 t266.length co10] rfl (by (try simp only [List.map_toArray, List.map_cons, List.map_nil]); first | done | rfl | (simp only [List.length_drop, List.length_take]; rfl)) ?_; (with_reducible refine (impl_pairsOf.calls k _ _ t266 t274 _ ?side1 ?side2 A5.out).mono ?_); (case side1 => repeat (first | exact (Kd.R_reads' HO269.out).2.2 | (with_reducible refine Kd.C_alloc ?_ _) | (with_reducible refine Kd.C_drewN ?_ _) | (with_reducible refine Kd.C_drew ?_))); (case side2 => exact (Kd.R_reads' HO269.out).2.1); rintro e w11 ⟨v275, rfl, ho0, hb⟩; refine ⟨_, rfl, ?_⟩; have n0_ := Aside0.mk (Kd.R_elder' (by (with_reducible repeat (first | apply Kd.R_alloc | apply Kd.R_drewN | apply Kd.R_drew)); exact HO269.out) (Kd.R_base ho0) hb); have n1_ := Aside0.mk (Kd.R_elder' (by (with_reducible repeat (first | apply Kd.R_alloc | apply Kd.R_drewN | apply Kd.R_drew)); exact HO273.out) (Kd.R_base ho0) hb); have n2_ := Aside0.mk (Kd.R_lower (Kd.R_new' (Kd.R_new' ho0 (Kd.R_lt (by (with_reducible repeat (first | apply Kd.R_alloc | apply Kd.R_drewN | apply Kd.R_drew)); exact HO269.out))) (Kd.R_lt (by (with_reducible repeat (first | apply Kd.R_alloc | apply Kd.R_drewN | apply Kd.R_drew)); exact HO273.out))) (below_size (by repeat (first | (with_reducible first | exact HB.out | apply below_alloc | apply pw_below_drewN | apply below_drew1) | exact HB.out)))); have n3_ := Aside0.mk (below_step (by repeat (first | (with_reducible first | exact HB.out | apply below_alloc | apply pw_below_drewN | apply below_drew1) | exact HB.out)) hb); clear HO269; clear HO273; clear HB; have HO269 := n0_; have HO273 := n1_; have HO276 := n2_; have HB := n3_; clear n0_ n1_ n2_ n3_; (try clear hb); (try clear hb2); (try clear hk); (try clear hi); (try clear ho0); obtain ⟨Ao12, co12, eo12⟩ := Kd.R_slice HO273.out; subst eo12) | ((with_reducible refine gate_callee (f := 101) rfl ?_); refine goesL_ (some 22) rfl rfl Tryd.func101 (by kernel_rfl) rfl #[.slice Ao12 t270.length co12] rfl (by (try simp only [List.map_toArray, List.map_cons, List.map_nil]); first | done | rfl | (simp only [List.length_drop, List.length_take]; rfl)) ?_; (with_reducible refine (impl_pairsOf.calls k _ _ t270 t277 _ ?side1 ?side2 A6.out).mono ?_); (case side1 => repeat (first | exact (Kd.R_reads' HO273.out).2.2 | (with_reducible refine Kd.C_alloc ?_ _) | (with_reducible refine Kd.C_drewN ?_ _) | (with_reducible refine Kd.C_drew ?_))); (case side2 => exact (Kd.R_reads' HO273.out).2.1); rintro e w13 ⟨v278, rfl, ho0, hb⟩; refine ⟨_, rfl, ?_⟩; have n0_ := Aside0.mk (Kd.R_elder' (by (with_reducible repeat (first | apply Kd.R_alloc | apply Kd.R_drewN | apply Kd.R_drew)); exact HO269.out) (Kd.R_base ho0) hb); have n1_ := Aside0.mk (Kd.R_elder' (by (with_reducible repeat (first | apply Kd.R_alloc | apply Kd.R_drewN | apply Kd.R_drew)); exact HO273.out) (Kd.R_base ho0) hb); have n2_ := Aside0.mk (Kd.R_elder' (by (with_reducible repeat (first | apply Kd.R_alloc | apply Kd.R_drewN | apply Kd.R_drew)); exact HO276.out) (Kd.R_base ho0) hb); have n3_ := Aside0.mk (Kd.R_lower (Kd.R_new' (Kd.R_new' (Kd.R_new' ho0 (Kd.R_lt (by (with_reducible repeat (first | apply Kd.R_alloc | apply Kd.R_drewN | apply Kd.R_drew)); exact HO269.out))) (Kd.R_lt (by (with_reducible repeat (first | apply Kd.R_alloc | apply Kd.R_drewN | apply Kd.R_drew)); exact HO273.out))) (Kd.R_lt (by (with_reducible repeat (first | apply Kd.R_alloc | apply Kd.R_drewN | apply Kd.R_drew)); exact HO276.out))) (below_size (by repeat (first | (with_reducible first | exact HB.out | apply below_alloc | apply pw_below_drewN | apply below_drew1) | exact HB.out)))); have n4_ := Aside0.mk (below_step (by repeat (first | (with_reducible first | exact HB.out | apply below_alloc | apply pw_below_drewN | apply below_drew1) | exact HB.out)) hb); clear HO269; clear HO273; clear HO276; clear HB; have HO269 := n0_; have HO273 := n1_; have HO276 := n2_; have HO279 := n3_; have HB := n4_; clear n0_ n1_ n2_ n3_ n4_; (try clear hb); (try clear hb2); (try clear hk); (try clear hi); (try clear ho0); obtain ⟨Ao14, co14, eo14⟩ := Kd.R_slice HO276.out; subst eo14; obtain ⟨Ao15, co15, eo15⟩ := Kd.R_slice HO279.out; subst eo15) | ((with_reducible refine gate_callee (f := 119) rfl ?_); refine goesL_ (some 23) rfl rfl Tryd.func119 (by kernel_rfl) rfl #[.slice Ao14 t274.length co14, .slice Ao15 t277.length co15] rfl (by (try simp only [List.map_toArray, List.map_cons, List.map_nil]); first | done | rfl | (simp only [List.length_drop, List.length_take]; rfl)) ?_; (with_reducible refine (slices_Compare_int_int.calls k _ _ t274 _ _ t277 t280 _ ?side1 ?side2 ?side3 ?side4 A7.out).mono ?_); (case side1 => repeat (first | exact (Kd.R_reads' HO276.out).2.2 | (with_reducible refine Kd.C_alloc ?_ _) | (with_reducible refine Kd.C_drewN ?_ _) | (with_reducible refine Kd.C_drew ?_))); (case side2 => exact (Kd.R_reads' HO276.out).2.1); (case side3 => repeat (first | exact (Kd.R_reads' HO279.out).2.2 | (with_reducible refine Kd.C_alloc ?_ _) | (with_reducible refine Kd.C_drewN ?_ _) | (with_reducible refine Kd.C_drew ?_))); (case side4 => exact (Kd.R_reads' HO279.out).2.1); rintro e w' ⟨rfl, ⟨nd, rfl⟩⟩; refine ⟨_, rfl, ?_⟩))
 go_ret
 exact ⟨by first | rfl | (simp [errW_none, errW_some] <;> rfl) | (simp [*, errW_none, errW_some] <;> rfl), by repeat (first | (with_reducible first | exact HB.out | apply below_alloc | apply pw_below_drewN | apply below_drew1) | exact HB.out)⟩

/-! ### impl_isPart: function 72 -/
theorem impl_isPart.heap : Kd.Heap k61 := Kd.heap_iso _ (Kd.heap_pair Kd.heap_string (Kd.heap_pair (Kd.heap_int .i64) (Kd.heap_pair (Kd.heap_int .i64) (Kd.heap_pair Kd.heap_string (Kd.heap_int .i64)))))
theorem add0_ad (a : Addr) : a.add 0 = a := by cases a; simp [Addr.add]
/-- Is this part's key wrong here? -/
def impl_isPart.bad (k : Nat) (kind : Int) (key last : ByteArray) (i : Int) : Option Bool :=
 if kind = 7 then (impl_isText.f k key).bind fun t => if t = true then (if 0 < i then (impl_compareKeys.f k last key).bind fun c => some (decide (0 ≤ c)) else some false) else some true
 else if kind = 6 then some (!key.toList.isEmpty) else some false
mutual
def impl_isPart.f : Nat → List S61 → Int → Option Bool
 | 0, _, _ => none
 | k + 1, l, dp => if 6 < dp then some false else if 0 < (l.length : Int) then (impl_isNode.f k (rd_T61 l 0).f0 (rd_T61 l 0).f1 (rd_T61 l 0).f2 (rd_T61 l 0).f3 (rd_T61 l 0).f4).bind fun b => if b = true then (impl_partsOf.f k l).bind fun ps => if ps.length < 1000000 then impl_isPart.l k l dp ps ⟨#[]⟩ 0 else none else some false
  else none
def impl_isPart.l : Nat → List S61 → Int → List (List S61) → ByteArray → Int → Option Bool
 | 0, _, _, _, _, _ => none
 | k + 1, l, dp, ps, last, i => if i < (ps.length : Int) then (if 0 < ((rd_L5 ps i).length : Int) then (impl_isPart.bad k (rd_T61 l 0).f1 (rd_T61 (rd_L5 ps i) 0).f0 last i).bind fun b => if b = true then some false
   else (impl_isPart.f k (rd_L5 ps i) (wrap64 (dp + 1))).bind fun b => if b = true then impl_isPart.l k l dp ps (rd_T61 (rd_L5 ps i) 0).f0 (i + 1) else some false else none) else some true
end
theorem impl_isPart.bad_mono : ∀ kind key last i k, LeO (impl_isPart.bad k kind key last i) (impl_isPart.bad (k + 1) kind key last i) := by
 intro kind key last i k
 unfold impl_isPart.bad
 exact LeO.ite (LeO.bind (impl_isText.mono _ _) fun t => LeO.ite (LeO.ite (LeO.bind (impl_compareKeys.mono _ _ _) fun c => LeO.refl _) (LeO.refl _)) (LeO.refl _)) (LeO.refl _)
theorem impl_isPart.mono_l : ∀ k, (∀ l dp, LeO (impl_isPart.f k l dp) (impl_isPart.f (k + 1) l dp)) ∧ (∀ l dp ps last i, LeO (impl_isPart.l k l dp ps last i) (impl_isPart.l (k + 1) l dp ps last i))
 | 0 => ⟨fun _ _ r h => by simp [impl_isPart.f] at h, fun _ _ _ _ _ r h => by simp [impl_isPart.l] at h⟩
 | k + 1 => by
  obtain ⟨ih0, ih1⟩ := impl_isPart.mono_l k
  refine ⟨?_, ?_⟩
  ·intro l dp
   rw [impl_isPart.f, impl_isPart.f]
   exact LeO.ite (LeO.refl _) (LeO.ite (LeO.bind (impl_isNode.mono _ _ _ _ _ _) fun b => LeO.ite (LeO.bind (impl_partsOf.mono _ _) fun ps => LeO.ite (ih1 _ _ _ _ _) (LeO.refl _)) (LeO.refl _)) (LeO.refl _))
  ·intro l dp ps last i
   rw [impl_isPart.l, impl_isPart.l]
   exact LeO.ite (LeO.ite (LeO.bind (impl_isPart.bad_mono _ _ _ _ _) fun b => LeO.ite (LeO.refl _) (LeO.bind (ih0 _ _) fun b => LeO.ite (ih1 _ _ _ _ _) (LeO.refl _))) (LeO.refl _)) (LeO.refl _)
theorem impl_isPart.mono : ∀ l dp k, LeO (impl_isPart.f k l dp) (impl_isPart.f (k + 1) l dp) := fun l dp k => (impl_isPart.mono_l k).1 l dp
set_option maxHeartbeats 16000000 in
set_option maxRecDepth 100000 in
theorem impl_isPart.calls (k : Nat) : ∀ (A0 : Option Addr) (c0 : Nat) (l : List S61) (dp : Int) (r : Bool) (w : World) (tb : Go.Proofs.YtkfbdopfeacnfaaDoor.TabsU.Tabs0 w) (hr0 : Kd.C k61 w A0 l.length l) (hc0 : l.length ≤ c0) (h : impl_isPart.f k l dp = some r),
  Calls Tryd.prog 72 #[.slice A0 l.length c0, .int .i64 dp] w fun e w' => e = .returned (.bool r) ∧ Below w.heap.size w w' := by
 induction k using Nat.strongRecOn with
 | _ k IH =>
 intro A0 c0 l dp r w tb hr0 hc0 h
 have hu61 := Tryd.underlying61
 have HR0 := Aside0.mk hr0
 have HC0 := Aside0.mk hc0
 have HB := Aside0.mk (Below.refl w.heap.size w)
 have TB := Aside0.mk tb
 have HIH := Aside0.mk IH
 clear hr0 hc0 tb IH
 cases k with
 | zero => rw [impl_isPart.f] at h; cases h
 | succ k =>
 have HIH := Aside0.mk (fun (m : Nat) (hm : m ≤ k) => HIH.out m (Nat.lt_succ_of_le hm))
 obtain ⟨K, hK⟩ : ∃ K, K = k := ⟨_, rfl⟩
 rw [impl_isPart.f] at h
 by_cases c1 : 6 < dp
 ·rw [if_pos c1] at h
  have c1b0 : decide (6 < dp) = true := decide_eq_true c1
  injection h with h
  subst h
  clear c1
  go_enter Tryd.func72, Tryd.ntmps72
  go_wp2
  go_ret
  exact ⟨by first | rfl | (simp; done), HB.out⟩
 rw [if_neg c1] at h
 have c1b0 : decide (6 < dp) = false := decide_eq_false c1
 by_cases c3 : 0 < (l.length : Int)
 rotate_left
 ·rw [if_neg c3] at h; cases h
 rw [if_pos c3] at h
 obtain ⟨ad, e0, hx0, hx1, hx2, hx3, hx4⟩ := at_T61 HR0.out 0 (Int.le_refl _) (by omega)
 cases e0
 have q0 : ((0 : Int) < (l.length : Int)) = True := eq_true c3
 have q1 : (0 < l.length) = True := eq_true (by omega)
 simp only [Int.toNat_zero, Nat.zero_mul, add0_ad] at hx0 hx1 hx2 hx3 hx4
 have X0 := Aside0.mk hx0
 have X1 := Aside0.mk hx1
 have X2 := Aside0.mk hx2
 have X3 := Aside0.mk hx3
 have X4 := Aside0.mk hx4
 obtain ⟨x, hx⟩ : ∃ x, x = rd_T61 l 0 := ⟨_, rfl⟩
 rw [← hx] at h hx0 hx1 hx2 hx3 hx4 X0 X1 X2 X3 X4
 have HX := Aside0.mk hx
 clear hx c1 c3
 obtain ⟨b, hb0, h⟩ := Option.bind_eq_some_iff.mp h
 have HNODE := Aside0.mk hb0
 clear hb0
 cases b with
 | false =>
  rw [if_neg (by decide)] at h
  injection h with h
  subst h
  go_enter Tryd.func72, Tryd.ntmps72
  go_wp2_with (first | (go_at_call 103; refine (impl_isNode.calls k x.f0 x.f1 x.f2 x.f3 x.f4 _ _ (Go.Proofs.YtkfbdopfeacnfaaDoor.TabsU.Tabs0.of_below TB.out HB.out) HNODE.out).mono ?_; rintro e w1 ⟨rfl, hb⟩; have m0_ := Aside0.mk (below_step HB.out hb); clear hx0 hx1 hx2 hx3 hx4 hb; clear HB; have HB := m0_; clear m0_; have hx0 := (HB.out.cell (World.block_lt_of_cell? _ _ X0.out)).trans X0.out; have hx1 := (HB.out.cell (World.block_lt_of_cell? _ _ X1.out)).trans X1.out; have hx2 := (HB.out.cell (World.block_lt_of_cell? _ _ X2.out)).trans X2.out; have hx3 := (HB.out.cell (World.block_lt_of_cell? _ _ X3.out)).trans X3.out; have hx4 := (HB.out.cell (World.block_lt_of_cell? _ _ X4.out)).trans X4.out))
  go_ret
  exact ⟨by first | rfl | (simp; done), HB.out⟩
 | true =>
 rw [if_pos rfl] at h
 obtain ⟨ps, hps, h⟩ := Option.bind_eq_some_iff.mp h
 have HPS := Aside0.mk hps
 clear hps
 by_cases c4 : ps.length < 1000000
 rotate_left
 ·rw [if_neg c4] at h; cases h
 rw [if_pos c4] at h
 have HLEN := Aside0.mk c4
 have HL := Aside0.mk h
 clear h c4
 go_enter Tryd.func72, Tryd.ntmps72
 go_wp2_with (first | (go_at_call 103; refine (impl_isNode.calls k x.f0 x.f1 x.f2 x.f3 x.f4 _ _ (Go.Proofs.YtkfbdopfeacnfaaDoor.TabsU.Tabs0.of_below TB.out HB.out) HNODE.out).mono ?_; rintro e w1 ⟨rfl, hb⟩; have m0_ := Aside0.mk (below_step HB.out hb); clear hx0 hx1 hx2 hx3 hx4 hb; clear HB; have HB := m0_; clear m0_; have hx0 := (HB.out.cell (World.block_lt_of_cell? _ _ X0.out)).trans X0.out; have hx1 := (HB.out.cell (World.block_lt_of_cell? _ _ X1.out)).trans X1.out; have hx2 := (HB.out.cell (World.block_lt_of_cell? _ _ X2.out)).trans X2.out; have hx3 := (HB.out.cell (World.block_lt_of_cell? _ _ X3.out)).trans X3.out; have hx4 := (HB.out.cell (World.block_lt_of_cell? _ _ X4.out)).trans X4.out) | (go_at_call 44; refine (impl_partsOf.calls k (fun k_ => k_ < w.heap.size) _ _ l ps _ (Kd.V_mk HC0.out (Kd.F_below (Kd.C_F impl_isPart.heap HR0.out) HB.out)) HPS.out).mono ?_; rintro e w2 ⟨v281, rfl, ho0, hb⟩; have HN := Aside0.mk (Kd.N_lower (Kd.N_mono (ok' := fun k_ => True) ho0 (fun k_ hk_ => trivial)) (below_size HB.out)); have m0_ := Aside0.mk (below_step HB.out hb); clear hx0 hx1 hx2 hx3 hx4 hb; clear HB; have HB := m0_; clear m0_; have hx0 := (HB.out.cell (World.block_lt_of_cell? _ _ X0.out)).trans X0.out; have hx1 := (HB.out.cell (World.block_lt_of_cell? _ _ X1.out)).trans X1.out; have hx2 := (HB.out.cell (World.block_lt_of_cell? _ _ X2.out)).trans X2.out; have hx3 := (HB.out.cell (World.block_lt_of_cell? _ _ X3.out)).trans X3.out; have hx4 := (HB.out.cell (World.block_lt_of_cell? _ _ X4.out)).trans X4.out; clear ho0; obtain ⟨A2, c2, e2⟩ := Kd.N_slice HN.out; subst e2))
 subst hK
 go_loopg [5, 21] K (fun kq v5 v21 w' => ∃ (last : ByteArray) (i : Int), v5 = .string last ∧ v21 = .int .i64 i ∧ Aside0 (impl_isPart.l kq l dp ps last i = some r ∧ kq ≤ K ∧ 0 ≤ i) ∧ Aside0 (Kd.N (Kd.slice 61 k61) 22 w' w.heap.size (fun _ => True) (.slice A2 ps.length c2) ps) ∧ Aside0 (Below w.heap.size w w'))
 case atStart => exact ⟨⟨#[]⟩, 0, rfl, rfl, ⟨HL.out, Nat.le_refl _, Int.le_refl _⟩, HN, HB⟩
 case round =>
  clear HL HB HN hx0 hx1 hx2 hx3 hx4
  obtain ⟨last, i, rfl, rfl, HL, HN, HB⟩ := hrel
  have hx0 := (HB.out.cell (World.block_lt_of_cell? _ _ X0.out)).trans X0.out
  have hx1 := (HB.out.cell (World.block_lt_of_cell? _ _ X1.out)).trans X1.out
  have hx2 := (HB.out.cell (World.block_lt_of_cell? _ _ X2.out)).trans X2.out
  have hx3 := (HB.out.cell (World.block_lt_of_cell? _ _ X3.out)).trans X3.out
  have hx4 := (HB.out.cell (World.block_lt_of_cell? _ _ X4.out)).trans X4.out
  cases gk with
  | zero => have := HL.out.1; rw [impl_isPart.l] at this; cases this
  | succ m =>
   have h := HL.out.1
   rw [impl_isPart.l, ← HX.out] at h
   by_cases c5 : i < (ps.length : Int)
   rotate_left
   ·rw [if_neg c5] at h
    have c5b0 : decide (i < (ps.length : Int)) = false := decide_eq_false c5
    clear c5
    injection h with h
    subst h
    go_wp2
    go_ret
    exact ⟨by first | rfl | (simp; done), HB.out⟩
   rw [if_pos c5] at h
   have c5b0 : decide (i < (ps.length : Int)) = true := decide_eq_true c5
   have hi0 : (0 ≤ i) = True := eq_true HL.out.2.2
   have hi1 : (i < (ps.length : Int)) = True := eq_true c5
   have hi2 : wrap64 (i + 1) = i + 1 := by unfold wrap64; have := HL.out.2.2; have := HLEN.out; omega
   have hi3 : IntKind.i64.wrap (i + 1) = i + 1 := by rw [IntKind.wrap_i64]; have := HL.out.2.2; have := HLEN.out; omega
   obtain ⟨ad3, A3, c3, e3, hcl, hQC, hQ⟩ := at_L5 (Kd.N_reads' HN.out).2.2 i HL.out.2.2 c5
   cases e3
   obtain ⟨q, hq⟩ : ∃ q, q = rd_L5 ps i := ⟨_, rfl⟩
   rw [← hq] at h hcl hQC hQ
   by_cases c6 : 0 < (q.length : Int)
   rotate_left
   ·rw [if_neg c6] at h; cases h
   rw [if_pos c6] at h
   obtain ⟨ad4, e4, hy0, _⟩ := at_T61 hQ 0 (Int.le_refl _) (by omega)
   cases e4
   simp only [Int.toNat_zero, Nat.zero_mul, add0_ad] at hy0
   obtain ⟨p, hp⟩ : ∃ p, p = rd_T61 q 0 := ⟨_, rfl⟩
   rw [← hp] at h hy0
   have q2 : ((0 : Int) < (q.length : Int)) = True := eq_true c6
   have q3 : (0 < q.length) = True := eq_true (by omega)
   have HP := Aside0.mk hQ
   have HQC := Aside0.mk hQC
   have HQ_ := Aside0.mk hq
   have HP_ := Aside0.mk hp
   clear c5 c6 hQ hQC hq hp
   obtain ⟨bad, hbad, h⟩ := Option.bind_eq_some_iff.mp h
   unfold impl_isPart.bad at hbad
   by_cases c7 : x.f1 = 7
   ·rw [if_pos c7] at hbad
    have c7b0 : (x.f1 == 7) = true := beq_iff_eq.mpr c7
    have c7b1 : (x.f1 == 6) = false := beq_eq_false_iff_ne.mpr (by omega)
    clear c7
    obtain ⟨t, ht, hbad⟩ := Option.bind_eq_some_iff.mp hbad
    have HTX := Aside0.mk ht
    clear ht
    cases t with
    | false =>
     rw [if_neg (by decide)] at hbad
     injection hbad with hbad
     subst hbad
     rw [if_pos rfl] at h
     injection h with h
     subst h
     go_wp2_with (first | (go_at_call 104; refine (impl_isText.calls m p.f0 _ _ (Go.Proofs.YtkfbdopfeacnfaaDoor.TabsU.Tabs0.of_below TB.out HB.out) HTX.out).mono ?_; rintro e w4 ⟨rfl, hb⟩; have m0_ := Aside0.mk (below_step HB.out hb); have m1_ := Aside0.mk (Kd.N_below HN.out hb); have m2_ := Aside0.mk (Kd.C_below HP.out hb); clear hx0 hx1 hx2 hx3 hx4 hb; clear HB HN HP; (try clear hcl); have HB := m0_; have HN := m1_; have HP := m2_; clear m0_ m1_ m2_; have hx0 := (HB.out.cell (World.block_lt_of_cell? _ _ X0.out)).trans X0.out; have hx1 := (HB.out.cell (World.block_lt_of_cell? _ _ X1.out)).trans X1.out; have hx2 := (HB.out.cell (World.block_lt_of_cell? _ _ X2.out)).trans X2.out; have hx3 := (HB.out.cell (World.block_lt_of_cell? _ _ X3.out)).trans X3.out; have hx4 := (HB.out.cell (World.block_lt_of_cell? _ _ X4.out)).trans X4.out))
     go_ret
     exact ⟨by first | rfl | (simp; done), HB.out⟩
    | true =>
     rw [if_pos rfl] at hbad
     by_cases c8 : 0 < i
     ·rw [if_pos c8] at hbad
      have c8b0 : decide (0 < i) = true := decide_eq_true c8
      clear c8
      obtain ⟨c, hc, hbad⟩ := Option.bind_eq_some_iff.mp hbad
      have HCM := Aside0.mk hc
      clear hc
      injection hbad with hbad
      cases bad with
      | true =>
       rw [if_pos rfl] at h
       injection h with h
       subst h
       go_wp2_with (first | (go_at_call 104; refine (impl_isText.calls m p.f0 _ _ (Go.Proofs.YtkfbdopfeacnfaaDoor.TabsU.Tabs0.of_below TB.out HB.out) HTX.out).mono ?_; rintro e w4 ⟨rfl, hb⟩; have m0_ := Aside0.mk (below_step HB.out hb); have m1_ := Aside0.mk (Kd.N_below HN.out hb); have m2_ := Aside0.mk (Kd.C_below HP.out hb); clear hx0 hx1 hx2 hx3 hx4 hb; clear HB HN HP; (try clear hcl); have HB := m0_; have HN := m1_; have HP := m2_; clear m0_ m1_ m2_; have hx0 := (HB.out.cell (World.block_lt_of_cell? _ _ X0.out)).trans X0.out; have hx1 := (HB.out.cell (World.block_lt_of_cell? _ _ X1.out)).trans X1.out; have hx2 := (HB.out.cell (World.block_lt_of_cell? _ _ X2.out)).trans X2.out; have hx3 := (HB.out.cell (World.block_lt_of_cell? _ _ X3.out)).trans X3.out; have hx4 := (HB.out.cell (World.block_lt_of_cell? _ _ X4.out)).trans X4.out) | (go_at_call 85; refine (impl_compareKeys.calls m last p.f0 _ _ (Go.Proofs.YtkfbdopfeacnfaaDoor.TabsU.Tabs0.of_below TB.out HB.out) HCM.out).mono ?_; rintro e w5 ⟨rfl, hb⟩; have m0_ := Aside0.mk (below_step HB.out hb); have m1_ := Aside0.mk (Kd.N_below HN.out hb); have m2_ := Aside0.mk (Kd.C_below HP.out hb); clear hx0 hx1 hx2 hx3 hx4 hb; clear HB HN HP; have HB := m0_; have HN := m1_; have HP := m2_; clear m0_ m1_ m2_; have hx0 := (HB.out.cell (World.block_lt_of_cell? _ _ X0.out)).trans X0.out; have hx1 := (HB.out.cell (World.block_lt_of_cell? _ _ X1.out)).trans X1.out; have hx2 := (HB.out.cell (World.block_lt_of_cell? _ _ X2.out)).trans X2.out; have hx3 := (HB.out.cell (World.block_lt_of_cell? _ _ X3.out)).trans X3.out; have hx4 := (HB.out.cell (World.block_lt_of_cell? _ _ X4.out)).trans X4.out))
       go_ret
       exact ⟨by first | rfl | (simp; done), HB.out⟩
      | false =>
       rw [if_neg (by decide)] at h
       obtain ⟨b, hself, h⟩ := Option.bind_eq_some_iff.mp h
       have HSELF := Aside0.mk (fun w_ h_ t_ => HIH.out m (by have := HL.out.2.1; omega) (some ad4) c3 q (wrap64 (dp + 1)) b w_ t_ h_ HQC.out hself)
       clear hself
       cases b with
       | false =>
        rw [if_neg (by decide)] at h
        injection h with h
        subst h
        go_wp2_with (first | (go_at_call 104; refine (impl_isText.calls m p.f0 _ _ (Go.Proofs.YtkfbdopfeacnfaaDoor.TabsU.Tabs0.of_below TB.out HB.out) HTX.out).mono ?_; rintro e w4 ⟨rfl, hb⟩; have m0_ := Aside0.mk (below_step HB.out hb); have m1_ := Aside0.mk (Kd.N_below HN.out hb); have m2_ := Aside0.mk (Kd.C_below HP.out hb); clear hx0 hx1 hx2 hx3 hx4 hb; clear HB HN HP; (try clear hcl); have HB := m0_; have HN := m1_; have HP := m2_; clear m0_ m1_ m2_; have hx0 := (HB.out.cell (World.block_lt_of_cell? _ _ X0.out)).trans X0.out; have hx1 := (HB.out.cell (World.block_lt_of_cell? _ _ X1.out)).trans X1.out; have hx2 := (HB.out.cell (World.block_lt_of_cell? _ _ X2.out)).trans X2.out; have hx3 := (HB.out.cell (World.block_lt_of_cell? _ _ X3.out)).trans X3.out; have hx4 := (HB.out.cell (World.block_lt_of_cell? _ _ X4.out)).trans X4.out) | (go_at_call 85; refine (impl_compareKeys.calls m last p.f0 _ _ (Go.Proofs.YtkfbdopfeacnfaaDoor.TabsU.Tabs0.of_below TB.out HB.out) HCM.out).mono ?_; rintro e w5 ⟨rfl, hb⟩; have m0_ := Aside0.mk (below_step HB.out hb); have m1_ := Aside0.mk (Kd.N_below HN.out hb); have m2_ := Aside0.mk (Kd.C_below HP.out hb); clear hx0 hx1 hx2 hx3 hx4 hb; clear HB HN HP; have HB := m0_; have HN := m1_; have HP := m2_; clear m0_ m1_ m2_; have hx0 := (HB.out.cell (World.block_lt_of_cell? _ _ X0.out)).trans X0.out; have hx1 := (HB.out.cell (World.block_lt_of_cell? _ _ X1.out)).trans X1.out; have hx2 := (HB.out.cell (World.block_lt_of_cell? _ _ X2.out)).trans X2.out; have hx3 := (HB.out.cell (World.block_lt_of_cell? _ _ X3.out)).trans X3.out; have hx4 := (HB.out.cell (World.block_lt_of_cell? _ _ X4.out)).trans X4.out) | ((with_reducible refine gate_callee (f := 72) rfl ?_); refine goesL_ (some 65) rfl rfl Tryd.func72 (by kernel_rfl) rfl #[.slice (some ad4) q.length c3, .int .i64 (wrap64 (dp + 1))] rfl (by (try simp only [List.map_toArray, List.map_cons, List.map_nil]); first | done | rfl) ?_; (refine (HSELF.out _ HP.out (Go.Proofs.YtkfbdopfeacnfaaDoor.TabsU.Tabs0.of_below TB.out HB.out)).mono ?_); rintro e w6 ⟨rfl, hb⟩; refine ⟨_, rfl, ?_⟩; have m0_ := Aside0.mk (below_step HB.out hb); have m1_ := Aside0.mk (Kd.N_below HN.out hb); have m2_ := Aside0.mk (Kd.C_below HP.out hb); clear hx0 hx1 hx2 hx3 hx4 hb; clear HB HN HP; have HB := m0_; have HN := m1_; have HP := m2_; clear m0_ m1_ m2_; have hx0 := (HB.out.cell (World.block_lt_of_cell? _ _ X0.out)).trans X0.out; have hx1 := (HB.out.cell (World.block_lt_of_cell? _ _ X1.out)).trans X1.out; have hx2 := (HB.out.cell (World.block_lt_of_cell? _ _ X2.out)).trans X2.out; have hx3 := (HB.out.cell (World.block_lt_of_cell? _ _ X3.out)).trans X3.out; have hx4 := (HB.out.cell (World.block_lt_of_cell? _ _ X4.out)).trans X4.out))
        go_ret
        exact ⟨by first | rfl | (simp; done), HB.out⟩
       | true =>
        rw [if_pos rfl] at h
        have HL2 := Aside0.mk (show impl_isPart.l m l dp ps p.f0 (i + 1) = some r ∧ m ≤ K ∧ 0 ≤ i + 1 from ⟨h, by have := HL.out.2.1; omega, by have := HL.out.2.2; omega⟩)
        clear h
        go_wp2_with (first | (go_at_call 104; refine (impl_isText.calls m p.f0 _ _ (Go.Proofs.YtkfbdopfeacnfaaDoor.TabsU.Tabs0.of_below TB.out HB.out) HTX.out).mono ?_; rintro e w4 ⟨rfl, hb⟩; have m0_ := Aside0.mk (below_step HB.out hb); have m1_ := Aside0.mk (Kd.N_below HN.out hb); have m2_ := Aside0.mk (Kd.C_below HP.out hb); clear hx0 hx1 hx2 hx3 hx4 hb; clear HB HN HP; (try clear hcl); have HB := m0_; have HN := m1_; have HP := m2_; clear m0_ m1_ m2_; have hx0 := (HB.out.cell (World.block_lt_of_cell? _ _ X0.out)).trans X0.out; have hx1 := (HB.out.cell (World.block_lt_of_cell? _ _ X1.out)).trans X1.out; have hx2 := (HB.out.cell (World.block_lt_of_cell? _ _ X2.out)).trans X2.out; have hx3 := (HB.out.cell (World.block_lt_of_cell? _ _ X3.out)).trans X3.out; have hx4 := (HB.out.cell (World.block_lt_of_cell? _ _ X4.out)).trans X4.out) | (go_at_call 85; refine (impl_compareKeys.calls m last p.f0 _ _ (Go.Proofs.YtkfbdopfeacnfaaDoor.TabsU.Tabs0.of_below TB.out HB.out) HCM.out).mono ?_; rintro e w5 ⟨rfl, hb⟩; have m0_ := Aside0.mk (below_step HB.out hb); have m1_ := Aside0.mk (Kd.N_below HN.out hb); have m2_ := Aside0.mk (Kd.C_below HP.out hb); clear hx0 hx1 hx2 hx3 hx4 hb; clear HB HN HP; have HB := m0_; have HN := m1_; have HP := m2_; clear m0_ m1_ m2_; have hx0 := (HB.out.cell (World.block_lt_of_cell? _ _ X0.out)).trans X0.out; have hx1 := (HB.out.cell (World.block_lt_of_cell? _ _ X1.out)).trans X1.out; have hx2 := (HB.out.cell (World.block_lt_of_cell? _ _ X2.out)).trans X2.out; have hx3 := (HB.out.cell (World.block_lt_of_cell? _ _ X3.out)).trans X3.out; have hx4 := (HB.out.cell (World.block_lt_of_cell? _ _ X4.out)).trans X4.out) | ((with_reducible refine gate_callee (f := 72) rfl ?_); refine goesL_ (some 65) rfl rfl Tryd.func72 (by kernel_rfl) rfl #[.slice (some ad4) q.length c3, .int .i64 (wrap64 (dp + 1))] rfl (by (try simp only [List.map_toArray, List.map_cons, List.map_nil]); first | done | rfl) ?_; (refine (HSELF.out _ HP.out (Go.Proofs.YtkfbdopfeacnfaaDoor.TabsU.Tabs0.of_below TB.out HB.out)).mono ?_); rintro e w6 ⟨rfl, hb⟩; refine ⟨_, rfl, ?_⟩; have m0_ := Aside0.mk (below_step HB.out hb); have m1_ := Aside0.mk (Kd.N_below HN.out hb); have m2_ := Aside0.mk (Kd.C_below HP.out hb); clear hx0 hx1 hx2 hx3 hx4 hb; clear HB HN HP; have HB := m0_; have HN := m1_; have HP := m2_; clear m0_ m1_ m2_; have hx0 := (HB.out.cell (World.block_lt_of_cell? _ _ X0.out)).trans X0.out; have hx1 := (HB.out.cell (World.block_lt_of_cell? _ _ X1.out)).trans X1.out; have hx2 := (HB.out.cell (World.block_lt_of_cell? _ _ X2.out)).trans X2.out; have hx3 := (HB.out.cell (World.block_lt_of_cell? _ _ X3.out)).trans X3.out; have hx4 := (HB.out.cell (World.block_lt_of_cell? _ _ X4.out)).trans X4.out))
        go_roundg m
        case measure => have := HL2.out.2.1; omega
        case rel => exact ⟨p.f0, i + 1, by first | rfl | (simp; done), by first | rfl | (rw [hi2]; done) | (rw [hi3]; done), HL2, HN, HB⟩
     ·rw [if_neg c8] at hbad
      have c8b0 : decide (0 < i) = false := decide_eq_false c8
      clear c8
      injection hbad with hbad
      subst hbad
      rw [if_neg (by decide)] at h
      obtain ⟨b, hself, h⟩ := Option.bind_eq_some_iff.mp h
      have HSELF := Aside0.mk (fun w_ h_ t_ => HIH.out m (by have := HL.out.2.1; omega) (some ad4) c3 q (wrap64 (dp + 1)) b w_ t_ h_ HQC.out hself)
      clear hself
      cases b with
      | false =>
       rw [if_neg (by decide)] at h
       injection h with h
       subst h
       go_wp2_with (first | (go_at_call 104; refine (impl_isText.calls m p.f0 _ _ (Go.Proofs.YtkfbdopfeacnfaaDoor.TabsU.Tabs0.of_below TB.out HB.out) HTX.out).mono ?_; rintro e w4 ⟨rfl, hb⟩; have m0_ := Aside0.mk (below_step HB.out hb); have m1_ := Aside0.mk (Kd.N_below HN.out hb); have m2_ := Aside0.mk (Kd.C_below HP.out hb); clear hx0 hx1 hx2 hx3 hx4 hb; clear HB HN HP; (try clear hcl); have HB := m0_; have HN := m1_; have HP := m2_; clear m0_ m1_ m2_; have hx0 := (HB.out.cell (World.block_lt_of_cell? _ _ X0.out)).trans X0.out; have hx1 := (HB.out.cell (World.block_lt_of_cell? _ _ X1.out)).trans X1.out; have hx2 := (HB.out.cell (World.block_lt_of_cell? _ _ X2.out)).trans X2.out; have hx3 := (HB.out.cell (World.block_lt_of_cell? _ _ X3.out)).trans X3.out; have hx4 := (HB.out.cell (World.block_lt_of_cell? _ _ X4.out)).trans X4.out) | ((with_reducible refine gate_callee (f := 72) rfl ?_); refine goesL_ (some 65) rfl rfl Tryd.func72 (by kernel_rfl) rfl #[.slice (some ad4) q.length c3, .int .i64 (wrap64 (dp + 1))] rfl (by (try simp only [List.map_toArray, List.map_cons, List.map_nil]); first | done | rfl) ?_; (refine (HSELF.out _ HP.out (Go.Proofs.YtkfbdopfeacnfaaDoor.TabsU.Tabs0.of_below TB.out HB.out)).mono ?_); rintro e w6 ⟨rfl, hb⟩; refine ⟨_, rfl, ?_⟩; have m0_ := Aside0.mk (below_step HB.out hb); have m1_ := Aside0.mk (Kd.N_below HN.out hb); have m2_ := Aside0.mk (Kd.C_below HP.out hb); clear hx0 hx1 hx2 hx3 hx4 hb; clear HB HN HP; have HB := m0_; have HN := m1_; have HP := m2_; clear m0_ m1_ m2_; have hx0 := (HB.out.cell (World.block_lt_of_cell? _ _ X0.out)).trans X0.out; have hx1 := (HB.out.cell (World.block_lt_of_cell? _ _ X1.out)).trans X1.out; have hx2 := (HB.out.cell (World.block_lt_of_cell? _ _ X2.out)).trans X2.out; have hx3 := (HB.out.cell (World.block_lt_of_cell? _ _ X3.out)).trans X3.out; have hx4 := (HB.out.cell (World.block_lt_of_cell? _ _ X4.out)).trans X4.out))
       go_ret
       exact ⟨by first | rfl | (simp; done), HB.out⟩
      | true =>
       rw [if_pos rfl] at h
       have HL2 := Aside0.mk (show impl_isPart.l m l dp ps p.f0 (i + 1) = some r ∧ m ≤ K ∧ 0 ≤ i + 1 from ⟨h, by have := HL.out.2.1; omega, by have := HL.out.2.2; omega⟩)
       clear h
       go_wp2_with (first | (go_at_call 104; refine (impl_isText.calls m p.f0 _ _ (Go.Proofs.YtkfbdopfeacnfaaDoor.TabsU.Tabs0.of_below TB.out HB.out) HTX.out).mono ?_; rintro e w4 ⟨rfl, hb⟩; have m0_ := Aside0.mk (below_step HB.out hb); have m1_ := Aside0.mk (Kd.N_below HN.out hb); have m2_ := Aside0.mk (Kd.C_below HP.out hb); clear hx0 hx1 hx2 hx3 hx4 hb; clear HB HN HP; (try clear hcl); have HB := m0_; have HN := m1_; have HP := m2_; clear m0_ m1_ m2_; have hx0 := (HB.out.cell (World.block_lt_of_cell? _ _ X0.out)).trans X0.out; have hx1 := (HB.out.cell (World.block_lt_of_cell? _ _ X1.out)).trans X1.out; have hx2 := (HB.out.cell (World.block_lt_of_cell? _ _ X2.out)).trans X2.out; have hx3 := (HB.out.cell (World.block_lt_of_cell? _ _ X3.out)).trans X3.out; have hx4 := (HB.out.cell (World.block_lt_of_cell? _ _ X4.out)).trans X4.out) | ((with_reducible refine gate_callee (f := 72) rfl ?_); refine goesL_ (some 65) rfl rfl Tryd.func72 (by kernel_rfl) rfl #[.slice (some ad4) q.length c3, .int .i64 (wrap64 (dp + 1))] rfl (by (try simp only [List.map_toArray, List.map_cons, List.map_nil]); first | done | rfl) ?_; (refine (HSELF.out _ HP.out (Go.Proofs.YtkfbdopfeacnfaaDoor.TabsU.Tabs0.of_below TB.out HB.out)).mono ?_); rintro e w6 ⟨rfl, hb⟩; refine ⟨_, rfl, ?_⟩; have m0_ := Aside0.mk (below_step HB.out hb); have m1_ := Aside0.mk (Kd.N_below HN.out hb); have m2_ := Aside0.mk (Kd.C_below HP.out hb); clear hx0 hx1 hx2 hx3 hx4 hb; clear HB HN HP; have HB := m0_; have HN := m1_; have HP := m2_; clear m0_ m1_ m2_; have hx0 := (HB.out.cell (World.block_lt_of_cell? _ _ X0.out)).trans X0.out; have hx1 := (HB.out.cell (World.block_lt_of_cell? _ _ X1.out)).trans X1.out; have hx2 := (HB.out.cell (World.block_lt_of_cell? _ _ X2.out)).trans X2.out; have hx3 := (HB.out.cell (World.block_lt_of_cell? _ _ X3.out)).trans X3.out; have hx4 := (HB.out.cell (World.block_lt_of_cell? _ _ X4.out)).trans X4.out))
       go_roundg m
       case measure => have := HL2.out.2.1; omega
       case rel => exact ⟨p.f0, i + 1, by first | rfl | (simp; done), by first | rfl | (rw [hi2]; done) | (rw [hi3]; done), HL2, HN, HB⟩
   ·rw [if_neg c7] at hbad
    have c7b0 : (x.f1 == 7) = false := beq_eq_false_iff_ne.mpr c7
    clear c7
    by_cases c8 : x.f1 = 6
    ·rw [if_pos c8] at hbad
     have c8b0 : (x.f1 == 6) = true := beq_iff_eq.mpr c8
     clear c8
     injection hbad with hbad
     cases c9 : p.f0.toList.isEmpty with
     | true =>
      have hb1 : bad = false := by rw [← hbad, c9]; rfl
      have c9b0 : (p.f0.toList == ([] : List UInt8)) = true := by rw [← c9]; cases p.f0.toList <;> rfl
      have c9b1 : (p.f0.toList != ([] : List UInt8)) = false := by simp only [bne, c9b0]; rfl
      clear hbad
      subst hb1
      rw [if_neg (by decide)] at h
      obtain ⟨b, hself, h⟩ := Option.bind_eq_some_iff.mp h
      have HSELF := Aside0.mk (fun w_ h_ t_ => HIH.out m (by have := HL.out.2.1; omega) (some ad4) c3 q (wrap64 (dp + 1)) b w_ t_ h_ HQC.out hself)
      clear hself
      cases b with
      | false =>
       rw [if_neg (by decide)] at h
       injection h with h
       subst h
       go_wp2_with (first | ((with_reducible refine gate_callee (f := 72) rfl ?_); refine goesL_ (some 65) rfl rfl Tryd.func72 (by kernel_rfl) rfl #[.slice (some ad4) q.length c3, .int .i64 (wrap64 (dp + 1))] rfl (by (try simp only [List.map_toArray, List.map_cons, List.map_nil]); first | done | rfl) ?_; (refine (HSELF.out _ HP.out (Go.Proofs.YtkfbdopfeacnfaaDoor.TabsU.Tabs0.of_below TB.out HB.out)).mono ?_); rintro e w6 ⟨rfl, hb⟩; refine ⟨_, rfl, ?_⟩; have m0_ := Aside0.mk (below_step HB.out hb); have m1_ := Aside0.mk (Kd.N_below HN.out hb); have m2_ := Aside0.mk (Kd.C_below HP.out hb); clear hx0 hx1 hx2 hx3 hx4 hb; clear HB HN HP; have HB := m0_; have HN := m1_; have HP := m2_; clear m0_ m1_ m2_; have hx0 := (HB.out.cell (World.block_lt_of_cell? _ _ X0.out)).trans X0.out; have hx1 := (HB.out.cell (World.block_lt_of_cell? _ _ X1.out)).trans X1.out; have hx2 := (HB.out.cell (World.block_lt_of_cell? _ _ X2.out)).trans X2.out; have hx3 := (HB.out.cell (World.block_lt_of_cell? _ _ X3.out)).trans X3.out; have hx4 := (HB.out.cell (World.block_lt_of_cell? _ _ X4.out)).trans X4.out))
       go_ret
       exact ⟨by first | rfl | (simp; done), HB.out⟩
      | true =>
       rw [if_pos rfl] at h
       have HL2 := Aside0.mk (show impl_isPart.l m l dp ps p.f0 (i + 1) = some r ∧ m ≤ K ∧ 0 ≤ i + 1 from ⟨h, by have := HL.out.2.1; omega, by have := HL.out.2.2; omega⟩)
       clear h
       go_wp2_with (first | ((with_reducible refine gate_callee (f := 72) rfl ?_); refine goesL_ (some 65) rfl rfl Tryd.func72 (by kernel_rfl) rfl #[.slice (some ad4) q.length c3, .int .i64 (wrap64 (dp + 1))] rfl (by (try simp only [List.map_toArray, List.map_cons, List.map_nil]); first | done | rfl) ?_; (refine (HSELF.out _ HP.out (Go.Proofs.YtkfbdopfeacnfaaDoor.TabsU.Tabs0.of_below TB.out HB.out)).mono ?_); rintro e w6 ⟨rfl, hb⟩; refine ⟨_, rfl, ?_⟩; have m0_ := Aside0.mk (below_step HB.out hb); have m1_ := Aside0.mk (Kd.N_below HN.out hb); have m2_ := Aside0.mk (Kd.C_below HP.out hb); clear hx0 hx1 hx2 hx3 hx4 hb; clear HB HN HP; have HB := m0_; have HN := m1_; have HP := m2_; clear m0_ m1_ m2_; have hx0 := (HB.out.cell (World.block_lt_of_cell? _ _ X0.out)).trans X0.out; have hx1 := (HB.out.cell (World.block_lt_of_cell? _ _ X1.out)).trans X1.out; have hx2 := (HB.out.cell (World.block_lt_of_cell? _ _ X2.out)).trans X2.out; have hx3 := (HB.out.cell (World.block_lt_of_cell? _ _ X3.out)).trans X3.out; have hx4 := (HB.out.cell (World.block_lt_of_cell? _ _ X4.out)).trans X4.out))
       go_roundg m
       case measure => have := HL2.out.2.1; omega
       case rel => exact ⟨p.f0, i + 1, by first | rfl | (simp; done), by first | rfl | (rw [hi2]; done) | (rw [hi3]; done), HL2, HN, HB⟩
     | false =>
      have hb1 : bad = true := by rw [← hbad, c9]; rfl
      have c9b0 : (p.f0.toList == ([] : List UInt8)) = false := by rw [← c9]; cases p.f0.toList <;> rfl
      have c9b1 : (p.f0.toList != ([] : List UInt8)) = true := by simp only [bne, c9b0]; rfl
      clear hbad
      subst hb1
      rw [if_pos rfl] at h
      injection h with h
      subst h
      go_wp2
      go_ret
      exact ⟨by first | rfl | (simp; done), HB.out⟩
    ·rw [if_neg c8] at hbad
     have c8b0 : (x.f1 == 6) = false := beq_eq_false_iff_ne.mpr c8
     clear c8
     injection hbad with hbad
     subst hbad
     rw [if_neg (by decide)] at h
     obtain ⟨b, hself, h⟩ := Option.bind_eq_some_iff.mp h
     have HSELF := Aside0.mk (fun w_ h_ t_ => HIH.out m (by have := HL.out.2.1; omega) (some ad4) c3 q (wrap64 (dp + 1)) b w_ t_ h_ HQC.out hself)
     clear hself
     cases b with
     | false =>
      rw [if_neg (by decide)] at h
      injection h with h
      subst h
      go_wp2_with (first | ((with_reducible refine gate_callee (f := 72) rfl ?_); refine goesL_ (some 65) rfl rfl Tryd.func72 (by kernel_rfl) rfl #[.slice (some ad4) q.length c3, .int .i64 (wrap64 (dp + 1))] rfl (by (try simp only [List.map_toArray, List.map_cons, List.map_nil]); first | done | rfl) ?_; (refine (HSELF.out _ HP.out (Go.Proofs.YtkfbdopfeacnfaaDoor.TabsU.Tabs0.of_below TB.out HB.out)).mono ?_); rintro e w6 ⟨rfl, hb⟩; refine ⟨_, rfl, ?_⟩; have m0_ := Aside0.mk (below_step HB.out hb); have m1_ := Aside0.mk (Kd.N_below HN.out hb); have m2_ := Aside0.mk (Kd.C_below HP.out hb); clear hx0 hx1 hx2 hx3 hx4 hb; clear HB HN HP; have HB := m0_; have HN := m1_; have HP := m2_; clear m0_ m1_ m2_; have hx0 := (HB.out.cell (World.block_lt_of_cell? _ _ X0.out)).trans X0.out; have hx1 := (HB.out.cell (World.block_lt_of_cell? _ _ X1.out)).trans X1.out; have hx2 := (HB.out.cell (World.block_lt_of_cell? _ _ X2.out)).trans X2.out; have hx3 := (HB.out.cell (World.block_lt_of_cell? _ _ X3.out)).trans X3.out; have hx4 := (HB.out.cell (World.block_lt_of_cell? _ _ X4.out)).trans X4.out))
      go_ret
      exact ⟨by first | rfl | (simp; done), HB.out⟩
     | true =>
      rw [if_pos rfl] at h
      have HL2 := Aside0.mk (show impl_isPart.l m l dp ps p.f0 (i + 1) = some r ∧ m ≤ K ∧ 0 ≤ i + 1 from ⟨h, by have := HL.out.2.1; omega, by have := HL.out.2.2; omega⟩)
      clear h
      go_wp2_with (first | ((with_reducible refine gate_callee (f := 72) rfl ?_); refine goesL_ (some 65) rfl rfl Tryd.func72 (by kernel_rfl) rfl #[.slice (some ad4) q.length c3, .int .i64 (wrap64 (dp + 1))] rfl (by (try simp only [List.map_toArray, List.map_cons, List.map_nil]); first | done | rfl) ?_; (refine (HSELF.out _ HP.out (Go.Proofs.YtkfbdopfeacnfaaDoor.TabsU.Tabs0.of_below TB.out HB.out)).mono ?_); rintro e w6 ⟨rfl, hb⟩; refine ⟨_, rfl, ?_⟩; have m0_ := Aside0.mk (below_step HB.out hb); have m1_ := Aside0.mk (Kd.N_below HN.out hb); have m2_ := Aside0.mk (Kd.C_below HP.out hb); clear hx0 hx1 hx2 hx3 hx4 hb; clear HB HN HP; have HB := m0_; have HN := m1_; have HP := m2_; clear m0_ m1_ m2_; have hx0 := (HB.out.cell (World.block_lt_of_cell? _ _ X0.out)).trans X0.out; have hx1 := (HB.out.cell (World.block_lt_of_cell? _ _ X1.out)).trans X1.out; have hx2 := (HB.out.cell (World.block_lt_of_cell? _ _ X2.out)).trans X2.out; have hx3 := (HB.out.cell (World.block_lt_of_cell? _ _ X3.out)).trans X3.out; have hx4 := (HB.out.cell (World.block_lt_of_cell? _ _ X4.out)).trans X4.out))
      go_roundg m
      case measure => have := HL2.out.2.1; omega
      case rel => exact ⟨p.f0, i + 1, by first | rfl | (simp; done), by first | rfl | (rw [hi2]; done) | (rw [hi3]; done), HL2, HN, HB⟩

/-! ### impl_isValue: function 41 -/
def impl_isValue.f (k : Nat) (l0 : List (S61)) : Option (Bool) := (impl_within.f (l0.length : Int) 1 40).bind fun t281 => (if t281 = true then ((impl_sizeOf.f k l0).bind fun t282 => (if t282 = (l0.length : Int) then (if 0 < (l0.length : Int) then (if ((rd_T61 l0 0).f0).toList = ([] : List UInt8) then ((impl_isPart.f k l0 1).bind fun t284 => (some t284)) else (some false)) else (none)) else (some false))) else (some false))
theorem impl_isValue.mono : ∀ a0 k, LeO (impl_isValue.f k a0) (impl_isValue.f (k + 1) a0) := by
 intro a0 k
 unfold impl_isValue.f
 repeat' first
   | (with_reducible exact impl_isPart.mono _ _ _)
   | (with_reducible exact impl_sizeOf.mono _ _)
   | (with_reducible exact LeO.refl _)
   | (with_reducible exact LeO.none _)
   | (with_reducible refine LeO.ite ?_ ?_)
   | (with_reducible refine LeO.bind ?_ (fun _ => ?_))
   | exact impl_isPart.mono _ _ _
   | exact impl_sizeOf.mono _ _
   | exact LeO.none _
   | refine LeO.ite ?_ ?_
   | refine LeO.bind ?_ (fun _ => ?_)
set_option maxHeartbeats 8000000 in
set_option maxRecDepth 100000 in
theorem impl_isValue.calls (k : Nat) (A0 : Option Addr) (c0 : Nat) (l0 : List (S61)) (r : Bool) (w : World) (tb : Go.Proofs.YtkfbdopfeacnfaaDoor.TabsU.Tabs0 w) (hr0 : Kd.C k61 w A0 l0.length l0) (hc0 : l0.length ≤ c0) (h : impl_isValue.f k l0 = some r) :
  Calls Tryd.prog 41 #[.slice A0 l0.length c0] w fun e w' => e = .returned (.bool r) ∧ Below w.heap.size w w' := by
 have TB := Aside0.mk tb
 clear tb
 have HR0 := Aside0.mk hr0
 have HC0 := Aside0.mk hc0
 clear hr0 hc0
 have HB := Aside0.mk (Below.refl w.heap.size w)
 have H : ((impl_within.f (l0.length : Int) 1 40).bind fun t281 => (if t281 = true then ((impl_sizeOf.f k l0).bind fun t282 => (if t282 = (l0.length : Int) then (if 0 < (l0.length : Int) then (if ((rd_T61 l0 0).f0).toList = ([] : List UInt8) then ((impl_isPart.f k l0 1).bind fun t284 => (some t284)) else (some false)) else (none)) else (some false))) else (some false))) = some r := h
 clear h
 replace H := Option.bind_eq_some_iff.mp H
 obtain ⟨t281, A20, H⟩ := H
 replace H : (if t281 = true then ((impl_sizeOf.f k l0).bind fun t282 => (if t282 = (l0.length : Int) then (if 0 < (l0.length : Int) then (if ((rd_T61 l0 0).f0).toList = ([] : List UInt8) then ((impl_isPart.f k l0 1).bind fun t284 => (some t284)) else (some false)) else (none)) else (some false))) else (some false)) = some r := H
 have A2 := Aside0.mk A20
 clear A20
 by_cases c3 : t281 = true
 ·subst c3
  have H1 : ((impl_sizeOf.f k l0).bind fun t282 => (if t282 = (l0.length : Int) then (if 0 < (l0.length : Int) then (if ((rd_T61 l0 0).f0).toList = ([] : List UInt8) then ((impl_isPart.f k l0 1).bind fun t284 => (some t284)) else (some false)) else (none)) else (some false))) = some r := by rw [if_pos rfl] at H; exact H
  clear H
  have H := H1
  clear H1
  replace H := Option.bind_eq_some_iff.mp H
  obtain ⟨t282, A40, H⟩ := H
  replace H : (if t282 = (l0.length : Int) then (if 0 < (l0.length : Int) then (if ((rd_T61 l0 0).f0).toList = ([] : List UInt8) then ((impl_isPart.f k l0 1).bind fun t284 => (some t284)) else (some false)) else (none)) else (some false)) = some r := H
  have A4 := Aside0.mk A40
  clear A40
  by_cases c5 : t282 = (l0.length : Int)
  ·rw [if_pos c5] at H
   have c5b0 : (t282 == (l0.length : Int)) = true := beq_iff_eq.mpr c5
   have c5b1 : (t282 != (l0.length : Int)) = false := bne_eq_false_iff_eq.mpr c5
   clear c5
   by_cases c6 : 0 < (l0.length : Int)
   ·rw [if_pos c6] at H
    have c6b0 : decide (0 < (l0.length : Int)) = true := decide_eq_true c6
    have c6b1 : decide (0 < l0.length) = true := decide_eq_true (by omega)
    clear c6
    by_cases c7 : ((rd_T61 l0 0).f0).toList = ([] : List UInt8)
    ·rw [if_pos c7] at H
     have c7b0 : (((rd_T61 l0 0).f0).toList == ([] : List UInt8)) = true := beq_iff_eq.mpr c7
     have c7b1 : (((rd_T61 l0 0).f0).toList != ([] : List UInt8)) = false := bne_eq_false_iff_eq.mpr c7
     clear c7
     replace H := Option.bind_eq_some_iff.mp H
     obtain ⟨t284, A80, H⟩ := H
     replace H : (some t284) = some r := H
     have A8 := Aside0.mk A80
     clear A80
     obtain rfl := Option.some.inj H
     go_enter Tryd.func41, Tryd.ntmps41
     go_wp2_with (first | ((with_reducible refine gate_callee (f := 70) rfl ?_); refine goesL_ (some 5) rfl rfl Tryd.func70 (by kernel_rfl) rfl #[.int .i64 (l0.length : Int), .int .i64 1, .int .i64 40] rfl (by (try simp only [List.map_toArray, List.map_cons, List.map_nil]); first | done | rfl | (simp only [List.length_drop, List.length_take]; rfl)) ?_; (with_reducible refine (impl_within.calls (l0.length : Int) 1 40 true _ A2.out).mono ?_); rintro e w' ⟨rfl, ⟨nd, rfl⟩⟩; refine ⟨_, rfl, ?_⟩) | (go_at_call 71; (with_reducible refine (impl_sizeOf.calls k _ _ l0 t282 _ ?side1 ?side2 A4.out).mono ?_); (case side1 => repeat (first | exact HR0.out | (with_reducible refine Kd.C_alloc ?_ _) | (with_reducible refine Kd.C_drewN ?_ _) | (with_reducible refine Kd.C_drew ?_))); (case side2 => exact HC0.out); rintro e w9 ⟨rfl, hb⟩; have n0_ := Aside0.mk (below_step (by repeat (first | (with_reducible first | exact HB.out | apply below_alloc | apply pw_below_drewN | apply below_drew1) | exact HB.out)) hb); clear HB; have HB := n0_; clear n0_; (try clear hb); (try clear hb2); (try clear hk); (try clear hi); have p283 : 0 ≤ (0 : Int) := (by omega); have q283 : 0 < (l0.length : Int) := of_decide_eq_true (by first | (with_reducible assumption) | assumption); obtain ⟨ad283, e283, hx283_0, hx283_1, hx283_2, hx283_3, hx283_4⟩ := at_T61 HR0.out 0 p283 q283; cases e283; have qi283 : (0 < l0.length) = True := eq_true (by omega); (try rw [show ((0 : Int)).toNat = 0 from rfl] at hx283_0); (try rw [show 0 * 5 = 0 from rfl] at hx283_0); (try rw [Addr.add_zero'] at hx283_0); (try rw [show ((0 : Int)).toNat = 0 from rfl] at hx283_1); (try rw [show 0 * 5 = 0 from rfl] at hx283_1); (try rw [Addr.add_zero'] at hx283_1); (try rw [show ((0 : Int)).toNat = 0 from rfl] at hx283_2); (try rw [show 0 * 5 = 0 from rfl] at hx283_2); (try rw [Addr.add_zero'] at hx283_2); (try rw [show ((0 : Int)).toNat = 0 from rfl] at hx283_3); (try rw [show 0 * 5 = 0 from rfl] at hx283_3); (try rw [Addr.add_zero'] at hx283_3); (try rw [show ((0 : Int)).toNat = 0 from rfl] at hx283_4); (try rw [show 0 * 5 = 0 from rfl] at hx283_4); (try rw [Addr.add_zero'] at hx283_4); replace hx283_0 := (HB.out.cell (World.block_lt_of_cell? w _ hx283_0)).trans hx283_0; replace hx283_1 := (HB.out.cell (World.block_lt_of_cell? w _ hx283_1)).trans hx283_1; replace hx283_2 := (HB.out.cell (World.block_lt_of_cell? w _ hx283_2)).trans hx283_2; replace hx283_3 := (HB.out.cell (World.block_lt_of_cell? w _ hx283_3)).trans hx283_3; replace hx283_4 := (HB.out.cell (World.block_lt_of_cell? w _ hx283_4)).trans hx283_4; replace p283 := eq_true p283; replace q283 := eq_true q283) | (go_at_call 72; (with_reducible refine (impl_isPart.calls k _ _ l0 1 t284 _ ?side1 ?side2 ?side3 A8.out).mono ?_); (case side1 => exact Go.Proofs.YtkfbdopfeacnfaaDoor.TabsU.Tabs0.of_below TB.out (by repeat (first | (with_reducible first | exact HB.out | apply below_alloc | apply pw_below_drewN | apply below_drew1) | exact HB.out))); (case side2 => repeat (first | exact (Kd.C_below HR0.out HB.out) | (with_reducible refine Kd.C_alloc ?_ _) | (with_reducible refine Kd.C_drewN ?_ _) | (with_reducible refine Kd.C_drew ?_))); (case side3 => exact HC0.out); rintro e w10 ⟨rfl, hb⟩; have n0_ := Aside0.mk (below_step (by repeat (first | (with_reducible first | exact HB.out | apply below_alloc | apply pw_below_drewN | apply below_drew1) | exact HB.out)) hb); clear HB; have HB := n0_; clear n0_; (try clear hb); (try clear hb2); (try clear hk); (try clear hi)))
     go_ret
     exact ⟨by first | rfl | (simp [errW_none, errW_some] <;> rfl) | (simp [*, errW_none, errW_some] <;> rfl), by repeat (first | (with_reducible first | exact HB.out | apply below_alloc | apply pw_below_drewN | apply below_drew1) | exact HB.out)⟩
    ·rw [if_neg c7] at H
     have c7b0 : (((rd_T61 l0 0).f0).toList == ([] : List UInt8)) = false := beq_eq_false_iff_ne.mpr c7
     have c7b1 : (((rd_T61 l0 0).f0).toList != ([] : List UInt8)) = true := bne_iff_ne.mpr c7
     obtain rfl := Option.some.inj H
     go_enter Tryd.func41, Tryd.ntmps41
     go_wp2_with (first | ((with_reducible refine gate_callee (f := 70) rfl ?_); refine goesL_ (some 5) rfl rfl Tryd.func70 (by kernel_rfl) rfl #[.int .i64 (l0.length : Int), .int .i64 1, .int .i64 40] rfl (by (try simp only [List.map_toArray, List.map_cons, List.map_nil]); first | done | rfl | (simp only [List.length_drop, List.length_take]; rfl)) ?_; (with_reducible refine (impl_within.calls (l0.length : Int) 1 40 true _ A2.out).mono ?_); rintro e w' ⟨rfl, ⟨nd, rfl⟩⟩; refine ⟨_, rfl, ?_⟩) | (go_at_call 71; (with_reducible refine (impl_sizeOf.calls k _ _ l0 t282 _ ?side1 ?side2 A4.out).mono ?_); (case side1 => repeat (first | exact HR0.out | (with_reducible refine Kd.C_alloc ?_ _) | (with_reducible refine Kd.C_drewN ?_ _) | (with_reducible refine Kd.C_drew ?_))); (case side2 => exact HC0.out); rintro e w11 ⟨rfl, hb⟩; have n0_ := Aside0.mk (below_step (by repeat (first | (with_reducible first | exact HB.out | apply below_alloc | apply pw_below_drewN | apply below_drew1) | exact HB.out)) hb); clear HB; have HB := n0_; clear n0_; (try clear hb); (try clear hb2); (try clear hk); (try clear hi); have p283 : 0 ≤ (0 : Int) := (by omega); have q283 : 0 < (l0.length : Int) := of_decide_eq_true (by first | (with_reducible assumption) | assumption); obtain ⟨ad283, e283, hx283_0, hx283_1, hx283_2, hx283_3, hx283_4⟩ := at_T61 HR0.out 0 p283 q283; cases e283; have qi283 : (0 < l0.length) = True := eq_true (by omega); (try rw [show ((0 : Int)).toNat = 0 from rfl] at hx283_0); (try rw [show 0 * 5 = 0 from rfl] at hx283_0); (try rw [Addr.add_zero'] at hx283_0); (try rw [show ((0 : Int)).toNat = 0 from rfl] at hx283_1); (try rw [show 0 * 5 = 0 from rfl] at hx283_1); (try rw [Addr.add_zero'] at hx283_1); (try rw [show ((0 : Int)).toNat = 0 from rfl] at hx283_2); (try rw [show 0 * 5 = 0 from rfl] at hx283_2); (try rw [Addr.add_zero'] at hx283_2); (try rw [show ((0 : Int)).toNat = 0 from rfl] at hx283_3); (try rw [show 0 * 5 = 0 from rfl] at hx283_3); (try rw [Addr.add_zero'] at hx283_3); (try rw [show ((0 : Int)).toNat = 0 from rfl] at hx283_4); (try rw [show 0 * 5 = 0 from rfl] at hx283_4); (try rw [Addr.add_zero'] at hx283_4); replace hx283_0 := (HB.out.cell (World.block_lt_of_cell? w _ hx283_0)).trans hx283_0; replace hx283_1 := (HB.out.cell (World.block_lt_of_cell? w _ hx283_1)).trans hx283_1; replace hx283_2 := (HB.out.cell (World.block_lt_of_cell? w _ hx283_2)).trans hx283_2; replace hx283_3 := (HB.out.cell (World.block_lt_of_cell? w _ hx283_3)).trans hx283_3; replace hx283_4 := (HB.out.cell (World.block_lt_of_cell? w _ hx283_4)).trans hx283_4; replace p283 := eq_true p283; replace q283 := eq_true q283))
     go_ret
     exact ⟨by first | rfl | (simp [errW_none, errW_some] <;> rfl) | (simp [*, errW_none, errW_some] <;> rfl), by repeat (first | (with_reducible first | exact HB.out | apply below_alloc | apply pw_below_drewN | apply below_drew1) | exact HB.out)⟩
   ·rw [if_neg c6] at H
    exact absurd H (by simp)
  ·rw [if_neg c5] at H
   have c5b0 : (t282 == (l0.length : Int)) = false := beq_eq_false_iff_ne.mpr c5
   have c5b1 : (t282 != (l0.length : Int)) = true := bne_iff_ne.mpr c5
   obtain rfl := Option.some.inj H
   go_enter Tryd.func41, Tryd.ntmps41
   go_wp2_with (first | ((with_reducible refine gate_callee (f := 70) rfl ?_); refine goesL_ (some 5) rfl rfl Tryd.func70 (by kernel_rfl) rfl #[.int .i64 (l0.length : Int), .int .i64 1, .int .i64 40] rfl (by (try simp only [List.map_toArray, List.map_cons, List.map_nil]); first | done | rfl | (simp only [List.length_drop, List.length_take]; rfl)) ?_; (with_reducible refine (impl_within.calls (l0.length : Int) 1 40 true _ A2.out).mono ?_); rintro e w' ⟨rfl, ⟨nd, rfl⟩⟩; refine ⟨_, rfl, ?_⟩) | (go_at_call 71; (with_reducible refine (impl_sizeOf.calls k _ _ l0 t282 _ ?side1 ?side2 A4.out).mono ?_); (case side1 => repeat (first | exact HR0.out | (with_reducible refine Kd.C_alloc ?_ _) | (with_reducible refine Kd.C_drewN ?_ _) | (with_reducible refine Kd.C_drew ?_))); (case side2 => exact HC0.out); rintro e w12 ⟨rfl, hb⟩; have n0_ := Aside0.mk (below_step (by repeat (first | (with_reducible first | exact HB.out | apply below_alloc | apply pw_below_drewN | apply below_drew1) | exact HB.out)) hb); clear HB; have HB := n0_; clear n0_; (try clear hb); (try clear hb2); (try clear hk); (try clear hi)))
   go_ret
   exact ⟨by first | rfl | (simp [errW_none, errW_some] <;> rfl) | (simp [*, errW_none, errW_some] <;> rfl), by repeat (first | (with_reducible first | exact HB.out | apply below_alloc | apply pw_below_drewN | apply below_drew1) | exact HB.out)⟩
 ·replace c3 := Bool.eq_false_iff.mpr c3
  subst c3
  have H1 : (some false) = some r := by rw [if_neg (show ¬ (false = true) by decide)] at H; exact H
  clear H
  have H := H1
  clear H1
  obtain rfl := Option.some.inj H
  go_enter Tryd.func41, Tryd.ntmps41
  go_wp2_with (first | ((with_reducible refine gate_callee (f := 70) rfl ?_); refine goesL_ (some 5) rfl rfl Tryd.func70 (by kernel_rfl) rfl #[.int .i64 (l0.length : Int), .int .i64 1, .int .i64 40] rfl (by (try simp only [List.map_toArray, List.map_cons, List.map_nil]); first | done | rfl | (simp only [List.length_drop, List.length_take]; rfl)) ?_; (with_reducible refine (impl_within.calls (l0.length : Int) 1 40 false _ A2.out).mono ?_); rintro e w' ⟨rfl, ⟨nd, rfl⟩⟩; refine ⟨_, rfl, ?_⟩))
  go_ret
  exact ⟨by first | rfl | (simp [errW_none, errW_some] <;> rfl) | (simp [*, errW_none, errW_some] <;> rfl), by repeat (first | (with_reducible first | exact HB.out | apply below_alloc | apply pw_below_drewN | apply below_drew1) | exact HB.out)⟩

end
end Go.Proofs.YtkfbdopfeacnfaaDoor.PFnExactWithField
