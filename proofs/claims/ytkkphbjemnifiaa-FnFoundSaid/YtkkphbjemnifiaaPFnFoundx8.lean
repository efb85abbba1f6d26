-- Printed for this claim by a changed copy of the kit's printing program (wip/tools/patch_print.py); Lean checks it.
import Derived.Test.YtkkphbjemnifiaaPFnFoundx0
import Derived.Test.YtkkphbjemnifiaaPFnFoundx5
import Derived.Test.YtkkphbjemnifiaaPFnFoundx6
import Derived.Test.YtkkphbjemnifiaaPFnFoundx7
namespace Go.Proofs.Ytkkphbjemnifiaa.PFnFound
open Go.RowKit Go.Proofs.YtkkphbjemnifiaaW.PrintWords Go.Proofs.YtkkphbjemnifiaaW.PrintLast Go.Proofs.YtkkphbjemnifiaaW.PrintMore
attribute [local go_sem] max2_int min2_int max_two min_two max_three min_three max_four min_four   -- for this text's walks alone
set_option linter.unusedVariables false
set_option linter.unusedSimpArgs false

noncomputable section
/-! ### spec_l10Keys: function 81 -/
def spec_l10Keys.l0 : Nat → List ByteArray → List (S51) → Int → Int → Option (List ByteArray)
 | 0, _, _, _, _ => none
 | k + 1, x3, x6, x7, x8 => if x8 < x7 then (if 0 ≤ x8 then (if x8 < (x6.length : Int) then ((spec_l10Put.f k x3 ((rd_T51 x6 x8).f0)).bind fun t196 => (spec_l10Keys.l0 k t196 x6 x7 (wrap64 (x8 + 1)))) else (none)) else (none)) else (some x3)
def spec_l10Keys.f (k : Nat) (l0 : List (S51)) : Option (List ByteArray) := spec_l10Keys.l0 k ([] : List ByteArray) l0 (l0.length : Int) 0
theorem spec_l10Keys.mono_l : ∀ k, (∀ y0 y1 y2 y3, LeO (spec_l10Keys.l0 k y0 y1 y2 y3) (spec_l10Keys.l0 (k + 1) y0 y1 y2 y3))
 | 0 => fun _ _ _ _ r h => by simp [spec_l10Keys.l0] at h
 | k + 1 => by
  have ih0 := spec_l10Keys.mono_l k
  ·intro y0 y1 y2 y3
   unfold spec_l10Keys.l0
   repeat' first
   | (with_reducible exact ih0 _ _ _ _)
   | (with_reducible exact spec_l10Put.mono _ _ _)
   | (with_reducible exact LeO.refl _)
   | (with_reducible exact LeO.none _)
   | (with_reducible refine LeO.ite ?_ ?_)
   | (with_reducible refine LeO.bind ?_ (fun _ => ?_))
   | exact LeO.none _
   | refine LeO.ite ?_ ?_
   | refine LeO.bind ?_ (fun _ => ?_)
theorem spec_l10Keys.mono : ∀ a0 k, LeO (spec_l10Keys.f k a0) (spec_l10Keys.f (k + 1) a0) := by
 intro a0 k
 have ih0 := spec_l10Keys.mono_l k
 unfold spec_l10Keys.f
 repeat' first
   | (with_reducible exact ih0 _ _ _ _)
   | (with_reducible exact spec_l10Put.mono _ _ _)
   | (with_reducible exact LeO.refl _)
   | (with_reducible exact LeO.none _)
   | (with_reducible refine LeO.ite ?_ ?_)
   | (with_reducible refine LeO.bind ?_ (fun _ => ?_))
   | exact LeO.none _
   | refine LeO.ite ?_ ?_
   | refine LeO.bind ?_ (fun _ => ?_)
set_option maxHeartbeats 8000000 in
set_option maxRecDepth 100000 in
theorem spec_l10Keys.calls (k : Nat) (A0 : Option Addr) (c0 : Nat) (l0 : List (S51)) (r : List ByteArray) (w : World) (hr0 : Kd.C k51 w A0 l0.length l0) (hc0 : l0.length ≤ c0) (h : spec_l10Keys.f k l0 = some r) :
  Calls Try.prog 81 #[.slice A0 l0.length c0] w fun e w' => ∃ v0_ : Value, e = .returned (v0_) ∧ Kd.R Kd.string 9 w' w.heap.size (fun _ => True) v0_ r ∧ Below w.heap.size w w' := by
 have hu51 := Try.underlying51
 have HR0 := Aside0.mk hr0
 have HC0 := Aside0.mk hc0
 clear hr0 hc0
 have HB := Aside0.mk (Below.refl w.heap.size w)
 have H : (spec_l10Keys.l0 k ([] : List ByteArray) l0 (l0.length : Int) 0) = some r := h
 clear h
 have H' := Aside0.mk H
 clear H
 go_enter Try.func81, Try.ntmps81
 go_wp2
 go_loopg [3, 8] k (fun kq v3 v8 w' => ∃ (x3_1 : List ByteArray) (x8_1 : Int), v8 = .int .i64 x8_1 ∧ Aside0 (spec_l10Keys.l0 kq x3_1 l0 (l0.length : Int) x8_1 = some r) ∧ Aside0 (kq ≤ k) ∧ Aside0 (Kd.R Kd.string 9 w' w.heap.size (fun _ => True) v3 x3_1) ∧ Aside0 (Below w.heap.size w w'))
 case atStart => exact ⟨(([] : List ByteArray)), (0), rfl, H', ⟨Nat.le_refl _⟩, ⟨by first | exact Kd.R_nil _ _ _ _ _ | exact Kd.N_nil _ _ _ _ _ | exact Kd.V_nil _ _ _ _ _ | exact Kd.Q_nil _ _ _ _ _ | exact Kd.S_nil _ _ _ _ _⟩, ⟨by exact HB.out⟩⟩
 case round =>
  clear H'
  obtain ⟨x3_1, x8_1, rfl, HA, HK1, HO_3, HB⟩ := hrel
  cases gk with
  | zero => exact absurd HA.out (by simp [spec_l10Keys.l0])
  | succ k1 =>
   have H := HA.out
   clear HA
   simp only [spec_l10Keys.l0] at H
   by_cases c2 : x8_1 < (l0.length : Int)
   ·rw [if_pos c2] at H
    have c2b0 : decide (x8_1 < (l0.length : Int)) = true := decide_eq_true c2
    clear c2
    by_cases c3 : 0 ≤ x8_1
    ·rw [if_pos c3] at H
     have c3b0 : decide (0 ≤ x8_1) = true := decide_eq_true c3
     clear c3
     by_cases c4 : x8_1 < (l0.length : Int)
     ·rw [if_pos c4] at H
      have c4b0 : decide (x8_1 < (l0.length : Int)) = true := decide_eq_true c4
      clear c4
      replace H := Option.bind_eq_some_iff.mp H
      obtain ⟨t196, A50, H⟩ := H
      replace H : (spec_l10Keys.l0 k1 t196 l0 (l0.length : Int) (wrap64 (x8_1 + 1))) = some r := H
      have A5 := Aside0.mk A50
      clear A50
      have H' := Aside0.mk H
      clear H
      have p194 : 0 ≤ (x8_1 : Int) := of_decide_eq_true (by assumption)
      have q194 : x8_1 < (l0.length : Int) := of_decide_eq_true (by assumption)
      obtain ⟨ad194, e194, hx194_0, hx194_1⟩ := at_T51 HR0.out x8_1 p194 q194
      cases e194
      replace hx194_0 := (HB.out.cell (World.block_lt_of_cell? w _ hx194_0)).trans hx194_0
      replace hx194_1 := (HB.out.cell (World.block_lt_of_cell? w _ hx194_1)).trans hx194_1
      replace p194 := eq_true p194
      replace q194 := eq_true q194
      go_wp2_with (first | ((with_reducible refine gate_dst (N := 5) rfl ?_); refine box_event ?hg (N := 5) ?hd (cs := #[.string (⟨#[]⟩ : ByteArray), .int .i64 0]) (t := 51) ?hr ?_; (case hd => rfl); (case hg => rfl); (case hr => go_simp); intro gb195 hg w6 hbox hb; have n0_ := Aside0.mk (Kd.R_below (by repeat first | exact HO_3.out | apply Kd.R_alloc | apply Kd.R_drewN | apply Kd.R_drew) hb); have n1_ := Aside0.mk (below_step (by repeat first | exact HB.out | apply q4_ | apply q5_ | apply q6_) hb); have n2_ := Aside0.mk (hbox); have n3_ := Aside0.mk ((by rw [hg]; exact (below_size (by repeat first | exact HB.out | apply q4_ | apply q5_ | apply q6_)) : w.heap.size ≤ gb195)); have n4_ := Aside0.mk ((by rw [hg]; exact (below_size (by repeat first | exact HB.out | apply q4_ | apply q5_ | apply q6_)) : w.heap.size ≤ gb195)); clear HO_3; clear HB; have HO_3 := n0_; have HB := n1_; have BK195 := n2_; have GW195 := n3_; have GE195 := n4_; clear n0_ n1_ n2_ n3_ n4_; clear hb hbox hg; have hcz7_0 : w6.cell? ⟨gb195, 0, none⟩ = some (.string (⟨#[]⟩ : ByteArray)) := (blk_cell BK195.out 0).trans rfl; have hcz7_1 : w6.cell? ⟨gb195, 1, none⟩ = some (.int .i64 0) := (blk_cell BK195.out 1).trans rfl; have hfz7_0 := blk_frozen BK195.out 0; have hfz7_1 := blk_frozen BK195.out 1) | ((with_reducible refine gate_store (t := 51) (p := 5) rfl ?_); refine store_event (t := 51) (p := 5) (v := ?vo_w8) (w1 := ((w6.setCell ⟨gb195, 0, none⟩ (.string ((rd_T51 l0 x8_1).f0))).setCell ⟨gb195, 1, none⟩ (.int .i64 ((rd_T51 l0 x8_1).f1)))) ?hg ?ho ?hn ?hr ?_; (case ho => rfl); (case hg => rfl); (case hn => rfl); (case hr => go_simp); intro w8 hw; have n0_ : Aside0 (Kd.R Kd.string 9 w8 w.heap.size (fun _ => True) u3 x3_1) := ⟨(by rw [hw]; exact (by (with_reducible repeat (first | apply Kd.R_alloc | apply Kd.R_drewN | apply Kd.R_drew)); exact Kd.R_mono (Kd.R_far (p := ⟨gb195, 1, none⟩) (Kd.R_far (p := ⟨gb195, 0, none⟩) (Kd.R_types HO_3.out BK195.out (by decide)) (fun _ hk => hk.2) (.string ((rd_T51 l0 x8_1).f0))) (fun _ hk => hk.2) (.int .i64 ((rd_T51 l0 x8_1).f1))) (fun _ hk => trivial)))⟩; have n1_ : Aside0 (w8.heap[gb195]? = some (.cells #[.string ((rd_T51 l0 x8_1).f0), .int .i64 ((rd_T51 l0 x8_1).f1)] 51 (0, 0))) := ⟨(by rw [hw]; exact (by (with_reducible repeat first | apply q1_ | apply q2_ | apply q3_); refine blk_put (cs := #[.string ((rd_T51 l0 x8_1).f0), .int .i64 0]) ?_ 1 _ rfl; (with_reducible repeat first | apply q1_ | apply q2_ | apply q3_); refine blk_put (cs := #[.string (⟨#[]⟩ : ByteArray), .int .i64 0]) ?_ 0 _ rfl; (with_reducible repeat first | apply q1_ | apply q2_ | apply q3_); exact BK195.out))⟩; have n2_ : Aside0 (Below w.heap.size w w8) := ⟨(by rw [hw]; exact (by repeat first | exact HB.out | apply q4_ | apply q5_ | apply q6_ | refine below_set ?_ GE195.out))⟩; clear hw; clear HO_3; clear BK195; clear HB; have HO_3 := n0_; have BK195 := n1_; have HB := n2_; clear n0_ n1_ n2_; have hcz9_0 : w8.cell? ⟨gb195, 0, none⟩ = some (.string ((rd_T51 l0 x8_1).f0)) := (blk_cell BK195.out 0).trans rfl; have hcz9_1 : w8.cell? ⟨gb195, 1, none⟩ = some (.int .i64 ((rd_T51 l0 x8_1).f1)) := (blk_cell BK195.out 1).trans rfl; have hfz9_0 := blk_frozen BK195.out 0; have hfz9_1 := blk_frozen BK195.out 1; obtain ⟨Ao10, co10, eo10⟩ := Kd.R_slice HO_3.out; subst eo10) | ((with_reducible refine gate_callee (f := 79) rfl ?_); refine goesL_ (some 15) rfl rfl Try.func79 (by kernel_rfl) rfl #[.slice Ao10 x3_1.length co10, .string ((rd_T51 l0 x8_1).f0)] rfl (by simp only [List.map_toArray, List.map_cons, List.map_nil] <;> rfl) ?_; (with_reducible refine (spec_l10Put.calls k1 (fun k_ => some k_ = (.slice Ao10 x3_1.length co10 : Value).ownBlock) (.slice Ao10 x3_1.length co10) x3_1 ((rd_T51 l0 x8_1).f0) t196 w _ ?side1 ?side2 A5.out).mono ?_); (case side1 => exact HB.out); (case side2 => exact Kd.R_tight rfl HO_3.out); rintro e w11 ⟨v197, rfl, ho0, hb, hkp⟩; refine ⟨_, rfl, ?_⟩; have n0_ := Aside0.mk (blk_kept (by repeat first | exact BK195.out | apply q1_ | apply q2_ | apply q3_) hkp (fun hs_ => (fun e_ => (Kd.R_ne HO_3.out BK195.out (by decide)) e_) hs_)); have n1_ := Aside0.mk (Kd.R_mono (ok' := fun k_ => True) ho0 (fun k_ hk_ => trivial)); have n2_ := Aside0.mk (hb); clear BK195; clear HB; clear HO_3; have BK195 := n0_; have HO198 := n1_; have HB := n2_; clear n0_ n1_ n2_; (try clear hb); (try clear hkp); (try clear ho0)))
      go_roundg k1
      case measure => have := HK1.out; omega
      case rel => exact ⟨(t196), (wrap64 (x8_1 + 1)), rfl, H', ⟨by have := HK1.out; omega⟩, ⟨by (with_reducible repeat (first | apply Kd.R_alloc | apply Kd.R_drewN | apply Kd.R_drew)); exact HO198.out⟩, ⟨by exact HB.out⟩⟩
     ·rw [if_neg c4] at H
      exact absurd H (by simp)
    ·rw [if_neg c3] at H
     exact absurd H (by simp)
   ·rw [if_neg c2] at H
    have c2b0 : decide (x8_1 < (l0.length : Int)) = false := decide_eq_false c2
    clear c2
    obtain rfl := Option.some.inj H
    go_wp2
    go_ret
    exact ⟨_, by first | rfl | (simp [errW_none, errW_some] <;> rfl) | (simp [*, errW_none, errW_some] <;> rfl), by (with_reducible repeat (first | apply Kd.R_alloc | apply Kd.R_drewN | apply Kd.R_drew)); exact HO_3.out, by exact HB.out⟩
/-! ### spec_l10PutInt: function 65 -/
def spec_l10PutInt.l0 : Nat → List Int → Int → Int → Option (List Int)
 | 0, _, _, _ => none
 | k + 1, x0, x1, x5 => if x5 < (x0.length : Int) then (if 0 ≤ x5 then (if (rd x0 x5) < x1 then (spec_l10PutInt.l0 k x0 x1 (wrap64 (x5 + 1))) else (if (rd x0 x5) = x1 then (some x0) else ((some (([] : List Int) : List Int)).bind fun y201 => (if x5 ≤ (x0.length : Int) then ((some (x0.take (x5 : Int).toNat : List Int)).bind fun y204 => (if y201.length + y204.length < 17592186044416 then ((some (y201 ++ y204 : List Int)).bind fun y208 => (if y208.length < 17592186044416 then ((some (y208 ++ [x1] : List Int)).bind fun y211 => ((some (x0.drop (x5 : Int).toNat : List Int)).bind fun y214 => (if y211.length + y214.length < 17592186044416 then (some (y211 ++ y214)) else (none)))) else (none))) else (none))) else (none))))) else (none)) else ((some (([] : List Int) : List Int)).bind fun y221 => (if 0 ≤ x5 then (if x5 ≤ (x0.length : Int) then ((some (x0.take (x5 : Int).toNat : List Int)).bind fun y224 => (if y221.length + y224.length < 17592186044416 then ((some (y221 ++ y224 : List Int)).bind fun y228 => (if y228.length < 17592186044416 then ((some (y228 ++ [x1] : List Int)).bind fun y231 => ((some (x0.drop (x5 : Int).toNat : List Int)).bind fun y234 => (if y231.length + y234.length < 17592186044416 then (some (y231 ++ y234)) else (none)))) else (none))) else (none))) else (none)) else (none)))
def spec_l10PutInt.f (k : Nat) (l0 : List Int) (a1 : Int) : Option (List Int) := spec_l10PutInt.l0 k l0 a1 0
theorem spec_l10PutInt.mono_l : ∀ k, (∀ y0 y1 y2, LeO (spec_l10PutInt.l0 k y0 y1 y2) (spec_l10PutInt.l0 (k + 1) y0 y1 y2))
 | 0 => fun _ _ _ r h => by simp [spec_l10PutInt.l0] at h
 | k + 1 => by
  have ih0 := spec_l10PutInt.mono_l k
  ·intro y0 y1 y2
   unfold spec_l10PutInt.l0
   repeat' first
   | (with_reducible exact ih0 _ _ _)
   | (with_reducible exact LeO.refl _)
   | (with_reducible exact LeO.none _)
   | (with_reducible refine LeO.ite ?_ ?_)
   | (with_reducible refine LeO.bind ?_ (fun _ => ?_))
   | exact LeO.none _
   | refine LeO.ite ?_ ?_
   | refine LeO.bind ?_ (fun _ => ?_)
theorem spec_l10PutInt.mono : ∀ a0 a1 k, LeO (spec_l10PutInt.f k a0 a1) (spec_l10PutInt.f (k + 1) a0 a1) := by
 intro a0 a1 k
 have ih0 := spec_l10PutInt.mono_l k
 unfold spec_l10PutInt.f
 repeat' first
   | (with_reducible exact ih0 _ _ _)
   | (with_reducible exact LeO.refl _)
   | (with_reducible exact LeO.none _)
   | (with_reducible refine LeO.ite ?_ ?_)
   | (with_reducible refine LeO.bind ?_ (fun _ => ?_))
   | exact LeO.none _
   | refine LeO.ite ?_ ?_
   | refine LeO.bind ?_ (fun _ => ?_)
set_option maxHeartbeats 8000000 in
set_option maxRecDepth 100000 in
theorem spec_l10PutInt.calls (k : Nat) (P0_ : Nat → Prop) (u9000_ : Value) (l0 : List Int) (a1 : Int) (r : List Int) (w0 w : World) (hB : Below w0.heap.size w0 w) (ho0 : Kd.R (Kd.int .i64) 3 w w0.heap.size P0_ u9000_ l0) (h : spec_l10PutInt.f k l0 a1 = some r) :
  Calls Try.prog 65 #[u9000_, .int .i64 a1] w fun e w' => ∃ v0_ : Value, e = .returned (v0_) ∧ Kd.R (Kd.int .i64) 3 w' w0.heap.size (fun k_ => (P0_ k_ ∨ w.heap.size ≤ k_)) v0_ r ∧ Below w0.heap.size w0 w' ∧ Kept w w' (fun k_ => P0_ k_) := by
 have HO0 := Aside0.mk (show Kd.R (Kd.int .i64) 3 w w0.heap.size (fun k_ => (P0_ k_ ∨ w.heap.size ≤ k_)) u9000_ l0 from Kd.R_mono ho0 (fun k_ hk => (.inl hk)))
 have HK := Aside0.mk (Kept.refl w (fun k_ => P0_ k_))
 have HW0 := Aside0.mk hB.size
 have HB := Aside0.mk hB
 clear hB
 have H : (spec_l10PutInt.l0 k l0 a1 0) = some r := h
 clear h
 have H' := Aside0.mk H
 clear H
 go_enter Try.func65, Try.ntmps65
 go_wp2
 go_loopg [5] k (fun kq v5 w' => ∃ (x5_1 : Int), v5 = .int .i64 x5_1 ∧ Aside0 (spec_l10PutInt.l0 kq l0 a1 x5_1 = some r) ∧ Aside0 (kq ≤ k) ∧ Aside0 (Kd.R (Kd.int .i64) 3 w' w0.heap.size (fun k_ => (P0_ k_ ∨ w.heap.size ≤ k_)) u9000_ l0) ∧ Aside0 (Kept w w' (fun k_ => P0_ k_)) ∧ Aside0 (Below w0.heap.size w0 w'))
 case atStart => exact ⟨(0), rfl, H', ⟨Nat.le_refl _⟩, ⟨by (with_reducible repeat (first | apply Kd.R_alloc | apply Kd.R_drewN | apply Kd.R_drew)); exact HO0.out⟩, ⟨by repeat (first | (with_reducible first | exact HK.out | apply Kept.alloc | apply Kept.drewN | apply Kept.drew) | exact HK.out)⟩, ⟨by exact HB.out⟩⟩
 case round =>
  clear H'
  try clear p2
  obtain ⟨x5_1, rfl, HA, HK1, HO_0, HK, HB⟩ := hrel
  cases gk with
  | zero => exact absurd HA.out (by simp [spec_l10PutInt.l0])
  | succ k1 =>
   have H := HA.out
   clear HA
   simp only [spec_l10PutInt.l0] at H
   by_cases c3 : x5_1 < (l0.length : Int)
   ·rw [if_pos c3] at H
    have c3b0 : decide (x5_1 < (l0.length : Int)) = true := decide_eq_true c3
    clear c3
    by_cases c4 : 0 ≤ x5_1
    ·rw [if_pos c4] at H
     have c4b0 : decide (0 ≤ x5_1) = true := decide_eq_true c4
     clear c4
     by_cases c5 : (rd l0 x5_1) < a1
     ·rw [if_pos c5] at H
      have c5b0 : decide ((rd l0 x5_1) < a1) = true := decide_eq_true c5
      clear c5
      have H' := Aside0.mk H
      clear H
      obtain ⟨Ao6, co6, eo6⟩ := Kd.R_slice HO_0.out
      subst eo6
      have p199 : 0 ≤ (x5_1 : Int) := of_decide_eq_true (by assumption)
      have q199 : x5_1 < (l0.length : Int) := of_decide_eq_true (by assumption)
      obtain ⟨ad199, e199, hx199_0⟩ := Kd.at_int (Kd.R_reads' HO_0.out).2.2 x5_1 p199 q199
      cases e199
      replace p199 := eq_true p199
      replace q199 := eq_true q199
      go_wp2
      go_roundg k1
      case measure => have := HK1.out; omega
      case rel => exact ⟨(wrap64 (x5_1 + 1)), rfl, H', ⟨by have := HK1.out; omega⟩, ⟨by (with_reducible repeat (first | apply Kd.R_alloc | apply Kd.R_drewN | apply Kd.R_drew)); exact HO_0.out⟩, ⟨by repeat (first | (with_reducible first | exact HK.out | apply Kept.alloc | apply Kept.drewN | apply Kept.drew) | exact HK.out)⟩, ⟨by exact HB.out⟩⟩
     ·rw [if_neg c5] at H
      have c5b0 : decide ((rd l0 x5_1) < a1) = false := decide_eq_false c5
      clear c5
      by_cases c7 : (rd l0 x5_1) = a1
      ·rw [if_pos c7] at H
       have c7b0 : ((rd l0 x5_1) == a1) = true := beq_iff_eq.mpr c7
       have c7b1 : ((rd l0 x5_1) != a1) = false := bne_eq_false_iff_eq.mpr c7
       clear c7
       obtain rfl := Option.some.inj H
       obtain ⟨Ao8, co8, eo8⟩ := Kd.R_slice HO_0.out
       subst eo8
       have p199 : 0 ≤ (x5_1 : Int) := of_decide_eq_true (by assumption)
       have q199 : x5_1 < (l0.length : Int) := of_decide_eq_true (by assumption)
       obtain ⟨ad199, e199, hx199_0⟩ := Kd.at_int (Kd.R_reads' HO_0.out).2.2 x5_1 p199 q199
       cases e199
       replace p199 := eq_true p199
       replace q199 := eq_true q199
       have p200 : 0 ≤ (x5_1 : Int) := of_decide_eq_true (by assumption)
       have q200 : x5_1 < (l0.length : Int) := of_decide_eq_true (by assumption)
       obtain ⟨ad200, e200, hx200_0⟩ := Kd.at_int (Kd.R_reads' HO_0.out).2.2 x5_1 p200 q200
       obtain rfl : ad199 = ad200 := (by injection e200)
       replace p200 := eq_true p200
       replace q200 := eq_true q200
       go_wp2
       go_ret
       exact ⟨_, by first | rfl | (simp [errW_none, errW_some] <;> rfl) | (simp [*, errW_none, errW_some] <;> rfl), by (with_reducible repeat (first | apply Kd.R_alloc | apply Kd.R_drewN | apply Kd.R_drew)); exact HO_0.out, by exact HB.out, by repeat (first | (with_reducible first | exact HK.out | apply Kept.alloc | apply Kept.drewN | apply Kept.drew) | exact HK.out)⟩
      ·rw [if_neg c7] at H
       have c7b0 : ((rd l0 x5_1) == a1) = false := beq_eq_false_iff_ne.mpr c7
       have c7b1 : ((rd l0 x5_1) != a1) = true := bne_iff_ne.mpr c7
       obtain ⟨y201, hy201⟩ : ∃ y_ : List Int, y_ = (([] : List Int)) := ⟨_, rfl⟩
       replace H : (if x5_1 ≤ (l0.length : Int) then ((some (l0.take (x5_1 : Int).toNat : List Int)).bind fun y204 => (if y201.length + y204.length < 17592186044416 then ((some (y201 ++ y204 : List Int)).bind fun y208 => (if y208.length < 17592186044416 then ((some (y208 ++ [a1] : List Int)).bind fun y211 => ((some (l0.drop (x5_1 : Int).toNat : List Int)).bind fun y214 => (if y211.length + y214.length < 17592186044416 then (some (y211 ++ y214)) else (none)))) else (none))) else (none))) else (none)) = some r := by first | (rw [hy201]; with_reducible exact H) | (have H2_ := (Option.bind_some _ _).symm.trans H; rw [hy201]; with_reducible exact H2_) | (have H2_ := (Option.bind_some _ _).symm.trans H; with_reducible exact H2_) | with_reducible exact H | (rw [hy201]; exact H) | exact H
       have Ny201 := Aside0.mk hy201
       clear hy201
       have c9b0 := eq_true (of_decide_eq_true (by assumption) : 0 ≤ x5_1)
       by_cases c10 : x5_1 ≤ (l0.length : Int)
       ·rw [if_pos c10] at H
        have c10b0 := eq_true c10
        have c10b1 : decide (x5_1 ≤ (l0.length : Int)) = true := decide_eq_true c10
        clear c10
        obtain ⟨y204, hy204⟩ : ∃ y_ : List Int, y_ = (l0.take (x5_1 : Int).toNat) := ⟨_, rfl⟩
        replace H : (if y201.length + y204.length < 17592186044416 then ((some (y201 ++ y204 : List Int)).bind fun y208 => (if y208.length < 17592186044416 then ((some (y208 ++ [a1] : List Int)).bind fun y211 => ((some (l0.drop (x5_1 : Int).toNat : List Int)).bind fun y214 => (if y211.length + y214.length < 17592186044416 then (some (y211 ++ y214)) else (none)))) else (none))) else (none)) = some r := by first | (rw [hy204]; with_reducible exact H) | (have H2_ := (Option.bind_some _ _).symm.trans H; rw [hy204]; with_reducible exact H2_) | (have H2_ := (Option.bind_some _ _).symm.trans H; with_reducible exact H2_) | with_reducible exact H | (rw [hy204]; exact H) | exact H
        have Ny204 := Aside0.mk hy204
        clear hy204
        by_cases c11 : y201.length + y204.length < 17592186044416
        ·rw [if_pos c11] at H
         have LMc11 := Aside0.mk c11
         clear c11
         obtain ⟨y208, hy208⟩ : ∃ y_ : List Int, y_ = (y201 ++ y204) := ⟨_, rfl⟩
         replace H : (if y208.length < 17592186044416 then ((some (y208 ++ [a1] : List Int)).bind fun y211 => ((some (l0.drop (x5_1 : Int).toNat : List Int)).bind fun y214 => (if y211.length + y214.length < 17592186044416 then (some (y211 ++ y214)) else (none)))) else (none)) = some r := by first | (rw [hy208]; with_reducible exact H) | (have H2_ := (Option.bind_some _ _).symm.trans H; rw [hy208]; with_reducible exact H2_) | (have H2_ := (Option.bind_some _ _).symm.trans H; with_reducible exact H2_) | with_reducible exact H | (rw [hy208]; exact H) | exact H
         have Ny208 := Aside0.mk hy208
         clear hy208
         by_cases c12 : y208.length < 17592186044416
         ·rw [if_pos c12] at H
          have LMc12 := Aside0.mk c12
          clear c12
          obtain ⟨y211, hy211⟩ : ∃ y_ : List Int, y_ = (y208 ++ [a1]) := ⟨_, rfl⟩
          replace H : ((some (l0.drop (x5_1 : Int).toNat : List Int)).bind fun y214 => (if y211.length + y214.length < 17592186044416 then (some (y211 ++ y214)) else (none))) = some r := by first | (rw [hy211]; with_reducible exact H) | (have H2_ := (Option.bind_some _ _).symm.trans H; rw [hy211]; with_reducible exact H2_) | (have H2_ := (Option.bind_some _ _).symm.trans H; with_reducible exact H2_) | with_reducible exact H | (rw [hy211]; exact H) | exact H
          have Ny211 := Aside0.mk hy211
          clear hy211
          have c13b0 := eq_true (of_decide_eq_true (by assumption) : 0 ≤ x5_1)
          have c14b0 := eq_true (of_decide_eq_true (by assumption) : x5_1 ≤ (l0.length : Int))
          obtain ⟨y214, hy214⟩ : ∃ y_ : List Int, y_ = (l0.drop (x5_1 : Int).toNat) := ⟨_, rfl⟩
          replace H : (if y211.length + y214.length < 17592186044416 then (some (y211 ++ y214)) else (none)) = some r := by first | (rw [hy214]; with_reducible exact H) | (have H2_ := (Option.bind_some _ _).symm.trans H; rw [hy214]; with_reducible exact H2_) | (have H2_ := (Option.bind_some _ _).symm.trans H; with_reducible exact H2_) | with_reducible exact H | (rw [hy214]; exact H) | exact H
          have Ny214 := Aside0.mk hy214
          clear hy214
          by_cases c15 : y211.length + y214.length < 17592186044416
          ·rw [if_pos c15] at H
           have LMc15 := Aside0.mk c15
           clear c15
           obtain ⟨y218, hy218⟩ : ∃ y_ : List Int, y_ = (y211 ++ y214) := ⟨_, rfl⟩
           replace H : (some y218) = some r := by first | (rw [hy218]; with_reducible exact H) | (have H2_ := (Option.bind_some _ _).symm.trans H; rw [hy218]; with_reducible exact H2_) | (have H2_ := (Option.bind_some _ _).symm.trans H; with_reducible exact H2_) | with_reducible exact H | (rw [hy218]; exact H) | exact H
           have Ny218 := Aside0.mk hy218
           clear hy218
           obtain rfl := Option.some.inj H
           obtain ⟨Ao16, co16, eo16⟩ := Kd.R_slice HO_0.out
           subst eo16
           have p199 : 0 ≤ (x5_1 : Int) := of_decide_eq_true (by assumption)
           have q199 : x5_1 < (l0.length : Int) := of_decide_eq_true (by assumption)
           obtain ⟨ad199, e199, hx199_0⟩ := Kd.at_int (Kd.R_reads' HO_0.out).2.2 x5_1 p199 q199
           cases e199
           replace p199 := eq_true p199
           replace q199 := eq_true q199
           have p200 : 0 ≤ (x5_1 : Int) := of_decide_eq_true (by assumption)
           have q200 : x5_1 < (l0.length : Int) := of_decide_eq_true (by assumption)
           obtain ⟨ad200, e200, hx200_0⟩ := Kd.at_int (Kd.R_reads' HO_0.out).2.2 x5_1 p200 q200
           obtain rfl : ad199 = ad200 := (by injection e200)
           replace p200 := eq_true p200
           replace q200 := eq_true q200
           go_wp2_with (first | ((with_reducible refine gate_dst (N := 34) rfl ?_); refine Kd.R_lit (Kd.int .i64) _ 3 ?hg (N := 34) ?hd (xs := ([] : List Int)) (inner := []) (ok := fun _ => True) (okp := fun _ => True) ?hr ?hp (fun _ hk => hk) trivial (Below.refl _ _) (Nat.le_refl _) (by simp) ?_; (case hd => rfl); (case hg => rfl); (case hr => go_simp); (case hp => exact (Reps.none _ _)); intro v202 w17 ho18 hb hg_ hnew_; clear hg_ hnew_; (first | rw [← Ny201.out] at ho18 | (simp only [Int.reduceToNat] at ho18; rw [← Ny201.out] at ho18)); have n0_ := Aside0.mk (Kd.R_elder' HO_0.out (Kd.R_base ho18) hb); have n1_ := Aside0.mk (Kd.R_lower (Kd.R_new' (Kd.R_newM (M := fun k_ => (P0_ k_ ∨ w.heap.size ≤ k_)) ho18 (by first | exact HK.out.1 | exact (show Kept w _ (fun k_ => P0_ k_) from by repeat (first | (with_reducible first | exact HK.out | apply Kept.alloc | apply Kept.drewN | apply Kept.drew) | exact HK.out)).1) (fun k_ h_ => .inr h_)) (Kd.R_lt HO_0.out)) (below_size HB.out)); have n2_ := Aside0.mk (Kept.below (S := (fun k_ => P0_ k_)) (by repeat (first | (with_reducible first | exact HK.out | apply Kept.alloc | apply Kept.drewN | apply Kept.drew) | exact HK.out)) hb); have n3_ := Aside0.mk (below_step HB.out hb); clear HO_0; clear HK; clear HB; have HO_0 := n0_; have HO203 := n1_; have HK := n2_; have HB := n3_; clear n0_ n1_ n2_ n3_; clear hb ho18; have q19 : (x5_1 : Int) ≤ ((l0.length : Int) : Int) := of_decide_eq_true (by assumption); obtain ⟨i019, hi019, _, hsz19, _⟩ := info_parts info3; have hroom19 : l0.length ≤ co16 := (Kd.R_reads' HO_0.out).2.1; have hC19 : Kd.C (Kd.int .i64) _ (some ad199) l0.length l0 := (Kd.R_reads' HO_0.out).2.2; have hcut19 := cut_to (P := Try.prog) 39 3 .i64 Try.underlying39 hi019 (some ad199) l0.length co16 x5_1 (of_decide_eq_true (by assumption)) q19 hroom19; have hr19 := Kd.C_take (m := (x5_1 : Int).toNat) hC19 (by omega); have hy19 : y204.length = (x5_1 : Int).toNat := (by rw [Ny204.out, List.length_take]; omega); rw [← Ny204.out] at hr19; rw [← hy19] at hcut19; have HR207 := Aside0.mk hr19; have HC207 := Aside0.mk (show y204.length ≤ co16 from by omega); clear hr19 hC19 hroom19 hi019 hsz19; have KY19 := Aside0.mk hy19; clear hy19; have KL19 := Aside0.mk (show (x5_1 : Int).toNat ≤ l0.length from by omega); replace q19 := eq_true q19) | ((with_reducible refine gate_builtin (b := .append) (xs := #[.tmp 34, .tmp 37]) rfl ?_); at_builtin; refine Kd.R_append_rows (Kd.int .i64) (w0 := w0) w0.heap.size rfl (.tmp 34) (.tmp 37) 39 3 (.int .i64 0) 8 rfl Try.underlying39 info3 rfl (by decide) (by omega) v202 y201 y204 _ _ _ (fun k_ => (P0_ k_ ∨ w.heap.size ≤ k_) ∧ some k_ ≠ (.slice (some ad199) l0.length co16 : Value).ownBlock) (fun _ => False) rfl rfl ?aO ?aR (fun _ _ h => h) (fun _ h => h.elim) ?aF ?aB ?aS ?aL ?_; (case aR => repeat (first | exact (by repeat (first | (with_reducible exact HR207.out) | (with_reducible refine Kd.C_alloc ?_ _) | (with_reducible refine Kd.C_drewN ?_ _) | (with_reducible refine Kd.C_drew ?_) | exact HR207.out)) | (with_reducible refine Kd.C_alloc ?_ _) | (with_reducible refine Kd.C_drewN ?_ _) | (with_reducible refine Kd.C_drew ?_))); (case aB => exact HB.out); (case aF => exact (fun k_ hk => ⟨(.inr (Nat.le_trans (by first | exact HK.out.1 | exact (show Kept w _ (fun k_ => P0_ k_) from by repeat (first | (with_reducible first | exact HK.out | apply Kept.alloc | apply Kept.drewN | apply Kept.drew) | exact HK.out)).1) hk)), Kd.fresh' (Kd.R_lt HO_0.out) k_ hk⟩)); (case aO => exact (by (with_reducible repeat (first | apply Kd.R_alloc | apply Kd.R_drewN | apply Kd.R_drew)); exact Kd.R_mono HO203.out (fun _ hk => ⟨hk.1.1, hk.2⟩))); (case aS => exact (below_size HB.out)); (case aL => have := LMc11.out; omega); intro v209 w20 ho hb hg hat; rw [← Ny208.out] at ho; have n0_ := Aside0.mk (Kd.R_after (ok := (fun k_ => (P0_ k_ ∨ w.heap.size ≤ k_))) HO_0.out hg hat); have n1_ := Aside0.mk (hb); have n2_ := Aside0.mk (Kept.of_grown (S := (fun k_ => P0_ k_)) hg (by repeat (first | (with_reducible first | exact HK.out | apply Kept.alloc | apply Kept.drewN | apply Kept.drew) | exact HK.out)) (fun k_ e_ => (HO203.out.1 k_ e_).1.1)); have n3_ := Aside0.mk ((show Kd.C (Kd.int .i64) w20 (some ad199) y204.length y204 from by rw [Ny204.out]; exact Kd.C_take (m := (x5_1 : Int).toNat) ((Kd.R_reads' (Kd.R_after (ok := (fun k_ => (P0_ k_ ∨ w.heap.size ≤ k_))) HO_0.out hg hat)).2.2) KL19.out)); have n4_ := Aside0.mk (ho); clear HO_0; clear HB; clear HK; clear HR207; clear HO203; have HO_0 := n0_; have HB := n1_; have HK := n2_; have HR207 := n3_; have HO210 := n4_; clear n0_ n1_ n2_ n3_ n4_; clear ho hb hg hat) | ((with_reducible refine gate_builtin (b := .append) (xs := #[.tmp 39, .tmp 41]) rfl ?_); at_builtin; refine Kd.R_append (Kd.int .i64) (w0 := w0) w0.heap.size rfl (.tmp 39) (.tmp 41) 39 3 (.int .i64 0) 8 rfl Try.underlying39 info3 rfl (by decide) (by omega) v209 y208 a1 [.int .i64 a1] (fun k_ => (P0_ k_ ∨ w.heap.size ≤ k_) ∧ some k_ ≠ (.slice (some ad199) l0.length co16 : Value).ownBlock) (fun _ => False) rfl rfl ?aP (fun _ hk => hk.elim) ?aF ?aO ?aB ?aS ?aL ?_; (case aP => exact rfl); (case aB => exact HB.out); (case aF => exact (fun k_ hk => ⟨(.inr (Nat.le_trans (by first | exact HK.out.1 | exact (show Kept w _ (fun k_ => P0_ k_) from by repeat (first | (with_reducible first | exact HK.out | apply Kept.alloc | apply Kept.drewN | apply Kept.drew) | exact HK.out)).1) hk)), Kd.fresh' (Kd.R_lt HO_0.out) k_ hk⟩)); (case aO => exact HO210.out); (case aS => exact (below_size HB.out)); (case aL => have := LMc12.out; omega); intro v212 w21 ho hb hg hat; rw [← Ny211.out] at ho; have n0_ := Aside0.mk (Kd.R_after (ok := (fun k_ => (P0_ k_ ∨ w.heap.size ≤ k_))) HO_0.out hg hat); have n1_ := Aside0.mk (hb); have n2_ := Aside0.mk (Kept.of_grown (S := (fun k_ => P0_ k_)) hg (by repeat (first | (with_reducible first | exact HK.out | apply Kept.alloc | apply Kept.drewN | apply Kept.drew) | exact HK.out)) (fun k_ e_ => (HO210.out.1 k_ e_).1)); have n3_ := Aside0.mk ((show Kd.C (Kd.int .i64) w21 (some ad199) y204.length y204 from by rw [Ny204.out]; exact Kd.C_take (m := (x5_1 : Int).toNat) ((Kd.R_reads' (Kd.R_after (ok := (fun k_ => (P0_ k_ ∨ w.heap.size ≤ k_))) HO_0.out hg hat)).2.2) KL19.out)); have n4_ := Aside0.mk (ho); clear HO_0; clear HB; clear HK; clear HR207; clear HO210; have HO_0 := n0_; have HB := n1_; have HK := n2_; have HR207 := n3_; have HO213 := n4_; clear n0_ n1_ n2_ n3_ n4_; clear ho hb hg hat; have q22 : (x5_1 : Int) ≤ ((l0.length : Int) : Int) := of_decide_eq_true (by assumption); obtain ⟨i022, hi022, _, hsz22, _⟩ := info_parts info3; have hroom22 : l0.length ≤ co16 := (Kd.R_reads' HO_0.out).2.1; have hC22 : Kd.C (Kd.int .i64) _ (some ad199) l0.length l0 := (Kd.R_reads' HO_0.out).2.2; have q022 : (0 : Int) ≤ (x5_1 : Int) := of_decide_eq_true (by assumption); have hcut22 := cut_from (P := Try.prog) 39 3 .i64 Try.underlying39 hi022 1 hsz22 (some ad199) l0.length co16 x5_1 q022 q22; have hr22 := Kd.C_drop (m := (x5_1 : Int).toNat) (c := co16) hC22 (by omega) hroom22; obtain ⟨A22, hA22⟩ : ∃ A1, A1 = (if co16 = (x5_1 : Int).toNat then (some ad199) else ((some ad199) : Option Addr).map (·.add ((x5_1 : Int).toNat * 1))) := ⟨_, rfl⟩; obtain ⟨c22, hc22⟩ : ∃ c1, c1 = co16 - (x5_1 : Int).toNat := ⟨_, rfl⟩; have hy22 : y214.length = l0.length - (x5_1 : Int).toNat := (by rw [Ny214.out, List.length_drop] <;> omega); rw [show (l0).drop (x5_1 : Int).toNat = y214 from Ny214.out.symm] at hr22; replace hr22 : Kd.C (Kd.int .i64) _ A22 y214.length y214 := (by rw [hA22]; exact hr22); rw [← hy22, ← hA22, ← hc22] at hcut22; have HR217 := Aside0.mk hr22; have HC217 := Aside0.mk (show y214.length ≤ c22 from by rw [hy22, hc22]; exact Nat.sub_le_sub_right hroom22 _); clear hr22 hC22 hroom22 hi022 hsz22 hc22; have KY22 := Aside0.mk hy22; have KA22 := Aside0.mk hA22; clear hy22 hA22; have KL22 := Aside0.mk (show (x5_1 : Int).toNat ≤ l0.length from by omega); replace q22 := eq_true q22) | ((with_reducible refine gate_builtin (b := .append) (xs := #[.tmp 43, .tmp 46]) rfl ?_); at_builtin; refine Kd.R_append_rows (Kd.int .i64) (w0 := w0) w0.heap.size rfl (.tmp 43) (.tmp 46) 39 3 (.int .i64 0) 8 rfl Try.underlying39 info3 rfl (by decide) (by omega) v212 y211 y214 _ _ _ (fun k_ => (P0_ k_ ∨ w.heap.size ≤ k_) ∧ some k_ ≠ (.slice (some ad199) l0.length co16 : Value).ownBlock) (fun _ => False) rfl rfl ?aO ?aR (fun _ _ h => h) (fun _ h => h.elim) ?aF ?aB ?aS ?aL ?_; (case aR => repeat (first | exact (by repeat (first | (with_reducible exact HR217.out) | (with_reducible refine Kd.C_alloc ?_ _) | (with_reducible refine Kd.C_drewN ?_ _) | (with_reducible refine Kd.C_drew ?_) | exact HR217.out)) | (with_reducible refine Kd.C_alloc ?_ _) | (with_reducible refine Kd.C_drewN ?_ _) | (with_reducible refine Kd.C_drew ?_))); (case aB => exact HB.out); (case aF => exact (fun k_ hk => ⟨(.inr (Nat.le_trans (by first | exact HK.out.1 | exact (show Kept w _ (fun k_ => P0_ k_) from by repeat (first | (with_reducible first | exact HK.out | apply Kept.alloc | apply Kept.drewN | apply Kept.drew) | exact HK.out)).1) hk)), Kd.fresh' (Kd.R_lt HO_0.out) k_ hk⟩)); (case aO => exact HO213.out); (case aS => exact (below_size HB.out)); (case aL => have := LMc15.out; omega); intro v219 w23 ho hb hg hat; rw [← Ny218.out] at ho; have n0_ := Aside0.mk (Kd.R_after (ok := (fun k_ => (P0_ k_ ∨ w.heap.size ≤ k_))) HO_0.out hg hat); have n1_ := Aside0.mk (hb); have n2_ := Aside0.mk (Kept.of_grown (S := (fun k_ => P0_ k_)) hg (by repeat (first | (with_reducible first | exact HK.out | apply Kept.alloc | apply Kept.drewN | apply Kept.drew) | exact HK.out)) (fun k_ e_ => (HO213.out.1 k_ e_).1)); have n3_ := Aside0.mk ((show Kd.C (Kd.int .i64) w23 (some ad199) y204.length y204 from by rw [Ny204.out]; exact Kd.C_take (m := (x5_1 : Int).toNat) ((Kd.R_reads' (Kd.R_after (ok := (fun k_ => (P0_ k_ ∨ w.heap.size ≤ k_))) HO_0.out hg hat)).2.2) KL19.out)); have n4_ := Aside0.mk ((show Kd.C (Kd.int .i64) w23 A22 y214.length y214 from by rw [Ny214.out, KA22.out]; exact Kd.C_drop (m := (x5_1 : Int).toNat) (c := co16) ((Kd.R_reads' (Kd.R_after (ok := (fun k_ => (P0_ k_ ∨ w.heap.size ≤ k_))) HO_0.out hg hat)).2.2) KL22.out ((Kd.R_reads' (Kd.R_after (ok := (fun k_ => (P0_ k_ ∨ w.heap.size ≤ k_))) HO_0.out hg hat)).2.1))); have n5_ := Aside0.mk (ho); clear HO_0; clear HB; clear HK; clear HR207; clear HR217; clear HO213; have HO_0 := n0_; have HB := n1_; have HK := n2_; have HR207 := n3_; have HR217 := n4_; have HO220 := n5_; clear n0_ n1_ n2_ n3_ n4_ n5_; clear ho hb hg hat))
           go_ret
           exact ⟨_, by first | rfl | (simp [errW_none, errW_some] <;> rfl) | (simp [*, errW_none, errW_some] <;> rfl), by (with_reducible repeat (first | apply Kd.R_alloc | apply Kd.R_drewN | apply Kd.R_drew)); exact Kd.R_mono HO220.out (fun _ hk => hk.1), by exact HB.out, by repeat (first | (with_reducible first | exact HK.out | apply Kept.alloc | apply Kept.drewN | apply Kept.drew) | exact HK.out)⟩
          ·rw [if_neg c15] at H
           exact absurd H (by simp)
         ·rw [if_neg c12] at H
          exact absurd H (by simp)
        ·rw [if_neg c11] at H
         exact absurd H (by simp)
       ·rw [if_neg c10] at H
        exact absurd H (by simp)
    ·rw [if_neg c4] at H
     exact absurd H (by simp)
   ·rw [if_neg c3] at H
    have c3b0 : decide (x5_1 < (l0.length : Int)) = false := decide_eq_false c3
    clear c3
    obtain ⟨y221, hy221⟩ : ∃ y_ : List Int, y_ = (([] : List Int)) := ⟨_, rfl⟩
    replace H : (if 0 ≤ x5_1 then (if x5_1 ≤ (l0.length : Int) then ((some (l0.take (x5_1 : Int).toNat : List Int)).bind fun y224 => (if y221.length + y224.length < 17592186044416 then ((some (y221 ++ y224 : List Int)).bind fun y228 => (if y228.length < 17592186044416 then ((some (y228 ++ [a1] : List Int)).bind fun y231 => ((some (l0.drop (x5_1 : Int).toNat : List Int)).bind fun y234 => (if y231.length + y234.length < 17592186044416 then (some (y231 ++ y234)) else (none)))) else (none))) else (none))) else (none)) else (none)) = some r := by first | (rw [hy221]; with_reducible exact H) | (have H2_ := (Option.bind_some _ _).symm.trans H; rw [hy221]; with_reducible exact H2_) | (have H2_ := (Option.bind_some _ _).symm.trans H; with_reducible exact H2_) | with_reducible exact H | (rw [hy221]; exact H) | exact H
    have Ny221 := Aside0.mk hy221
    clear hy221
    by_cases c24 : 0 ≤ x5_1
    ·rw [if_pos c24] at H
     have c24b0 := eq_true c24
     have c24b1 : decide (0 ≤ x5_1) = true := decide_eq_true c24
     clear c24
     by_cases c25 : x5_1 ≤ (l0.length : Int)
     ·rw [if_pos c25] at H
      have c25b0 := eq_true c25
      have c25b1 : decide (x5_1 ≤ (l0.length : Int)) = true := decide_eq_true c25
      clear c25
      obtain ⟨y224, hy224⟩ : ∃ y_ : List Int, y_ = (l0.take (x5_1 : Int).toNat) := ⟨_, rfl⟩
      replace H : (if y221.length + y224.length < 17592186044416 then ((some (y221 ++ y224 : List Int)).bind fun y228 => (if y228.length < 17592186044416 then ((some (y228 ++ [a1] : List Int)).bind fun y231 => ((some (l0.drop (x5_1 : Int).toNat : List Int)).bind fun y234 => (if y231.length + y234.length < 17592186044416 then (some (y231 ++ y234)) else (none)))) else (none))) else (none)) = some r := by first | (rw [hy224]; with_reducible exact H) | (have H2_ := (Option.bind_some _ _).symm.trans H; rw [hy224]; with_reducible exact H2_) | (have H2_ := (Option.bind_some _ _).symm.trans H; with_reducible exact H2_) | with_reducible exact H | (rw [hy224]; exact H) | exact H
      have Ny224 := Aside0.mk hy224
      clear hy224
      by_cases c26 : y221.length + y224.length < 17592186044416
      ·rw [if_pos c26] at H
       have LMc26 := Aside0.mk c26
       clear c26
       obtain ⟨y228, hy228⟩ : ∃ y_ : List Int, y_ = (y221 ++ y224) := ⟨_, rfl⟩
       replace H : (if y228.length < 17592186044416 then ((some (y228 ++ [a1] : List Int)).bind fun y231 => ((some (l0.drop (x5_1 : Int).toNat : List Int)).bind fun y234 => (if y231.length + y234.length < 17592186044416 then (some (y231 ++ y234)) else (none)))) else (none)) = some r := by first | (rw [hy228]; with_reducible exact H) | (have H2_ := (Option.bind_some _ _).symm.trans H; rw [hy228]; with_reducible exact H2_) | (have H2_ := (Option.bind_some _ _).symm.trans H; with_reducible exact H2_) | with_reducible exact H | (rw [hy228]; exact H) | exact H
       have Ny228 := Aside0.mk hy228
       clear hy228
       by_cases c27 : y228.length < 17592186044416
       ·rw [if_pos c27] at H
        have LMc27 := Aside0.mk c27
        clear c27
        obtain ⟨y231, hy231⟩ : ∃ y_ : List Int, y_ = (y228 ++ [a1]) := ⟨_, rfl⟩
        replace H : ((some (l0.drop (x5_1 : Int).toNat : List Int)).bind fun y234 => (if y231.length + y234.length < 17592186044416 then (some (y231 ++ y234)) else (none))) = some r := by first | (rw [hy231]; with_reducible exact H) | (have H2_ := (Option.bind_some _ _).symm.trans H; rw [hy231]; with_reducible exact H2_) | (have H2_ := (Option.bind_some _ _).symm.trans H; with_reducible exact H2_) | with_reducible exact H | (rw [hy231]; exact H) | exact H
        have Ny231 := Aside0.mk hy231
        clear hy231
        have c28b0 := eq_true (of_decide_eq_true (by assumption) : 0 ≤ x5_1)
        have c29b0 := eq_true (of_decide_eq_true (by assumption) : x5_1 ≤ (l0.length : Int))
        obtain ⟨y234, hy234⟩ : ∃ y_ : List Int, y_ = (l0.drop (x5_1 : Int).toNat) := ⟨_, rfl⟩
        replace H : (if y231.length + y234.length < 17592186044416 then (some (y231 ++ y234)) else (none)) = some r := by first | (rw [hy234]; with_reducible exact H) | (have H2_ := (Option.bind_some _ _).symm.trans H; rw [hy234]; with_reducible exact H2_) | (have H2_ := (Option.bind_some _ _).symm.trans H; with_reducible exact H2_) | with_reducible exact H | (rw [hy234]; exact H) | exact H
        have Ny234 := Aside0.mk hy234
        clear hy234
        by_cases c30 : y231.length + y234.length < 17592186044416
        ·rw [if_pos c30] at H
         have LMc30 := Aside0.mk c30
         clear c30
         obtain ⟨y238, hy238⟩ : ∃ y_ : List Int, y_ = (y231 ++ y234) := ⟨_, rfl⟩
         replace H : (some y238) = some r := by first | (rw [hy238]; with_reducible exact H) | (have H2_ := (Option.bind_some _ _).symm.trans H; rw [hy238]; with_reducible exact H2_) | (have H2_ := (Option.bind_some _ _).symm.trans H; with_reducible exact H2_) | with_reducible exact H | (rw [hy238]; exact H) | exact H
         have Ny238 := Aside0.mk hy238
         clear hy238
         obtain rfl := Option.some.inj H
         obtain ⟨Ao31, co31, eo31⟩ := Kd.R_slice HO_0.out
         subst eo31
         go_wp2_with (first | ((with_reducible refine gate_dst (N := 34) rfl ?_); refine Kd.R_lit (Kd.int .i64) _ 3 ?hg (N := 34) ?hd (xs := ([] : List Int)) (inner := []) (ok := fun _ => True) (okp := fun _ => True) ?hr ?hp (fun _ hk => hk) trivial (Below.refl _ _) (Nat.le_refl _) (by simp) ?_; (case hd => rfl); (case hg => rfl); (case hr => go_simp); (case hp => exact (Reps.none _ _)); intro v222 w32 ho33 hb hg_ hnew_; clear hg_ hnew_; (first | rw [← Ny221.out] at ho33 | (simp only [Int.reduceToNat] at ho33; rw [← Ny221.out] at ho33)); have n0_ := Aside0.mk (Kd.R_elder' HO_0.out (Kd.R_base ho33) hb); have n1_ := Aside0.mk (Kd.R_lower (Kd.R_new' (Kd.R_newM (M := fun k_ => (P0_ k_ ∨ w.heap.size ≤ k_)) ho33 (by first | exact HK.out.1 | exact (show Kept w _ (fun k_ => P0_ k_) from by repeat (first | (with_reducible first | exact HK.out | apply Kept.alloc | apply Kept.drewN | apply Kept.drew) | exact HK.out)).1) (fun k_ h_ => .inr h_)) (Kd.R_lt HO_0.out)) (below_size HB.out)); have n2_ := Aside0.mk (Kept.below (S := (fun k_ => P0_ k_)) (by repeat (first | (with_reducible first | exact HK.out | apply Kept.alloc | apply Kept.drewN | apply Kept.drew) | exact HK.out)) hb); have n3_ := Aside0.mk (below_step HB.out hb); clear HO_0; clear HK; clear HB; have HO_0 := n0_; have HO223 := n1_; have HK := n2_; have HB := n3_; clear n0_ n1_ n2_ n3_; clear hb ho33; have q34 : (x5_1 : Int) ≤ ((l0.length : Int) : Int) := of_decide_eq_true (by assumption); obtain ⟨i034, hi034, _, hsz34, _⟩ := info_parts info3; have hroom34 : l0.length ≤ co31 := (Kd.R_reads' HO_0.out).2.1; have hC34 : Kd.C (Kd.int .i64) _ Ao31 l0.length l0 := (Kd.R_reads' HO_0.out).2.2; have hcut34 := cut_to (P := Try.prog) 39 3 .i64 Try.underlying39 hi034 Ao31 l0.length co31 x5_1 (of_decide_eq_true (by assumption)) q34 hroom34; have hr34 := Kd.C_take (m := (x5_1 : Int).toNat) hC34 (by omega); have hy34 : y224.length = (x5_1 : Int).toNat := (by rw [Ny224.out, List.length_take]; omega); rw [← Ny224.out] at hr34; rw [← hy34] at hcut34; have HR227 := Aside0.mk hr34; have HC227 := Aside0.mk (show y224.length ≤ co31 from by omega); clear hr34 hC34 hroom34 hi034 hsz34; have KY34 := Aside0.mk hy34; clear hy34; have KL34 := Aside0.mk (show (x5_1 : Int).toNat ≤ l0.length from by omega); replace q34 := eq_true q34) | ((with_reducible refine gate_builtin (b := .append) (xs := #[.tmp 34, .tmp 37]) rfl ?_); at_builtin; refine Kd.R_append_rows (Kd.int .i64) (w0 := w0) w0.heap.size rfl (.tmp 34) (.tmp 37) 39 3 (.int .i64 0) 8 rfl Try.underlying39 info3 rfl (by decide) (by omega) v222 y221 y224 _ _ _ (fun k_ => (P0_ k_ ∨ w.heap.size ≤ k_) ∧ some k_ ≠ (.slice Ao31 l0.length co31 : Value).ownBlock) (fun _ => False) rfl rfl ?aO ?aR (fun _ _ h => h) (fun _ h => h.elim) ?aF ?aB ?aS ?aL ?_; (case aR => repeat (first | exact (by repeat (first | (with_reducible exact HR227.out) | (with_reducible refine Kd.C_alloc ?_ _) | (with_reducible refine Kd.C_drewN ?_ _) | (with_reducible refine Kd.C_drew ?_) | exact HR227.out)) | (with_reducible refine Kd.C_alloc ?_ _) | (with_reducible refine Kd.C_drewN ?_ _) | (with_reducible refine Kd.C_drew ?_))); (case aB => exact HB.out); (case aF => exact (fun k_ hk => ⟨(.inr (Nat.le_trans (by first | exact HK.out.1 | exact (show Kept w _ (fun k_ => P0_ k_) from by repeat (first | (with_reducible first | exact HK.out | apply Kept.alloc | apply Kept.drewN | apply Kept.drew) | exact HK.out)).1) hk)), Kd.fresh' (Kd.R_lt HO_0.out) k_ hk⟩)); (case aO => exact (by (with_reducible repeat (first | apply Kd.R_alloc | apply Kd.R_drewN | apply Kd.R_drew)); exact Kd.R_mono HO223.out (fun _ hk => ⟨hk.1.1, hk.2⟩))); (case aS => exact (below_size HB.out)); (case aL => have := LMc26.out; omega); intro v229 w35 ho hb hg hat; rw [← Ny228.out] at ho; have n0_ := Aside0.mk (Kd.R_after (ok := (fun k_ => (P0_ k_ ∨ w.heap.size ≤ k_))) HO_0.out hg hat); have n1_ := Aside0.mk (hb); have n2_ := Aside0.mk (Kept.of_grown (S := (fun k_ => P0_ k_)) hg (by repeat (first | (with_reducible first | exact HK.out | apply Kept.alloc | apply Kept.drewN | apply Kept.drew) | exact HK.out)) (fun k_ e_ => (HO223.out.1 k_ e_).1.1)); have n3_ := Aside0.mk ((show Kd.C (Kd.int .i64) w35 Ao31 y224.length y224 from by rw [Ny224.out]; exact Kd.C_take (m := (x5_1 : Int).toNat) ((Kd.R_reads' (Kd.R_after (ok := (fun k_ => (P0_ k_ ∨ w.heap.size ≤ k_))) HO_0.out hg hat)).2.2) KL34.out)); have n4_ := Aside0.mk (ho); clear HO_0; clear HB; clear HK; clear HR227; clear HO223; have HO_0 := n0_; have HB := n1_; have HK := n2_; have HR227 := n3_; have HO230 := n4_; clear n0_ n1_ n2_ n3_ n4_; clear ho hb hg hat) | ((with_reducible refine gate_builtin (b := .append) (xs := #[.tmp 39, .tmp 41]) rfl ?_); at_builtin; refine Kd.R_append (Kd.int .i64) (w0 := w0) w0.heap.size rfl (.tmp 39) (.tmp 41) 39 3 (.int .i64 0) 8 rfl Try.underlying39 info3 rfl (by decide) (by omega) v229 y228 a1 [.int .i64 a1] (fun k_ => (P0_ k_ ∨ w.heap.size ≤ k_) ∧ some k_ ≠ (.slice Ao31 l0.length co31 : Value).ownBlock) (fun _ => False) rfl rfl ?aP (fun _ hk => hk.elim) ?aF ?aO ?aB ?aS ?aL ?_; (case aP => exact rfl); (case aB => exact HB.out); (case aF => exact (fun k_ hk => ⟨(.inr (Nat.le_trans (by first | exact HK.out.1 | exact (show Kept w _ (fun k_ => P0_ k_) from by repeat (first | (with_reducible first | exact HK.out | apply Kept.alloc | apply Kept.drewN | apply Kept.drew) | exact HK.out)).1) hk)), Kd.fresh' (Kd.R_lt HO_0.out) k_ hk⟩)); (case aO => exact HO230.out); (case aS => exact (below_size HB.out)); (case aL => have := LMc27.out; omega); intro v232 w36 ho hb hg hat; rw [← Ny231.out] at ho; have n0_ := Aside0.mk (Kd.R_after (ok := (fun k_ => (P0_ k_ ∨ w.heap.size ≤ k_))) HO_0.out hg hat); have n1_ := Aside0.mk (hb); have n2_ := Aside0.mk (Kept.of_grown (S := (fun k_ => P0_ k_)) hg (by repeat (first | (with_reducible first | exact HK.out | apply Kept.alloc | apply Kept.drewN | apply Kept.drew) | exact HK.out)) (fun k_ e_ => (HO230.out.1 k_ e_).1)); have n3_ := Aside0.mk ((show Kd.C (Kd.int .i64) w36 Ao31 y224.length y224 from by rw [Ny224.out]; exact Kd.C_take (m := (x5_1 : Int).toNat) ((Kd.R_reads' (Kd.R_after (ok := (fun k_ => (P0_ k_ ∨ w.heap.size ≤ k_))) HO_0.out hg hat)).2.2) KL34.out)); have n4_ := Aside0.mk (ho); clear HO_0; clear HB; clear HK; clear HR227; clear HO230; have HO_0 := n0_; have HB := n1_; have HK := n2_; have HR227 := n3_; have HO233 := n4_; clear n0_ n1_ n2_ n3_ n4_; clear ho hb hg hat; have q37 : (x5_1 : Int) ≤ ((l0.length : Int) : Int) := of_decide_eq_true (by assumption); obtain ⟨i037, hi037, _, hsz37, _⟩ := info_parts info3; have hroom37 : l0.length ≤ co31 := (Kd.R_reads' HO_0.out).2.1; have hC37 : Kd.C (Kd.int .i64) _ Ao31 l0.length l0 := (Kd.R_reads' HO_0.out).2.2; have q037 : (0 : Int) ≤ (x5_1 : Int) := of_decide_eq_true (by assumption); have hcut37 := cut_from (P := Try.prog) 39 3 .i64 Try.underlying39 hi037 1 hsz37 Ao31 l0.length co31 x5_1 q037 q37; have hr37 := Kd.C_drop (m := (x5_1 : Int).toNat) (c := co31) hC37 (by omega) hroom37; obtain ⟨A37, hA37⟩ : ∃ A1, A1 = (if co31 = (x5_1 : Int).toNat then Ao31 else (Ao31 : Option Addr).map (·.add ((x5_1 : Int).toNat * 1))) := ⟨_, rfl⟩; obtain ⟨c37, hc37⟩ : ∃ c1, c1 = co31 - (x5_1 : Int).toNat := ⟨_, rfl⟩; have hy37 : y234.length = l0.length - (x5_1 : Int).toNat := (by rw [Ny234.out, List.length_drop] <;> omega); rw [show (l0).drop (x5_1 : Int).toNat = y234 from Ny234.out.symm] at hr37; replace hr37 : Kd.C (Kd.int .i64) _ A37 y234.length y234 := (by rw [hA37]; exact hr37); rw [← hy37, ← hA37, ← hc37] at hcut37; have HR237 := Aside0.mk hr37; have HC237 := Aside0.mk (show y234.length ≤ c37 from by rw [hy37, hc37]; exact Nat.sub_le_sub_right hroom37 _); clear hr37 hC37 hroom37 hi037 hsz37 hc37; have KY37 := Aside0.mk hy37; have KA37 := Aside0.mk hA37; clear hy37 hA37; have KL37 := Aside0.mk (show (x5_1 : Int).toNat ≤ l0.length from by omega); replace q37 := eq_true q37) | ((with_reducible refine gate_builtin (b := .append) (xs := #[.tmp 43, .tmp 46]) rfl ?_); at_builtin; refine Kd.R_append_rows (Kd.int .i64) (w0 := w0) w0.heap.size rfl (.tmp 43) (.tmp 46) 39 3 (.int .i64 0) 8 rfl Try.underlying39 info3 rfl (by decide) (by omega) v232 y231 y234 _ _ _ (fun k_ => (P0_ k_ ∨ w.heap.size ≤ k_) ∧ some k_ ≠ (.slice Ao31 l0.length co31 : Value).ownBlock) (fun _ => False) rfl rfl ?aO ?aR (fun _ _ h => h) (fun _ h => h.elim) ?aF ?aB ?aS ?aL ?_; (case aR => repeat (first | exact (by repeat (first | (with_reducible exact HR237.out) | (with_reducible refine Kd.C_alloc ?_ _) | (with_reducible refine Kd.C_drewN ?_ _) | (with_reducible refine Kd.C_drew ?_) | exact HR237.out)) | (with_reducible refine Kd.C_alloc ?_ _) | (with_reducible refine Kd.C_drewN ?_ _) | (with_reducible refine Kd.C_drew ?_))); (case aB => exact HB.out); (case aF => exact (fun k_ hk => ⟨(.inr (Nat.le_trans (by first | exact HK.out.1 | exact (show Kept w _ (fun k_ => P0_ k_) from by repeat (first | (with_reducible first | exact HK.out | apply Kept.alloc | apply Kept.drewN | apply Kept.drew) | exact HK.out)).1) hk)), Kd.fresh' (Kd.R_lt HO_0.out) k_ hk⟩)); (case aO => exact HO233.out); (case aS => exact (below_size HB.out)); (case aL => have := LMc30.out; omega); intro v239 w38 ho hb hg hat; rw [← Ny238.out] at ho; have n0_ := Aside0.mk (Kd.R_after (ok := (fun k_ => (P0_ k_ ∨ w.heap.size ≤ k_))) HO_0.out hg hat); have n1_ := Aside0.mk (hb); have n2_ := Aside0.mk (Kept.of_grown (S := (fun k_ => P0_ k_)) hg (by repeat (first | (with_reducible first | exact HK.out | apply Kept.alloc | apply Kept.drewN | apply Kept.drew) | exact HK.out)) (fun k_ e_ => (HO233.out.1 k_ e_).1)); have n3_ := Aside0.mk ((show Kd.C (Kd.int .i64) w38 Ao31 y224.length y224 from by rw [Ny224.out]; exact Kd.C_take (m := (x5_1 : Int).toNat) ((Kd.R_reads' (Kd.R_after (ok := (fun k_ => (P0_ k_ ∨ w.heap.size ≤ k_))) HO_0.out hg hat)).2.2) KL34.out)); have n4_ := Aside0.mk ((show Kd.C (Kd.int .i64) w38 A37 y234.length y234 from by rw [Ny234.out, KA37.out]; exact Kd.C_drop (m := (x5_1 : Int).toNat) (c := co31) ((Kd.R_reads' (Kd.R_after (ok := (fun k_ => (P0_ k_ ∨ w.heap.size ≤ k_))) HO_0.out hg hat)).2.2) KL37.out ((Kd.R_reads' (Kd.R_after (ok := (fun k_ => (P0_ k_ ∨ w.heap.size ≤ k_))) HO_0.out hg hat)).2.1))); have n5_ := Aside0.mk (ho); clear HO_0; clear HB; clear HK; clear HR227; clear HR237; clear HO233; have HO_0 := n0_; have HB := n1_; have HK := n2_; have HR227 := n3_; have HR237 := n4_; have HO240 := n5_; clear n0_ n1_ n2_ n3_ n4_ n5_; clear ho hb hg hat))
         go_ret
         exact ⟨_, by first | rfl | (simp [errW_none, errW_some] <;> rfl) | (simp [*, errW_none, errW_some] <;> rfl), by (with_reducible repeat (first | apply Kd.R_alloc | apply Kd.R_drewN | apply Kd.R_drew)); exact Kd.R_mono HO240.out (fun _ hk => hk.1), by exact HB.out, by repeat (first | (with_reducible first | exact HK.out | apply Kept.alloc | apply Kept.drewN | apply Kept.drew) | exact HK.out)⟩
        ·rw [if_neg c30] at H
         exact absurd H (by simp)
       ·rw [if_neg c27] at H
        exact absurd H (by simp)
      ·rw [if_neg c26] at H
       exact absurd H (by simp)
     ·rw [if_neg c25] at H
      exact absurd H (by simp)
    ·rw [if_neg c24] at H
     exact absurd H (by simp)
/-! ### spec_l10Bit: function 61 -/
def spec_l10Bit.f (a0 : ByteArray) (a1 : Int) : Option (Int) := if 0 ≤ (wrap64 (Int.tdiv a1 8)) then (if (wrap64 (Int.tdiv a1 8)) < (a0.size : Int) then (if 0 ≤ (IntKind.u64.wrap (wrap64 (7 - (Int.tmod a1 8)))) then (some (Go.bits .and .i64 (wrap64 (shr .u8 (bt a0 (wrap64 (Int.tdiv a1 8))) (IntKind.u64.wrap (wrap64 (7 - (Int.tmod a1 8)))))) 1)) else (none)) else (none)) else (none)
set_option maxHeartbeats 8000000 in
set_option maxRecDepth 100000 in
theorem spec_l10Bit.calls (a0 : ByteArray) (a1 : Int) (r : Int) (w : World) (h : spec_l10Bit.f a0 a1 = some r) :
  Calls Try.prog 61 #[.string a0, .int .i64 a1] w fun e w' => e = .returned (.int .i64 r) ∧ Drawn0 w w' := by
 have H : (if 0 ≤ (wrap64 (Int.tdiv a1 8)) then (if (wrap64 (Int.tdiv a1 8)) < (a0.size : Int) then (if 0 ≤ (IntKind.u64.wrap (wrap64 (7 - (Int.tmod a1 8)))) then (some (Go.bits .and .i64 (wrap64 (shr .u8 (bt a0 (wrap64 (Int.tdiv a1 8))) (IntKind.u64.wrap (wrap64 (7 - (Int.tmod a1 8)))))) 1)) else (none)) else (none)) else (none)) = some r := h
 clear h
 obtain ⟨ji3, hji3⟩ : ∃ j_ : Int, (wrap64 (Int.tdiv a1 8)) = j_ := ⟨_, rfl⟩
 replace H : (if 0 ≤ (ji3) then (if (ji3) < (a0.size : Int) then (if 0 ≤ (IntKind.u64.wrap (wrap64 (7 - (Int.tmod a1 8)))) then (some (Go.bits .and .i64 (wrap64 (shr .u8 (bt a0 (ji3)) (IntKind.u64.wrap (wrap64 (7 - (Int.tmod a1 8)))))) 1)) else (none)) else (none)) else (none)) = some r := by first | (rw [hji3] at H; exact H) | (simp only [hji3] at H ⊢; exact H)
 have hji3w : (IntKind.i64.wrap (Int.tdiv a1 8)) = ji3 := (i64_w _).trans hji3
 by_cases c4 : 0 ≤ (ji3)
 ·rw [if_pos c4] at H
  have c4b0 : decide (0 ≤ (ji3)) = true := decide_eq_true c4
  clear c4
  by_cases c5 : (ji3) < (a0.size : Int)
  ·rw [if_pos c5] at H
   have c5b0 : decide ((ji3) < (a0.size : Int)) = true := decide_eq_true c5
   clear c5
   obtain ⟨ji7, hji7⟩ : ∃ j_ : Int, (IntKind.u64.wrap (wrap64 (7 - (Int.tmod a1 8)))) = j_ := ⟨_, rfl⟩
   replace H : (if 0 ≤ (ji7) then (some (Go.bits .and .i64 (wrap64 (shr .u8 (bt a0 (ji3)) (ji7))) 1)) else (none)) = some r := by first | (rw [hji7] at H; exact H) | (simp only [hji7] at H ⊢; exact H)
   by_cases c8 : 0 ≤ (ji7)
   ·rw [if_pos c8] at H
    have c8b0 := eq_true c8
    have c8b1 : decide (0 ≤ (ji7)) = true := decide_eq_true c8
    clear c8
    obtain ⟨ji9, hji9⟩ : ∃ j_ : Int, (shr .u8 (bt a0 (ji3)) (ji7)) = j_ := ⟨_, rfl⟩
    replace H : (some (Go.bits .and .i64 (wrap64 (ji9)) 1)) = some r := by first | (rw [hji9] at H; exact H) | (simp only [hji9] at H ⊢; exact H)
    have hji9_ : ((bt a0 (ji3)) / 2 ^ min (ji7).toNat 8) = ji9 := hji9
    have hji9z : (ji7) ≤ 8 → ((bt a0 (ji3)) / 2 ^ (ji7).toNat) = ji9 := shr_small hji9
    obtain rfl := Option.some.inj H
    have p6 : 0 ≤ ((ji3) : Int) := of_decide_eq_true (by assumption)
    have q6 : (ji3) < (a0.size : Int) := of_decide_eq_true (by assumption)
    have hx6 := bt_at a0 (ji3)
    replace p6 := eq_true p6
    replace q6 := eq_true q6
    go_enter Try.func61, Try.ntmps61
    go_wp2
    go_ret
    exact ⟨by first | rfl | (simp; done) | (simp only [← hji3, ← hji7, ← hji9] <;> (first | rfl | simp)) | (simp [*]; done), by repeat (first | exact Drawn0.refl _ | apply Drawn0.step)⟩
   ·rw [if_neg c8] at H
    exact absurd H (by simp)
  ·rw [if_neg c5] at H
   exact absurd H (by simp)
 ·rw [if_neg c4] at H
  exact absurd H (by simp)
/-! ### spec_l10Unlike: function 76 -/
def spec_l10Unlike.l0 : Nat → ByteArray → ByteArray → Int → Option (Int)
 | 0, _, _, _ => none
 | k + 1, x0, x1, x5 => (spec_l10Bit.f x0 x5).bind fun t241 => ((spec_l10Bit.f x1 x5).bind fun t242 => (if t241 = t242 then (spec_l10Unlike.l0 k x0 x1 (wrap64 (x5 + 1))) else (some x5)))
def spec_l10Unlike.f (k : Nat) (a0 : ByteArray) (a1 : ByteArray) : Option (Int) := spec_l10Unlike.l0 k a0 a1 0
theorem spec_l10Unlike.mono_l : ∀ k, (∀ y0 y1 y2, LeO (spec_l10Unlike.l0 k y0 y1 y2) (spec_l10Unlike.l0 (k + 1) y0 y1 y2))
 | 0 => fun _ _ _ r h => by simp [spec_l10Unlike.l0] at h
 | k + 1 => by
  have ih0 := spec_l10Unlike.mono_l k
  ·intro y0 y1 y2
   unfold spec_l10Unlike.l0
   repeat' first
   | (with_reducible exact ih0 _ _ _)
   | (with_reducible exact LeO.refl _)
   | (with_reducible exact LeO.none _)
   | (with_reducible refine LeO.ite ?_ ?_)
   | (with_reducible refine LeO.bind ?_ (fun _ => ?_))
   | exact LeO.none _
   | refine LeO.ite ?_ ?_
   | refine LeO.bind ?_ (fun _ => ?_)
theorem spec_l10Unlike.mono : ∀ a0 a1 k, LeO (spec_l10Unlike.f k a0 a1) (spec_l10Unlike.f (k + 1) a0 a1) := by
 intro a0 a1 k
 have ih0 := spec_l10Unlike.mono_l k
 unfold spec_l10Unlike.f
 repeat' first
   | (with_reducible exact ih0 _ _ _)
   | (with_reducible exact LeO.refl _)
   | (with_reducible exact LeO.none _)
   | (with_reducible refine LeO.ite ?_ ?_)
   | (with_reducible refine LeO.bind ?_ (fun _ => ?_))
   | exact LeO.none _
   | refine LeO.ite ?_ ?_
   | refine LeO.bind ?_ (fun _ => ?_)
set_option maxHeartbeats 8000000 in
set_option maxRecDepth 100000 in
theorem spec_l10Unlike.calls (k : Nat) (a0 : ByteArray) (a1 : ByteArray) (r : Int) (w : World) (h : spec_l10Unlike.f k a0 a1 = some r) :
  Calls Try.prog 76 #[.string a0, .string a1] w fun e w' => e = .returned (.int .i64 r) ∧ Drawn0 w w' := by
 have H : (spec_l10Unlike.l0 k a0 a1 0) = some r := h
 clear h
 have H' := Aside0.mk H
 clear H
 go_enter Try.func76, Try.ntmps76
 go_wp2
 go_loopg [5] k (fun kq v5 w' => ∃ (x5_1 : Int), v5 = .int .i64 x5_1 ∧ Aside0 (spec_l10Unlike.l0 kq a0 a1 x5_1 = some r) ∧ Aside0 (kq ≤ k) ∧ Drawn0 w w')
 case atStart => exact ⟨(0), rfl, H', ⟨Nat.le_refl _⟩, by repeat (first | exact Drawn0.refl _ | apply Drawn0.step)⟩
 case round =>
  clear H'
  try clear p2
  obtain ⟨x5_1, rfl, HA, HK1, ⟨m1, rfl⟩⟩ := hrel
  cases gk with
  | zero => exact absurd HA.out (by simp [spec_l10Unlike.l0])
  | succ k1 =>
   have H := HA.out
   clear HA
   simp only [spec_l10Unlike.l0] at H
   replace H := Option.bind_eq_some_iff.mp H
   obtain ⟨t241, A30, H⟩ := H
   replace H : ((spec_l10Bit.f a1 x5_1).bind fun t242 => (if t241 = t242 then (spec_l10Unlike.l0 k1 a0 a1 (wrap64 (x5_1 + 1))) else (some x5_1))) = some r := H
   have A3 := Aside0.mk A30
   clear A30
   replace H := Option.bind_eq_some_iff.mp H
   obtain ⟨t242, A40, H⟩ := H
   replace H : (if t241 = t242 then (spec_l10Unlike.l0 k1 a0 a1 (wrap64 (x5_1 + 1))) else (some x5_1)) = some r := H
   have A4 := Aside0.mk A40
   clear A40
   by_cases c5 : t241 = t242
   ·rw [if_pos c5] at H
    have c5b0 : (t241 == t242) = true := beq_iff_eq.mpr c5
    have c5b1 : (t241 != t242) = false := bne_eq_false_iff_eq.mpr c5
    clear c5
    have H' := Aside0.mk H
    clear H
    go_wp2_with (first | ((with_reducible refine gate_callee (f := 61) rfl ?_); refine goesL_ (some 8) rfl rfl Try.func61 (by kernel_rfl) rfl #[.string a0, .int .i64 x5_1] rfl (by simp only [List.map_toArray, List.map_cons, List.map_nil] <;> rfl) ?_; (with_reducible refine (spec_l10Bit.calls a0 x5_1 t241 _ A3.out).mono ?_); rintro e w' ⟨rfl, ⟨nd, rfl⟩⟩; refine ⟨_, rfl, ?_⟩) | ((with_reducible refine gate_callee (f := 61) rfl ?_); refine goesL_ (some 11) rfl rfl Try.func61 (by kernel_rfl) rfl #[.string a1, .int .i64 x5_1] rfl (by simp only [List.map_toArray, List.map_cons, List.map_nil] <;> rfl) ?_; (with_reducible refine (spec_l10Bit.calls a1 x5_1 t242 _ A4.out).mono ?_); rintro e w' ⟨rfl, ⟨nd, rfl⟩⟩; refine ⟨_, rfl, ?_⟩))
    go_roundg k1
    case measure => have := HK1.out; omega
    case rel => exact ⟨(wrap64 (x5_1 + 1)), rfl, H', ⟨by have := HK1.out; omega⟩, by repeat (first | exact Drawn0.refl _ | apply Drawn0.step)⟩
   ·rw [if_neg c5] at H
    have c5b0 : (t241 == t242) = false := beq_eq_false_iff_ne.mpr c5
    have c5b1 : (t241 != t242) = true := bne_iff_ne.mpr c5
    obtain rfl := Option.some.inj H
    go_wp2_with (first | ((with_reducible refine gate_callee (f := 61) rfl ?_); refine goesL_ (some 8) rfl rfl Try.func61 (by kernel_rfl) rfl #[.string a0, .int .i64 x5_1] rfl (by simp only [List.map_toArray, List.map_cons, List.map_nil] <;> rfl) ?_; (with_reducible refine (spec_l10Bit.calls a0 x5_1 t241 _ A3.out).mono ?_); rintro e w' ⟨rfl, ⟨nd, rfl⟩⟩; refine ⟨_, rfl, ?_⟩) | ((with_reducible refine gate_callee (f := 61) rfl ?_); refine goesL_ (some 11) rfl rfl Try.func61 (by kernel_rfl) rfl #[.string a1, .int .i64 x5_1] rfl (by simp only [List.map_toArray, List.map_cons, List.map_nil] <;> rfl) ?_; (with_reducible refine (spec_l10Bit.calls a1 x5_1 t242 _ A4.out).mono ?_); rintro e w' ⟨rfl, ⟨nd, rfl⟩⟩; refine ⟨_, rfl, ?_⟩))
    go_ret
    exact ⟨by first | rfl | (simp; done) | (simp [*]; done), by repeat (first | exact Drawn0.refl _ | apply Drawn0.step)⟩
/-! ### spec_l10Build: function 80 -/
def bd_pl (k : Nat) (key : ByteArray) : List S51 → List Int → Option (List Int)
 | [], acc => some acc
 | x :: l, acc => if x.f0.toList = key.toList then (spec_l10PutInt.f k acc x.f1).bind (bd_pl k key l) else bd_pl k key l acc
def bd_cnt : Nat → List ByteArray → Int → Int → Option Int
 | 0, _, _, _ => none
 | k + 1, ks, bit, n => if 0 ≤ n ∧ n < (ks.length : Int) then (spec_l10Bit.f (rdOf ByteArray.empty ks n) bit).bind fun b => if b = 0 then bd_cnt k ks bit (wrap64 (n + 1)) else some n else none
def spec_l10Build.f : Nat → List S51 → List ByteArray → List S74 → Option (List S74)
 | 0, _, _, _ => none
 | k + 1, l, ks, out => if (ks.length : Int) = 0 then some out else if (ks.length : Int) = 1 then
   (bd_pl k (rdOf ByteArray.empty ks 0) l []).bind fun pl => if out.length < 1099511627776 then some (out ++ [⟨rdOf ByteArray.empty ks 0, pl, 0, 0, 0⟩]) else none
  else (spec_l10Unlike.f k (rdOf ByteArray.empty ks 0) (rdOf ByteArray.empty ks ((ks.length : Int) - 1))).bind fun bit => (bd_cnt k ks bit 0).bind fun n =>
   if 0 ≤ n ∧ n ≤ (ks.length : Int) ∧ out.length < 1099511627776 then
    (spec_l10Build.f k l (ks.take n.toNat) (out ++ [⟨⟨#[]⟩, [], bit, (out.length : Int) + 1, 0⟩])).bind fun o2 =>
     if out.length < o2.length then spec_l10Build.f k l (ks.drop n.toNat) (o2.set out.length { (rd_T74 o2 (out.length : Int)) with f4 := (o2.length : Int) }) else none
   else none
theorem bd_step (k : Nat) (key : ByteArray) (l : List S51) (i : Nat) (hi : i < l.length) (acc : List Int) : bd_pl k key (l.drop i) acc = if (rd_T51 l (i : Int)).f0.toList = key.toList then (spec_l10PutInt.f k acc (rd_T51 l (i : Int)).f1).bind (bd_pl k key (l.drop (i + 1))) else bd_pl k key (l.drop (i + 1)) acc := by
 rw [List.drop_eq_getElem_cons hi, bd_pl]
 have e : rd_T51 l (i : Int) = l[i] := by simp [rd_T51, List.getD_eq_getElem?_getD, List.getElem?_eq_getElem hi]
 rw [e]
theorem bd_mono (k : Nat) (key : ByteArray) : ∀ (l : List S51) (acc : List Int), LeO (bd_pl k key l acc) (bd_pl (k + 1) key l acc)
 | [], acc => LeO.refl _
 | x :: l, acc => by
  rw [bd_pl, bd_pl]
  exact LeO.ite (LeO.bind (spec_l10PutInt.mono _ _ _) (fun _ => bd_mono k key l _)) (bd_mono k key l _)
theorem bd_cnt_mono : ∀ (k : Nat) (ks : List ByteArray) (bit n : Int), LeO (bd_cnt k ks bit n) (bd_cnt (k + 1) ks bit n)
 | 0, ks, bit, n => fun r h => by simp [bd_cnt] at h
 | k + 1, ks, bit, n => by
  rw [bd_cnt, bd_cnt]
  exact LeO.ite (LeO.bind (LeO.refl _) (fun _ => LeO.ite (bd_cnt_mono k _ _ _) (LeO.refl _))) (LeO.none _)
theorem spec_l10Build.mono : ∀ (l : List S51) (ks : List ByteArray) (out : List S74) (k : Nat), LeO (spec_l10Build.f k l ks out) (spec_l10Build.f (k + 1) l ks out) := by
 suffices h : ∀ k l ks out, LeO (spec_l10Build.f k l ks out) (spec_l10Build.f (k + 1) l ks out) from fun l ks out k => h k l ks out
 intro k
 induction k with
 | zero => intro l ks out r h; simp [spec_l10Build.f] at h
 | succ k ih =>
  intro l ks out
  rw [spec_l10Build.f, spec_l10Build.f]
  exact LeO.ite (LeO.refl _) (LeO.ite (LeO.bind (bd_mono _ _ _ _) (fun _ => LeO.refl _)) (LeO.bind (spec_l10Unlike.mono _ _ _) (fun _ => LeO.bind (bd_cnt_mono _ _ _ _) (fun _ => LeO.ite (LeO.bind (ih _ _ _) (fun _ => LeO.ite (ih _ _ _) (LeO.none _))) (LeO.none _)))))
set_option maxHeartbeats 16000000 in
set_option maxRecDepth 100000 in
theorem spec_l10Build.run : ∀ (k : Nat) (l : List S51) (ks : List ByteArray) (out r : List S74), spec_l10Build.f k l ks out = some r →
  ∀ (A0 : Option Addr) (n0 c0 : Nat) (A1 : Option Addr) (n1 c1 : Nat) (v : Value) (W0 w : World), Below W0.heap.size W0 w → Kd.C k51 W0 A0 n0 l → n0 ≤ c0 → Kd.C Kd.string W0 A1 n1 ks → n1 ≤ c1 → Kd.S k74 74 w W0.heap.size (fun _ => True) v out →
  Calls Try.prog 80 #[.slice A0 n0 c0, .slice A1 n1 c1, v] w fun e w' => ∃ v0_ : Value, e = .returned v0_ ∧ Kd.S k74 74 w' W0.heap.size (fun _ => True) v0_ r ∧ Below W0.heap.size W0 w' := by
 intro k
 induction k with
 | zero => intro l ks out r h; simp [spec_l10Build.f] at h
 | succ k ih =>
  intro l ks out r h A0 n0 c0 A1 n1 c1 v W0 w hB hr0 hc0 hr1 hc1 hO
  obtain rfl := hr0.1
  obtain rfl := hr1.1
  have hu74 := Try.underlying74
  have hu51 := Try.underlying51
  have HB := Aside0.mk hB
  have HO := Aside0.mk hO
  have HR0 := Aside0.mk hr0
  have HR1 := Aside0.mk hr1
  clear hB hO hr0 hr1
  rw [spec_l10Build.f] at h
  by_cases d0 : (ks.length : Int) = 0
  ·rw [if_pos d0] at h
   obtain rfl := Option.some.inj h
   clear h ih
   have d0b : ((ks.length : Int) == 0) = true := beq_iff_eq.mpr d0
   go_enter Try.func80, Try.ntmps80
   go_wp2
   go_ret
   exact ⟨_, rfl, HO.out, HB.out⟩
  rw [if_neg d0] at h
  have d0b : ((ks.length : Int) == 0) = false := beq_false_of_ne d0
  by_cases d1 : (ks.length : Int) = 1
  ·rw [if_pos d1] at h
   obtain ⟨pl, hpl, h⟩ := Option.bind_eq_some_iff.mp h
   by_cases d2 : out.length < 1099511627776
   rotate_left
   ·rw [if_neg d2] at h; cases h
   rw [if_pos d2] at h
   obtain rfl := Option.some.inj h
   clear h ih
   have d1b : ((ks.length : Int) == 1) = true := beq_iff_eq.mpr d1
   obtain ⟨ad1, e1, hx1⟩ := Kd.at_string HR1.out 0 (by omega) (by omega)
   cases e1
   replace hx1 := (HB.out.cell (World.block_lt_of_cell? _ _ hx1)).trans hx1
   simp only [show (0 : Int).toNat = 0 from rfl, Go.Addr.add, ↓reduceIte] at hx1
   generalize hkey : rdOf ByteArray.empty ks 0 = key at hx1 hpl ⊢
   have HB0 := HB
   clear HB
   have HKC := Aside0.mk hx1
   have HB := Aside0.mk (Below.refl w.heap.size w)
   go_enter Try.func80, Try.ntmps80
   go_wp2_with (first | ((with_reducible refine gate_dst (N := 7) rfl ?_); refine box_event ?hg (N := 7) ?hd (cs := #[.string (⟨#[]⟩ : ByteArray), .slice none 0 0, .int .i64 0, .int .i64 0, .int .i64 0]) (t := 74) ?hr ?_; (case hd => rfl); (case hg => rfl); (case hr => go_simp); intro gf hg w1 hbox hb; have n0_ := Aside0.mk (below_step HB.out hb); have n1_ := Aside0.mk (hbox); have n2_ := Aside0.mk ((by rw [hg]; exact below_size HB.out : w.heap.size ≤ gf)); (try clear HB); (try clear BF); (try clear GE_gf); have HB := n0_; have BF := n1_; have GE_gf := n2_; clear n0_ n1_ n2_; clear hb hbox hg; have hc_BF_0 : w1.cell? ⟨gf, 0, none⟩ = some (.string (⟨#[]⟩ : ByteArray)) := (blk_cell BF.out 0).trans rfl; have hf_BF_0 := blk_frozen BF.out 0; have hc_BF_1 : w1.cell? ⟨gf, 1, none⟩ = some (.slice none 0 0) := (blk_cell BF.out 1).trans rfl; have hf_BF_1 := blk_frozen BF.out 1; have hc_BF_2 : w1.cell? ⟨gf, 2, none⟩ = some (.int .i64 0) := (blk_cell BF.out 2).trans rfl; have hf_BF_2 := blk_frozen BF.out 2; have hc_BF_3 : w1.cell? ⟨gf, 3, none⟩ = some (.int .i64 0) := (blk_cell BF.out 3).trans rfl; have hf_BF_3 := blk_frozen BF.out 3; have hc_BF_4 : w1.cell? ⟨gf, 4, none⟩ = some (.int .i64 0) := (blk_cell BF.out 4).trans rfl; have hf_BF_4 := blk_frozen BF.out 4) | ((with_reducible refine gate_store (t := 74) (p := 7) rfl ?_); refine store_event (t := 74) (p := 7) (v := ?vo_w2) (w1 := (((((w1.setCell ⟨gf, 0, none⟩ (.string key)).setCell ⟨gf, 1, none⟩ (.slice none 0 0)).setCell ⟨gf, 2, none⟩ (.int .i64 0)).setCell ⟨gf, 3, none⟩ (.int .i64 0)).setCell ⟨gf, 4, none⟩ (.int .i64 0))) ?hg ?ho ?hn ?hr ?_; (case ho => rfl); (case hg => rfl); (case hn => rfl); (case hr => go_simp); intro w2 hw; have n0_ := Aside0.mk (show Below w.heap.size w w2 from (by rw [hw]; exact below_set (below_set (below_set (below_set (below_set HB.out GE_gf.out) GE_gf.out) GE_gf.out) GE_gf.out) GE_gf.out)); have n1_ := Aside0.mk (show w2.heap[gf]? = some (.cells #[.string key, .slice none 0 0, .int .i64 0, .int .i64 0, .int .i64 0] 74 (0, 0)) from (by rw [hw]; exact (blk_put (cs' := #[.string key, .slice none 0 0, .int .i64 0, .int .i64 0, .int .i64 0]) (blk_put (cs' := #[.string key, .slice none 0 0, .int .i64 0, .int .i64 0, .int .i64 0]) (blk_put (cs' := #[.string key, .slice none 0 0, .int .i64 0, .int .i64 0, .int .i64 0]) (blk_put (cs' := #[.string key, .slice none 0 0, .int .i64 0, .int .i64 0, .int .i64 0]) (blk_put (cs' := #[.string key, .slice none 0 0, .int .i64 0, .int .i64 0, .int .i64 0]) BF.out 0 (.string key) rfl) 1 (.slice none 0 0) rfl) 2 (.int .i64 0) rfl) 3 (.int .i64 0) rfl) 4 (.int .i64 0) rfl))); (try clear hc_BF_0); (try clear hf_BF_0); (try clear hc_BF_1); (try clear hf_BF_1); (try clear hc_BF_2); (try clear hf_BF_2); (try clear hc_BF_3); (try clear hf_BF_3); (try clear hc_BF_4); (try clear hf_BF_4); (try clear HB); (try clear BF); have HB := n0_; have BF := n1_; clear n0_ n1_; clear hw; (try simp only [Act.put, List.setIfInBounds_toArray, List.set_cons_zero, List.set_cons_succ]); have hc_BF_0 : w2.cell? ⟨gf, 0, none⟩ = some (.string key) := (blk_cell BF.out 0).trans rfl; have hf_BF_0 := blk_frozen BF.out 0; have hc_BF_1 : w2.cell? ⟨gf, 1, none⟩ = some (.slice none 0 0) := (blk_cell BF.out 1).trans rfl; have hf_BF_1 := blk_frozen BF.out 1; have hc_BF_2 : w2.cell? ⟨gf, 2, none⟩ = some (.int .i64 0) := (blk_cell BF.out 2).trans rfl; have hf_BF_2 := blk_frozen BF.out 2; have hc_BF_3 : w2.cell? ⟨gf, 3, none⟩ = some (.int .i64 0) := (blk_cell BF.out 3).trans rfl; have hf_BF_3 := blk_frozen BF.out 3; have hc_BF_4 : w2.cell? ⟨gf, 4, none⟩ = some (.int .i64 0) := (blk_cell BF.out 4).trans rfl; have hf_BF_4 := blk_frozen BF.out 4))
   have HL := Aside0.mk hpl
   clear hpl
   go_loopg [26] l.length (fun kq v26 w' => ∃ (xi : Int) (xp : List Int) (A3 : Option Addr) (c3 : Nat), v26 = .int .i64 xi ∧ Aside0 (0 ≤ xi ∧ xi + kq = l.length) ∧ Aside0 (bd_pl k key (l.drop xi.toNat) xp = some pl) ∧ Aside0 (Below w.heap.size w w') ∧ Aside0 (w'.heap[gf]? = some (.cells #[.string key, .slice A3 xp.length c3, .int .i64 0, .int .i64 0, .int .i64 0] 74 (0, 0))) ∧ Aside0 (Kd.R (Kd.int .i64) 3 w' w.heap.size (fun _ => True) (.slice A3 xp.length c3) xp))
   case atStart => exact ⟨0, [], none, 0, rfl, ⟨by omega⟩, HL, HB, BF, ⟨Kd.R_nil _ _ _ _ _⟩⟩
   case round =>
    clear HL HB BF hx1
    obtain ⟨xi, xp, A3, c3, rfl, ⟨hxi, hxk⟩, HL, HB, BF, HP⟩ := hrel
    have hck : wr.cell? ad1 = some (.string key) := (HB.out.cell (World.block_lt_of_cell? w _ HKC.out)).trans HKC.out
    have hc_BF_0 : wr.cell? ⟨gf, 0, none⟩ = some (.string key) := (blk_cell BF.out 0).trans rfl; have hf_BF_0 := blk_frozen BF.out 0; have hc_BF_1 : wr.cell? ⟨gf, 1, none⟩ = some (.slice A3 xp.length c3) := (blk_cell BF.out 1).trans rfl; have hf_BF_1 := blk_frozen BF.out 1; have hc_BF_2 : wr.cell? ⟨gf, 2, none⟩ = some (.int .i64 0) := (blk_cell BF.out 2).trans rfl; have hf_BF_2 := blk_frozen BF.out 2; have hc_BF_3 : wr.cell? ⟨gf, 3, none⟩ = some (.int .i64 0) := (blk_cell BF.out 3).trans rfl; have hf_BF_3 := blk_frozen BF.out 3; have hc_BF_4 : wr.cell? ⟨gf, 4, none⟩ = some (.int .i64 0) := (blk_cell BF.out 4).trans rfl; have hf_BF_4 := blk_frozen BF.out 4
    cases gk with
    | zero =>
     have e0 : decide (xi < (l.length : Int)) = false := decide_eq_false (by omega)
     have hpl : xp = pl := by
      have := HL.out
      rw [List.drop_eq_nil_of_le (by omega), bd_pl] at this
      exact Option.some.inj this
     subst hpl
     clear HL
     have HD2 := Aside0.mk d2
     go_wp2_with (first | ((with_reducible refine gate_builtin (b := .append) (xs := #[.tmp 43, .tmp 45]) rfl ?_); at_builtin; refine Kd.S_append k74 (w0 := W0) W0.heap.size rfl (.tmp 43) (.tmp 45) 25 74 _ 64 rfl Try.underlying25 info74 rfl (by decide) (by omega) v out ⟨key, xp, 0, 0, 0⟩ [.string key, .slice A3 xp.length c3, .int .i64 0, .int .i64 0, .int .i64 0] (fun _ => True) (fun k_ => w.heap.size ≤ k_) rfl rfl ?aP ?aK (fun _ _ => trivial) ?aO ?aB ?aS ?aL ?_; (case aP => exact k74_mkM _ _ _ ⟨key, xp, 0, 0, 0⟩ (Kd.R_lower (Kd.R_mono (Kd.R_bound HP.out) (fun _ hk => hk.2.1)) HB0.out.size)); (case aK => exact fun k_ hk_ => ⟨trivial, fun e_ => Nat.not_le.2 (Kd.S_lt HO.out k_ e_.symm) hk_⟩); (case aO => exact Kd.S_mono (Kd.S_below (Kd.S_bound HO.out) HB.out) (fun k_ hk_ => ⟨trivial, Nat.not_le.2 hk_.2.2.1⟩)); (case aB => exact below_then HB0.out HB0.out.size HB.out); (case aS => exact Nat.le_trans HB0.out.size HB.out.size); (case aL => have := HD2.out; omega); intro v5 w5 ho hb hg hat; have n0_ := Aside0.mk ho; have n1_ := Aside0.mk hb; clear ho hb hg hat HO HB; have HO := n0_; have HB := n1_; clear n0_ n1_))
     go_ret
     exact ⟨_, rfl, HO.out, HB.out⟩
    | succ k1 =>
     have e0 : decide (xi < (l.length : Int)) = true := decide_eq_true (by omega)
     have hs := HL.out
     rw [bd_step k key l xi.toNat (by omega), show ((xi.toNat : Nat) : Int) = xi by omega] at hs
     obtain ⟨ad2, e2, hx2, hx3⟩ := at_T51 HR0.out xi hxi (by omega)
     cases e2
     replace hx2 := (below_then HB0.out HB0.out.size HB.out).cell (World.block_lt_of_cell? _ _ hx2) |>.trans hx2
     replace hx3 := (below_then HB0.out HB0.out.size HB.out).cell (World.block_lt_of_cell? _ _ hx3) |>.trans hx3
     have p0 : (0 ≤ xi) = True := eq_true hxi
     have q0 : (xi < (l.length : Int)) = True := eq_true (by omega)
     have i1 : wrap64 (xi + 1) = xi + 1 := by
      have := HR0.out.2.1
      unfold wrap64; omega
     by_cases d3 : (rd_T51 l xi).f0.toList = key.toList
     ·rw [if_pos d3] at hs
      obtain ⟨xq, hq, hs⟩ := Option.bind_eq_some_iff.mp hs
      have HQ := Aside0.mk hq
      have HL2 := Aside0.mk hs
      clear hq hs HL
      have d3b : ((rd_T51 l xi).f0.toList == key.toList) = true := beq_iff_eq.mpr d3
      have HI := Aside0.mk (show 0 ≤ xi ∧ xi + (k1 + 1 : Nat) = l.length from ⟨hxi, hxk⟩)
      go_wp2_with (first | ((with_reducible refine gate_dst (N := 9) rfl ?_); refine box_event ?hg (N := 9) ?hd (cs := #[.string (⟨#[]⟩ : ByteArray), .int .i64 0]) (t := 51) ?hr ?_; (case hd => rfl); (case hg => rfl); (case hr => go_simp); intro gx hg w6 hbox hb; have n0_ := Aside0.mk (below_step HB.out hb); have n1_ := Aside0.mk (blk_below BF.out hb); have n2_ := Aside0.mk (Kd.R_below HP.out hb); have n3_ := Aside0.mk (hbox); have n4_ := Aside0.mk ((by rw [hg]; exact below_size HB.out : w.heap.size ≤ gx)); (try clear HB); (try clear BF); (try clear HP); (try clear BX); (try clear GE_gx); have HB := n0_; have BF := n1_; have HP := n2_; have BX := n3_; have GE_gx := n4_; clear n0_ n1_ n2_ n3_ n4_; clear hb hbox hg; have hc_BF_0 : w6.cell? ⟨gf, 0, none⟩ = some (.string key) := (blk_cell BF.out 0).trans rfl; have hf_BF_0 := blk_frozen BF.out 0; have hc_BF_1 : w6.cell? ⟨gf, 1, none⟩ = some (.slice A3 xp.length c3) := (blk_cell BF.out 1).trans rfl; have hf_BF_1 := blk_frozen BF.out 1; have hc_BF_2 : w6.cell? ⟨gf, 2, none⟩ = some (.int .i64 0) := (blk_cell BF.out 2).trans rfl; have hf_BF_2 := blk_frozen BF.out 2; have hc_BF_3 : w6.cell? ⟨gf, 3, none⟩ = some (.int .i64 0) := (blk_cell BF.out 3).trans rfl; have hf_BF_3 := blk_frozen BF.out 3; have hc_BF_4 : w6.cell? ⟨gf, 4, none⟩ = some (.int .i64 0) := (blk_cell BF.out 4).trans rfl; have hf_BF_4 := blk_frozen BF.out 4; have hc_BX_0 : w6.cell? ⟨gx, 0, none⟩ = some (.string (⟨#[]⟩ : ByteArray)) := (blk_cell BX.out 0).trans rfl; have hf_BX_0 := blk_frozen BX.out 0; have hc_BX_1 : w6.cell? ⟨gx, 1, none⟩ = some (.int .i64 0) := (blk_cell BX.out 1).trans rfl; have hf_BX_1 := blk_frozen BX.out 1) | ((with_reducible refine gate_store (t := 51) (p := 9) rfl ?_); refine store_event (t := 51) (p := 9) (v := ?vo_w7) (w1 := ((w6.setCell ⟨gx, 0, none⟩ (.string ((rd_T51 l xi).f0))).setCell ⟨gx, 1, none⟩ (.int .i64 ((rd_T51 l xi).f1)))) ?hg ?ho ?hn ?hr ?_; (case ho => rfl); (case hg => rfl); (case hn => rfl); (case hr => go_simp); intro w7 hw; have n0_ := Aside0.mk (show Below w.heap.size w w7 from (by rw [hw]; exact below_set (below_set HB.out GE_gx.out) GE_gx.out)); have n1_ := Aside0.mk (show w7.heap[gf]? = some (.cells #[.string key, .slice A3 xp.length c3, .int .i64 0, .int .i64 0, .int .i64 0] 74 (0, 0)) from (by rw [hw]; exact (blk_far (blk_far BF.out (p := ⟨gx, 0, none⟩) (blk_ne BF.out BX.out (by decide)) (.string ((rd_T51 l xi).f0))) (p := ⟨gx, 1, none⟩) (blk_ne BF.out BX.out (by decide)) (.int .i64 ((rd_T51 l xi).f1))))); have n2_ := Aside0.mk (show w7.heap[gx]? = some (.cells #[.string ((rd_T51 l xi).f0), .int .i64 ((rd_T51 l xi).f1)] 51 (0, 0)) from (by rw [hw]; exact (blk_put (cs' := #[.string ((rd_T51 l xi).f0), .int .i64 ((rd_T51 l xi).f1)]) (blk_put (cs' := #[.string ((rd_T51 l xi).f0), .int .i64 0]) BX.out 0 (.string ((rd_T51 l xi).f0)) rfl) 1 (.int .i64 ((rd_T51 l xi).f1)) rfl))); have n3_ := Aside0.mk (show Kd.R (Kd.int .i64) 3 w7 w.heap.size (fun _ => True) (.slice A3 xp.length c3) xp from (by rw [hw]; exact (Kd.R_set (Kd.R_set HP.out BX.out (by decide) 0 (.string ((rd_T51 l xi).f0))) (blk_set BX.out 0 (.string ((rd_T51 l xi).f0))) (by decide) 1 (.int .i64 ((rd_T51 l xi).f1))))); (try clear hc_BF_0); (try clear hf_BF_0); (try clear hc_BF_1); (try clear hf_BF_1); (try clear hc_BF_2); (try clear hf_BF_2); (try clear hc_BF_3); (try clear hf_BF_3); (try clear hc_BF_4); (try clear hf_BF_4); (try clear hc_BX_0); (try clear hf_BX_0); (try clear hc_BX_1); (try clear hf_BX_1); (try clear HB); (try clear BF); (try clear BX); (try clear HP); have HB := n0_; have BF := n1_; have BX := n2_; have HP := n3_; clear n0_ n1_ n2_ n3_; clear hw; (try simp only [Act.put, List.setIfInBounds_toArray, List.set_cons_zero, List.set_cons_succ]); have hc_BF_0 : w7.cell? ⟨gf, 0, none⟩ = some (.string key) := (blk_cell BF.out 0).trans rfl; have hf_BF_0 := blk_frozen BF.out 0; have hc_BF_1 : w7.cell? ⟨gf, 1, none⟩ = some (.slice A3 xp.length c3) := (blk_cell BF.out 1).trans rfl; have hf_BF_1 := blk_frozen BF.out 1; have hc_BF_2 : w7.cell? ⟨gf, 2, none⟩ = some (.int .i64 0) := (blk_cell BF.out 2).trans rfl; have hf_BF_2 := blk_frozen BF.out 2; have hc_BF_3 : w7.cell? ⟨gf, 3, none⟩ = some (.int .i64 0) := (blk_cell BF.out 3).trans rfl; have hf_BF_3 := blk_frozen BF.out 3; have hc_BF_4 : w7.cell? ⟨gf, 4, none⟩ = some (.int .i64 0) := (blk_cell BF.out 4).trans rfl; have hf_BF_4 := blk_frozen BF.out 4; have hc_BX_0 : w7.cell? ⟨gx, 0, none⟩ = some (.string ((rd_T51 l xi).f0)) := (blk_cell BX.out 0).trans rfl; have hf_BX_0 := blk_frozen BX.out 0; have hc_BX_1 : w7.cell? ⟨gx, 1, none⟩ = some (.int .i64 ((rd_T51 l xi).f1)) := (blk_cell BX.out 1).trans rfl; have hf_BX_1 := blk_frozen BX.out 1; (try clear hck); have hck : w7.cell? ad1 = some (.string key) := (HB.out.cell (World.block_lt_of_cell? w _ HKC.out)).trans HKC.out))
      go_quiet (fail)
      go_wp2_with (first | ((with_reducible refine gate_callee (f := 65) rfl ?_); refine goesL_ (some 40) rfl rfl Try.func65 (by kernel_rfl) rfl #[.slice A3 xp.length c3, .int .i64 ((rd_T51 l xi).f1)] rfl (by (try simp only [List.map_toArray, List.map_cons, List.map_nil]); first | done | rfl) ?_; (refine (spec_l10PutInt.calls k (fun k_ => k_ ≠ gf ∧ k_ ≠ gx) (.slice A3 xp.length c3) xp ((rd_T51 l xi).f1) xq w _ ?s1 ?s2 HQ.out).mono ?_); (case s1 => exact (by repeat first | exact HB.out | apply q4_ | apply q5_ | apply q6_)); (case s2 => exact Kd.R_mono (Kd.R_types (Kd.R_types (by repeat first | exact HP.out | apply Kd.R_alloc | apply Kd.R_drewN | apply Kd.R_drew) (by repeat first | exact BF.out | apply q1_ | apply q2_ | apply q3_) (by decide)) (by repeat first | exact BX.out | apply q1_ | apply q2_ | apply q3_) (by decide)) (fun _ hk => ⟨hk.1.2, hk.2⟩)); rintro e w8 ⟨v4, rfl, ho0, hb, hkp⟩; refine ⟨_, rfl, ?_⟩; have n0_ := Aside0.mk (hb); have n1_ := Aside0.mk (blk_kept (by repeat first | exact BF.out | apply q1_ | apply q2_ | apply q3_) hkp (fun h_ => h_.1 rfl)); have n2_ := Aside0.mk (Kd.R_mono ho0 (ok' := fun _ => True) (fun _ _ => trivial)); (try clear BX); (try clear hc_BF_0); (try clear hf_BF_0); (try clear hc_BF_1); (try clear hf_BF_1); (try clear hc_BF_2); (try clear hf_BF_2); (try clear hc_BF_3); (try clear hf_BF_3); (try clear hc_BF_4); (try clear hf_BF_4); (try clear hc_BX_0); (try clear hf_BX_0); (try clear hc_BX_1); (try clear hf_BX_1); (try clear HB); (try clear BF); (try clear HP); have HB := n0_; have BF := n1_; have HP := n2_; clear n0_ n1_ n2_; (try clear hb); (try clear ho0); (try clear hkp); obtain ⟨A4, c4, rfl⟩ := Kd.R_slice HP.out; have hc_BF_0 : w8.cell? ⟨gf, 0, none⟩ = some (.string key) := (blk_cell BF.out 0).trans rfl; have hf_BF_0 := blk_frozen BF.out 0; have hc_BF_1 : w8.cell? ⟨gf, 1, none⟩ = some (.slice A3 xp.length c3) := (blk_cell BF.out 1).trans rfl; have hf_BF_1 := blk_frozen BF.out 1; have hc_BF_2 : w8.cell? ⟨gf, 2, none⟩ = some (.int .i64 0) := (blk_cell BF.out 2).trans rfl; have hf_BF_2 := blk_frozen BF.out 2; have hc_BF_3 : w8.cell? ⟨gf, 3, none⟩ = some (.int .i64 0) := (blk_cell BF.out 3).trans rfl; have hf_BF_3 := blk_frozen BF.out 3; have hc_BF_4 : w8.cell? ⟨gf, 4, none⟩ = some (.int .i64 0) := (blk_cell BF.out 4).trans rfl; have hf_BF_4 := blk_frozen BF.out 4) | ((with_reducible refine gate_store (t := 39) (p := 41) rfl ?_); refine store_event (t := 39) (p := 41) (v := ?vo_w9) (w1 := (w8.setCell ⟨gf, 1, none⟩ (.slice A4 xq.length c4))) ?hg ?ho ?hn ?hr ?_; (case ho => rfl); (case hg => rfl); (case hn => rfl); (case hr => go_simp); intro w9 hw; have n0_ := Aside0.mk (show Below w.heap.size w w9 from (by rw [hw]; exact below_set (by repeat first | exact HB.out | apply q4_ | apply q5_ | apply q6_) GE_gf.out)); have n1_ := Aside0.mk (show w9.heap[gf]? = some (.cells #[.string key, .slice A4 xq.length c4, .int .i64 0, .int .i64 0, .int .i64 0] 74 (0, 0)) from (by rw [hw]; exact (blk_put (cs' := #[.string key, .slice A4 xq.length c4, .int .i64 0, .int .i64 0, .int .i64 0]) (by repeat first | exact BF.out | apply q1_ | apply q2_ | apply q3_) 1 (.slice A4 xq.length c4) rfl))); have n2_ := Aside0.mk (show Kd.R (Kd.int .i64) 3 w9 w.heap.size (fun _ => True) (.slice A4 xq.length c4) xq from (by rw [hw]; exact (Kd.R_set (by repeat first | exact HP.out | apply Kd.R_alloc | apply Kd.R_drewN | apply Kd.R_drew) (by repeat first | exact BF.out | apply q1_ | apply q2_ | apply q3_) (by decide) 1 (.slice A4 xq.length c4)))); (try clear hc_BF_0); (try clear hf_BF_0); (try clear hc_BF_1); (try clear hf_BF_1); (try clear hc_BF_2); (try clear hf_BF_2); (try clear hc_BF_3); (try clear hf_BF_3); (try clear hc_BF_4); (try clear hf_BF_4); (try clear HB); (try clear BF); (try clear HP); have HB := n0_; have BF := n1_; have HP := n2_; clear n0_ n1_ n2_; clear hw; (try simp only [Act.put, List.setIfInBounds_toArray, List.set_cons_zero, List.set_cons_succ]); have hc_BF_0 : w9.cell? ⟨gf, 0, none⟩ = some (.string key) := (blk_cell BF.out 0).trans rfl; have hf_BF_0 := blk_frozen BF.out 0; have hc_BF_1 : w9.cell? ⟨gf, 1, none⟩ = some (.slice A4 xq.length c4) := (blk_cell BF.out 1).trans rfl; have hf_BF_1 := blk_frozen BF.out 1; have hc_BF_2 : w9.cell? ⟨gf, 2, none⟩ = some (.int .i64 0) := (blk_cell BF.out 2).trans rfl; have hf_BF_2 := blk_frozen BF.out 2; have hc_BF_3 : w9.cell? ⟨gf, 3, none⟩ = some (.int .i64 0) := (blk_cell BF.out 3).trans rfl; have hf_BF_3 := blk_frozen BF.out 3; have hc_BF_4 : w9.cell? ⟨gf, 4, none⟩ = some (.int .i64 0) := (blk_cell BF.out 4).trans rfl; have hf_BF_4 := blk_frozen BF.out 4))
      go_roundg k1
      case measure => omega
      case rel => exact ⟨xi + 1, xq, A4, c4, by rw [i1], ⟨by omega⟩, ⟨by rw [show (xi + 1).toNat = xi.toNat + 1 by omega]; exact HL2.out⟩, HB, BF, HP⟩
     ·rw [if_neg d3] at hs
      have HL2 := Aside0.mk hs
      clear hs HL
      have d3b : ((rd_T51 l xi).f0.toList == key.toList) = false := beq_false_of_ne d3
      go_wp2_with (first | ((with_reducible refine gate_dst (N := 9) rfl ?_); refine box_event ?hg (N := 9) ?hd (cs := #[.string (⟨#[]⟩ : ByteArray), .int .i64 0]) (t := 51) ?hr ?_; (case hd => rfl); (case hg => rfl); (case hr => go_simp); intro gx hg w6 hbox hb; have n0_ := Aside0.mk (below_step HB.out hb); have n1_ := Aside0.mk (blk_below BF.out hb); have n2_ := Aside0.mk (Kd.R_below HP.out hb); have n3_ := Aside0.mk (hbox); have n4_ := Aside0.mk ((by rw [hg]; exact below_size HB.out : w.heap.size ≤ gx)); (try clear HB); (try clear BF); (try clear HP); (try clear BX); (try clear GE_gx); have HB := n0_; have BF := n1_; have HP := n2_; have BX := n3_; have GE_gx := n4_; clear n0_ n1_ n2_ n3_ n4_; clear hb hbox hg; have hc_BF_0 : w6.cell? ⟨gf, 0, none⟩ = some (.string key) := (blk_cell BF.out 0).trans rfl; have hf_BF_0 := blk_frozen BF.out 0; have hc_BF_1 : w6.cell? ⟨gf, 1, none⟩ = some (.slice A3 xp.length c3) := (blk_cell BF.out 1).trans rfl; have hf_BF_1 := blk_frozen BF.out 1; have hc_BF_2 : w6.cell? ⟨gf, 2, none⟩ = some (.int .i64 0) := (blk_cell BF.out 2).trans rfl; have hf_BF_2 := blk_frozen BF.out 2; have hc_BF_3 : w6.cell? ⟨gf, 3, none⟩ = some (.int .i64 0) := (blk_cell BF.out 3).trans rfl; have hf_BF_3 := blk_frozen BF.out 3; have hc_BF_4 : w6.cell? ⟨gf, 4, none⟩ = some (.int .i64 0) := (blk_cell BF.out 4).trans rfl; have hf_BF_4 := blk_frozen BF.out 4; have hc_BX_0 : w6.cell? ⟨gx, 0, none⟩ = some (.string (⟨#[]⟩ : ByteArray)) := (blk_cell BX.out 0).trans rfl; have hf_BX_0 := blk_frozen BX.out 0; have hc_BX_1 : w6.cell? ⟨gx, 1, none⟩ = some (.int .i64 0) := (blk_cell BX.out 1).trans rfl; have hf_BX_1 := blk_frozen BX.out 1) | ((with_reducible refine gate_store (t := 51) (p := 9) rfl ?_); refine store_event (t := 51) (p := 9) (v := ?vo_w7) (w1 := ((w6.setCell ⟨gx, 0, none⟩ (.string ((rd_T51 l xi).f0))).setCell ⟨gx, 1, none⟩ (.int .i64 ((rd_T51 l xi).f1)))) ?hg ?ho ?hn ?hr ?_; (case ho => rfl); (case hg => rfl); (case hn => rfl); (case hr => go_simp); intro w7 hw; have n0_ := Aside0.mk (show Below w.heap.size w w7 from (by rw [hw]; exact below_set (below_set HB.out GE_gx.out) GE_gx.out)); have n1_ := Aside0.mk (show w7.heap[gf]? = some (.cells #[.string key, .slice A3 xp.length c3, .int .i64 0, .int .i64 0, .int .i64 0] 74 (0, 0)) from (by rw [hw]; exact (blk_far (blk_far BF.out (p := ⟨gx, 0, none⟩) (blk_ne BF.out BX.out (by decide)) (.string ((rd_T51 l xi).f0))) (p := ⟨gx, 1, none⟩) (blk_ne BF.out BX.out (by decide)) (.int .i64 ((rd_T51 l xi).f1))))); have n2_ := Aside0.mk (show w7.heap[gx]? = some (.cells #[.string ((rd_T51 l xi).f0), .int .i64 ((rd_T51 l xi).f1)] 51 (0, 0)) from (by rw [hw]; exact (blk_put (cs' := #[.string ((rd_T51 l xi).f0), .int .i64 ((rd_T51 l xi).f1)]) (blk_put (cs' := #[.string ((rd_T51 l xi).f0), .int .i64 0]) BX.out 0 (.string ((rd_T51 l xi).f0)) rfl) 1 (.int .i64 ((rd_T51 l xi).f1)) rfl))); have n3_ := Aside0.mk (show Kd.R (Kd.int .i64) 3 w7 w.heap.size (fun _ => True) (.slice A3 xp.length c3) xp from (by rw [hw]; exact (Kd.R_set (Kd.R_set HP.out BX.out (by decide) 0 (.string ((rd_T51 l xi).f0))) (blk_set BX.out 0 (.string ((rd_T51 l xi).f0))) (by decide) 1 (.int .i64 ((rd_T51 l xi).f1))))); (try clear hc_BF_0); (try clear hf_BF_0); (try clear hc_BF_1); (try clear hf_BF_1); (try clear hc_BF_2); (try clear hf_BF_2); (try clear hc_BF_3); (try clear hf_BF_3); (try clear hc_BF_4); (try clear hf_BF_4); (try clear hc_BX_0); (try clear hf_BX_0); (try clear hc_BX_1); (try clear hf_BX_1); (try clear HB); (try clear BF); (try clear BX); (try clear HP); have HB := n0_; have BF := n1_; have BX := n2_; have HP := n3_; clear n0_ n1_ n2_ n3_; clear hw; (try simp only [Act.put, List.setIfInBounds_toArray, List.set_cons_zero, List.set_cons_succ]); have hc_BF_0 : w7.cell? ⟨gf, 0, none⟩ = some (.string key) := (blk_cell BF.out 0).trans rfl; have hf_BF_0 := blk_frozen BF.out 0; have hc_BF_1 : w7.cell? ⟨gf, 1, none⟩ = some (.slice A3 xp.length c3) := (blk_cell BF.out 1).trans rfl; have hf_BF_1 := blk_frozen BF.out 1; have hc_BF_2 : w7.cell? ⟨gf, 2, none⟩ = some (.int .i64 0) := (blk_cell BF.out 2).trans rfl; have hf_BF_2 := blk_frozen BF.out 2; have hc_BF_3 : w7.cell? ⟨gf, 3, none⟩ = some (.int .i64 0) := (blk_cell BF.out 3).trans rfl; have hf_BF_3 := blk_frozen BF.out 3; have hc_BF_4 : w7.cell? ⟨gf, 4, none⟩ = some (.int .i64 0) := (blk_cell BF.out 4).trans rfl; have hf_BF_4 := blk_frozen BF.out 4; have hc_BX_0 : w7.cell? ⟨gx, 0, none⟩ = some (.string ((rd_T51 l xi).f0)) := (blk_cell BX.out 0).trans rfl; have hf_BX_0 := blk_frozen BX.out 0; have hc_BX_1 : w7.cell? ⟨gx, 1, none⟩ = some (.int .i64 ((rd_T51 l xi).f1)) := (blk_cell BX.out 1).trans rfl; have hf_BX_1 := blk_frozen BX.out 1; (try clear hck); have hck : w7.cell? ad1 = some (.string key) := (HB.out.cell (World.block_lt_of_cell? w _ HKC.out)).trans HKC.out))
      go_quiet (fail)
      go_wp2
      go_roundg k1
      case measure => omega
      case rel => exact ⟨xi + 1, xp, A3, c3, by rw [i1], ⟨by omega⟩, ⟨by rw [show (xi + 1).toNat = xi.toNat + 1 by omega]; exact HL2.out⟩, ⟨(by repeat first | exact HB.out | apply q4_ | apply q5_ | apply q6_)⟩, ⟨(by repeat first | exact BF.out | apply q1_ | apply q2_ | apply q3_)⟩, ⟨(by repeat first | exact HP.out | apply Kd.R_alloc | apply Kd.R_drewN | apply Kd.R_drew)⟩⟩
  rw [if_neg d1] at h
  have d1b : ((ks.length : Int) == 1) = false := beq_false_of_ne d1
  obtain ⟨bit, hbit, h⟩ := Option.bind_eq_some_iff.mp h
  obtain ⟨n, hn, h⟩ := Option.bind_eq_some_iff.mp h
  by_cases d2 : 0 ≤ n ∧ n ≤ (ks.length : Int) ∧ out.length < 1099511627776
  rotate_left
  ·rw [if_neg d2] at h; cases h
  rw [if_pos d2] at h
  obtain ⟨o2, ho2, h⟩ := Option.bind_eq_some_iff.mp h
  by_cases d3 : out.length < o2.length
  rotate_left
  ·rw [if_neg d3] at h; cases h
  rw [if_pos d3] at h
  obtain ⟨hn0, hn1, hol⟩ := d2
  have hkl := HR1.out.2.1
  obtain ⟨ad1, e1, hx1⟩ := Kd.at_string HR1.out 0 (by omega) (by omega)
  cases e1
  obtain ⟨li, hli⟩ : ∃ li : Int, li = (ks.length : Int) - 1 := ⟨_, rfl⟩
  rw [← hli] at hbit
  obtain ⟨ad1', e1, hx2⟩ := Kd.at_string HR1.out li (by omega) (by omega)
  cases e1
  replace hx1 := (HB.out.cell (World.block_lt_of_cell? _ _ hx1)).trans hx1
  replace hx2 := (HB.out.cell (World.block_lt_of_cell? _ _ hx2)).trans hx2
  simp only [show (0 : Int).toNat = 0 from rfl, Go.Addr.add, ↓reduceIte] at hx1
  have i2 : wrap64 ((ks.length : Int) - 1) = li := by unfold wrap64; omega
  have j1 : (0 < ks.length) = True := eq_true (by omega)
  have i3 : IntKind.i64.wrap ((ks.length : Int) - 1) = li := (i64_w _).trans i2
  have j2 : (0 ≤ li) = True := eq_true (by omega)
  have j3 : (li < (ks.length : Int)) = True := eq_true (by omega)
  have HLI := Aside0.mk hli
  clear hli
  have HU := Aside0.mk hbit
  have HN := Aside0.mk hn
  have HI1 := Aside0.mk (show ∀ A0 n0 c0 A1 n1 c1 v W0 w, _ from ih l (ks.take n.toNat) _ o2 ho2)
  have HI2 := Aside0.mk (show ∀ A0 n0 c0 A1 n1 c1 v W0 w, _ from ih l (ks.drop n.toNat) _ r h)
  clear hbit hn ho2 h ih
  obtain ⟨Av, cv, rfl⟩ := Kd.S_slice HO.out
  go_enter Try.func80, Try.ntmps80
  go_wp2
  go_quiet (refine Calls.quiet_of ((spec_l10Unlike.calls k _ _ _ _ HU.out).mono (fun e w' h_ => ⟨h_.1, h_.2.out⟩)))
  go_wp2
  have HNN := Aside0.mk (show 0 ≤ n ∧ n ≤ (ks.length : Int) ∧ out.length < 1099511627776 ∧ out.length < o2.length from ⟨hn0, hn1, hol, d3⟩)
  clear hn0 hn1 hol d3 hx1 hx2 i2 i3 j1 j2 j3
  have HKL := Aside0.mk hkl
  clear hkl
  go_loopg [11] k (fun kq v11 w' => ∃ (ni : Int), v11 = .int .i64 ni ∧ Aside0 (bd_cnt kq ks bit ni = some n) ∧ Aside0 (kq ≤ k) ∧ Aside0 (Below W0.heap.size W0 w') ∧ Aside0 (Kd.S k74 74 w' W0.heap.size (fun _ => True) (.slice Av out.length cv) out))
  case atStart => exact ⟨0, rfl, HN, ⟨Nat.le_refl _⟩, ⟨pw_below_drewN HB.out nq⟩, ⟨Kd.S_drewN HO.out nq⟩⟩
  case round =>
   clear HN HB HO
   obtain ⟨ni, rfl, HN, HQ1, HB, HO⟩ := hrel
   cases gk with
   | zero => exact absurd HN.out (by simp [bd_cnt])
   | succ k1 =>
    have hN := HN.out
    clear HN
    rw [bd_cnt] at hN
    by_cases d4 : 0 ≤ ni ∧ ni < (ks.length : Int)
    rotate_left
    ·rw [if_neg d4] at hN; cases hN
    rw [if_pos d4] at hN
    obtain ⟨b, hb1, hN⟩ := Option.bind_eq_some_iff.mp hN
    have HBI := Aside0.mk hb1
    clear hb1
    obtain ⟨ad1', e1, hx1⟩ := Kd.at_string HR1.out ni d4.1 d4.2
    cases e1
    replace hx1 := (HB.out.cell (World.block_lt_of_cell? _ _ hx1)).trans hx1
    have j2 : (0 ≤ ni) = True := eq_true d4.1
    have j3 : (ni < (ks.length : Int)) = True := eq_true d4.2
    have i1 : wrap64 (ni + 1) = ni + 1 := by
     have := HKL.out
     unfold wrap64; omega
    clear d4
    by_cases d5 : b = 0
    ·subst d5
     rw [if_pos rfl] at hN
     have HN := Aside0.mk hN
     clear hN
     go_wp2_with (first | (go_at_call 61; refine (spec_l10Bit.calls _ _ _ _ HBI.out).mono ?_; rintro e w' ⟨rfl, ⟨nd, rfl⟩⟩))
     go_roundg k1
     case measure => omega
     case rel => exact ⟨wrap64 (ni + 1), rfl, HN, ⟨by have := HQ1.out; omega⟩, ⟨pw_below_drewN HB.out nd⟩, ⟨Kd.S_drewN HO.out nd⟩⟩
    ·rw [if_neg d5] at hN
     obtain rfl := Option.some.inj hN
     clear hN
     have d5b : (b == 0) = false := beq_false_of_ne d5
     clear d5
     have hng := HNN.out
     obtain ⟨y1, hy1⟩ : ∃ y1, y1 = out ++ [(⟨⟨#[]⟩, [], bit, (out.length : Int) + 1, 0⟩ : S74)] := ⟨_, rfl⟩
     have HY1 := Aside0.mk hy1
     clear hy1
     have i4 : wrap64 ((out.length : Int) + 1) = (out.length : Int) + 1 := by unfold wrap64; omega
     obtain ⟨i78, hi78, _, hsz78, _⟩ := info_parts info9
     have s1 := cut_to (P := Try.prog) 92 9 .i64 Try.underlying92 hi78 (some ad1) ks.length c1 ni hng.1 hng.2.1 hc1
     have s2 := cut_from (P := Try.prog) 92 9 .i64 Try.underlying92 hi78 1 hsz78 (some ad1) ks.length c1 ni hng.1 hng.2.1
     clear hi78 hsz78
     have HT := Aside0.mk (show Kd.C Kd.string W0 (some ad1) ni.toNat (ks.take ni.toNat) from by
      have h_ := Kd.C_take HR1.out (m := ni.toNat) (by omega)
      rwa [List.length_take, Nat.min_eq_left (by omega)] at h_)
     have hd := Kd.C_drop HR1.out (m := ni.toNat) (c := c1) (by omega) hc1
     rw [List.length_drop] at hd
     change Kd.string.C W0 (if c1 = ni.toNat then some ad1 else (some ad1).map (·.add (ni.toNat * 1))) _ _ at hd
     obtain ⟨AD, hAD⟩ : ∃ AD, AD = (if c1 = ni.toNat then some ad1 else (some ad1).map (·.add (ni.toNat * 1))) := ⟨_, rfl⟩
     obtain ⟨m2, hm2⟩ : ∃ m2, m2 = ks.length - ni.toNat := ⟨_, rfl⟩
     obtain ⟨c2, hc2⟩ : ∃ c2, c2 = c1 - ni.toNat := ⟨_, rfl⟩
     rw [← hAD, ← hm2] at hd
     rw [← hAD, ← hm2, ← hc2] at s2
     have HD := Aside0.mk hd
     have HC2 := Aside0.mk (show m2 ≤ c2 from by omega)
     clear hd hAD hm2 hc2
     have j7 : (out.length < o2.length) = True := eq_true hng.2.2.2
     clear hng
     go_wp2_with (first | (go_at_call 61; refine (spec_l10Bit.calls _ _ _ _ HBI.out).mono ?_; rintro e w' ⟨rfl, ⟨nd, rfl⟩⟩) | ((with_reducible refine gate_builtin (b := .append) (xs := #[.tmp 68, .tmp 73]) rfl ?_); at_builtin; refine Kd.S_append k74 (w0 := W0) W0.heap.size rfl (.tmp 68) (.tmp 73) 25 74 _ 64 rfl Try.underlying25 info74 rfl (by decide) (by omega) (.slice Av out.length cv) out ⟨⟨#[]⟩, [], bit, (out.length : Int) + 1, 0⟩ [.string ⟨#[]⟩, .slice none 0 0, .int .i64 bit, .int .i64 ((out.length : Int) + 1), .int .i64 0] (fun _ => True) (fun _ => False) rfl rfl ?aP (fun _ h_ => h_.elim) (fun _ _ => trivial) ?aO ?aB ?aS ?aL ?_; (case aP => exact k74_mkM _ _ _ ⟨⟨#[]⟩, [], bit, (out.length : Int) + 1, 0⟩ (Kd.R_nil _ _ _ _ _)); (case aO => exact Kd.S_mono (by repeat first | exact HO.out | apply Kd.S_alloc | apply Kd.S_drewN | apply Kd.S_drew) (fun _ _ => ⟨trivial, fun h_ => h_⟩)); (case aB => exact (by repeat first | exact HB.out | apply q4_ | apply q5_ | apply q6_)); (case aS => exact below_size (by repeat first | exact HB.out | apply q4_ | apply q5_ | apply q6_)); (case aL => have := HNN.out; omega); intro v5 w5 ho hb hg hat; rw [← HY1.out] at ho; obtain ⟨A5, c5, rfl⟩ := Kd.S_slice ho; have n0_ := Aside0.mk ho; have n1_ := Aside0.mk hb; clear ho hb hg hat HO HB; have HO := n0_; have HB := n1_; clear n0_ n1_) | ((with_reducible refine gate_callee (f := 80) rfl ?_); refine goesL_ (some 80) rfl rfl Try.func80 (by kernel_rfl) rfl #[.slice A0 l.length c0, .slice (some ad1) ni.toNat c1, .slice A5 y1.length c5] rfl (by (try simp only [List.map_toArray, List.map_cons, List.map_nil]); first | done | rfl) ?_; refine (HI1.out A0 l.length c0 (some ad1) ni.toNat c1 (.slice A5 y1.length c5) W0 _ ?s1 HR0.out hc0 HT.out ?s2 ?s3).mono ?_; (case s1 => exact (by repeat first | exact HB.out | apply q4_ | apply q5_ | apply q6_)); (case s2 => have := HNN.out; omega); (case s3 => exact (by rw [← HY1.out]; exact (by repeat first | exact HO.out | apply Kd.S_alloc | apply Kd.S_drewN | apply Kd.S_drew))); rintro e w6 ⟨v6, rfl, ho, hb⟩; refine ⟨_, rfl, ?_⟩; obtain ⟨g6, c6, rfl, gb6, gl6, cl6, hG6⟩ := Kd.S_form ho (by have := HNN.out; omega); clear gb6 gl6 hG6; have n0_ := Aside0.mk ho; have n1_ := Aside0.mk hb; clear ho hb HO HB; have HO := n0_; have HB := n1_; clear n0_ n1_) | ((with_reducible refine gate_store (t := 3) (p := 86) rfl ?_); obtain ⟨oki, ce, hcl, hM, hcc, hfr, hoki, hH⟩ := Kd.S_elem HO.out z74 (out.length : Int) (by omega) (by have := HNN.out; omega); obtain ⟨ve1, rfl, ge1⟩ := k74_openM hM; refine Kd.H_store k74 (w0 := W0) W0.heap.size rfl rfl 3 (.tmp 86) (.tmp 84) rfl 74 (o' := out.length * 5 + 4) (out.length : Int) 4 o2 { (rd_T74 o2 (out.length : Int)) with f4 := (o2.length : Int) } (.int .i64 (o2.length : Int)) [.int .i64 (o2.length : Int)] _ (fun _ => True) oki oki ?ha ?hf rfl rfl ?ht ?hn hH ?h0 ?h1 ?hj ?hM2 (fun _ h_ => h_) (by repeat first | exact HB.out | apply q4_ | apply q5_ | apply q6_) ?_; (case ha => rfl); (case hf => first | rfl | (simp; done) | omega); (case ht => kernel_rfl); (case hn => intro q hq; rw [List.mem_singleton.1 hq]; rfl); (case h0 => omega); (case h1 => have := HNN.out; omega); (case hj => exact Nat.le_refl 5); (case hM2 => exact k74_mkM _ _ _ _ ge1); intro w7 ho hb hg; rw [Int.toNat_natCast] at ho; have n0_ := Aside0.mk ho; have n1_ := Aside0.mk hb; clear ho hb hg HO HB hcl hM hcc hfr hoki hH ge1; have HO := n0_; have HB := n1_; clear n0_ n1_) | ((with_reducible refine gate_callee (f := 80) rfl ?_); refine goesL_ (some 92) rfl rfl Try.func80 (by kernel_rfl) rfl #[.slice A0 l.length c0, .slice AD m2 c2, .slice (some ⟨g6, 0, none⟩) o2.length c6] rfl (by (try simp only [List.map_toArray, List.map_cons, List.map_nil]); first | done | rfl) ?_; refine (HI2.out A0 l.length c0 AD m2 c2 (.slice (some ⟨g6, 0, none⟩) o2.length c6) W0 _ ?s1 HR0.out hc0 HD.out HC2.out ?s3).mono ?_; (case s1 => exact (by repeat first | exact HB.out | apply q4_ | apply q5_ | apply q6_)); (case s3 => exact (by repeat first | exact HO.out | apply Kd.S_alloc | apply Kd.S_drewN | apply Kd.S_drew)); rintro e w8 ⟨v8, rfl, ho, hb⟩; refine ⟨_, rfl, ?_⟩; have n0_ := Aside0.mk ho; have n1_ := Aside0.mk hb; clear ho hb HO HB; have HO := n0_; have HB := n1_; clear n0_ n1_))
     go_ret
     exact ⟨_, rfl, HO.out, HB.out⟩
/-! ### spec_l10Index: function 53 -/
def spec_l10Index.f (k : Nat) (l0 : List S51) : Option (List S74) := (spec_l10Keys.f k l0).bind fun ks => spec_l10Build.f k l0 ks []
theorem spec_l10Index.mono : ∀ a0 k, LeO (spec_l10Index.f k a0) (spec_l10Index.f (k + 1) a0) := fun a0 k => LeO.bind (spec_l10Keys.mono _ _) (fun _ => spec_l10Build.mono _ _ _ _)
set_option maxHeartbeats 8000000 in
set_option maxRecDepth 100000 in
theorem spec_l10Index.calls (k : Nat) (A0 : Option Addr) (c0 : Nat) (l0 : List S51) (r : List S74) (w : World) (hr0 : Kd.C k51 w A0 l0.length l0) (hc0 : l0.length ≤ c0) (h : spec_l10Index.f k l0 = some r) :
  Calls Try.prog 53 #[.slice A0 l0.length c0] w fun e w' => ∃ v0_ : Value, e = .returned (v0_) ∧ Kd.S k74 74 w' w.heap.size (fun _ => True) v0_ r ∧ Below w.heap.size w w' := by
 unfold spec_l10Index.f at h
 obtain ⟨ks, hk, h⟩ := Option.bind_eq_some_iff.mp h
 have HR0 := Aside0.mk hr0
 have HK := Aside0.mk hk
 have HH := Aside0.mk h
 have HB := Aside0.mk (Below.refl w.heap.size w)
 clear hr0 hk h
 go_enter Try.func53, Try.ntmps53
 go_wp2_with (first | ((with_reducible refine gate_callee (f := 81) rfl ?_); refine goesL_ (some 5) rfl rfl Try.func81 (by kernel_rfl) rfl #[.slice A0 l0.length c0] rfl (by (try simp only [List.map_toArray, List.map_cons, List.map_nil]); first | done | rfl) ?_; refine (spec_l10Keys.calls k A0 c0 l0 ks _ (Kd.C_below HR0.out HB.out) hc0 HK.out).mono ?_; rintro e w1 ⟨v1, rfl, ho, hb⟩; refine ⟨_, rfl, ?_⟩; obtain ⟨A1, c1, rfl, hl1, hC1⟩ := Kd.R_reads ho; have n0_ := Aside0.mk hC1; have n1_ := Aside0.mk (below_step HB.out hb); clear ho hb HB; have HC := n0_; have HB := n1_; clear n0_ n1_) | ((with_reducible refine gate_callee (f := 80) rfl ?_); refine goesL_ (some 6) rfl rfl Try.func80 (by kernel_rfl) rfl #[.slice A0 l0.length c0, .slice A1 ks.length c1, .slice none 0 0] rfl (by (try simp only [List.map_toArray, List.map_cons, List.map_nil]); first | done | rfl) ?_; refine (spec_l10Build.run k l0 ks [] r HH.out A0 l0.length c0 A1 ks.length c1 (.slice none 0 0) _ _ (Below.refl _ _) (Kd.C_below HR0.out HB.out) hc0 HC.out hl1 (Kd.S_nil _ _ _ _ _)).mono ?_; rintro e w2 ⟨v2, rfl, ho, hb⟩; refine ⟨_, rfl, ?_⟩; have n0_ := Aside0.mk (Kd.S_lower ho (below_size HB.out)); have n1_ := Aside0.mk (below_step HB.out hb); clear ho hb HB; have HO := n0_; have HB := n1_; clear n0_ n1_))
 go_ret
 exact ⟨_, rfl, HO.out, HB.out⟩
/-! ### spec_GoodIndex: function 12 -/
def spec_GoodIndex.f (k : Nat) (l0 : List (S74)) : Option (Bool) := (spec_l10Pairs.f k l0).bind fun t243 => ((spec_GoodPairs.f k t243).bind fun t246 => (if t246 = true then ((spec_l10Index.f k t243).bind fun t247 => ((spec_l10Same.f k l0 t247).bind fun t250 => (some t250))) else (some false)))
theorem spec_GoodIndex.mono : ∀ a0 k, LeO (spec_GoodIndex.f k a0) (spec_GoodIndex.f (k + 1) a0) := by
 intro a0 k
 unfold spec_GoodIndex.f
 repeat' first
   | (with_reducible exact spec_GoodPairs.mono _ _)
   | (with_reducible exact spec_l10Index.mono _ _)
   | (with_reducible exact spec_l10Pairs.mono _ _)
   | (with_reducible exact spec_l10Same.mono _ _ _)
   | (with_reducible exact LeO.refl _)
   | (with_reducible exact LeO.none _)
   | (with_reducible refine LeO.ite ?_ ?_)
   | (with_reducible refine LeO.bind ?_ (fun _ => ?_))
   | exact LeO.none _
   | refine LeO.ite ?_ ?_
   | refine LeO.bind ?_ (fun _ => ?_)
set_option maxHeartbeats 8000000 in
set_option maxRecDepth 100000 in
theorem spec_GoodIndex.calls (k : Nat) (A0 : Option Addr) (c0 : Nat) (l0 : List (S74)) (r : Bool) (w : World) (hr0 : Kd.C k74 w A0 l0.length l0) (hc0 : l0.length ≤ c0) (h : spec_GoodIndex.f k l0 = some r) :
  Calls Try.prog 12 #[.slice A0 l0.length c0] w fun e w' => e = .returned (.bool r) ∧ Below w.heap.size w w' := by
 have HR0 := Aside0.mk hr0
 have HC0 := Aside0.mk hc0
 clear hr0 hc0
 have HB := Aside0.mk (Below.refl w.heap.size w)
 have H : ((spec_l10Pairs.f k l0).bind fun t243 => ((spec_GoodPairs.f k t243).bind fun t246 => (if t246 = true then ((spec_l10Index.f k t243).bind fun t247 => ((spec_l10Same.f k l0 t247).bind fun t250 => (some t250))) else (some false)))) = some r := h
 clear h
 replace H := Option.bind_eq_some_iff.mp H
 obtain ⟨t243, A20, H⟩ := H
 replace H : ((spec_GoodPairs.f k t243).bind fun t246 => (if t246 = true then ((spec_l10Index.f k t243).bind fun t247 => ((spec_l10Same.f k l0 t247).bind fun t250 => (some t250))) else (some false))) = some r := H
 have A2 := Aside0.mk A20
 clear A20
 replace H := Option.bind_eq_some_iff.mp H
 obtain ⟨t246, A30, H⟩ := H
 replace H : (if t246 = true then ((spec_l10Index.f k t243).bind fun t247 => ((spec_l10Same.f k l0 t247).bind fun t250 => (some t250))) else (some false)) = some r := H
 have A3 := Aside0.mk A30
 clear A30
 by_cases c4 : t246 = true
 ·subst c4
  have H1 : ((spec_l10Index.f k t243).bind fun t247 => ((spec_l10Same.f k l0 t247).bind fun t250 => (some t250))) = some r := by rw [if_pos rfl] at H; exact H
  clear H
  have H := H1
  clear H1
  replace H := Option.bind_eq_some_iff.mp H
  obtain ⟨t247, A50, H⟩ := H
  replace H : ((spec_l10Same.f k l0 t247).bind fun t250 => (some t250)) = some r := H
  have A5 := Aside0.mk A50
  clear A50
  replace H := Option.bind_eq_some_iff.mp H
  obtain ⟨t250, A60, H⟩ := H
  replace H : (some t250) = some r := H
  have A6 := Aside0.mk A60
  clear A60
  obtain rfl := Option.some.inj H
  go_enter Try.func12, Try.ntmps12
  go_wp2_with (first | ((with_reducible refine gate_callee (f := 50) rfl ?_); refine goesL_ (some 5) rfl rfl Try.func50 (by kernel_rfl) rfl #[.slice A0 l0.length c0] rfl (by simp only [List.map_toArray, List.map_cons, List.map_nil] <;> rfl) ?_; (with_reducible refine (spec_l10Pairs.calls k _ _ l0 t243 _ ?side1 ?side2 A2.out).mono ?_); (case side1 => repeat (first | exact HR0.out | (with_reducible refine Kd.C_alloc ?_ _) | (with_reducible refine Kd.C_drewN ?_ _) | (with_reducible refine Kd.C_drew ?_))); (case side2 => exact HC0.out); rintro e w7 ⟨v244, rfl, ho0, hb⟩; refine ⟨_, rfl, ?_⟩; have n0_ := Aside0.mk (Kd.R_lower ho0 (below_size HB.out)); have n1_ := Aside0.mk (below_step HB.out hb); clear HB; have HO245 := n0_; have HB := n1_; clear n0_ n1_; (try clear hb); (try clear hk); (try clear hi); (try clear ho0); obtain ⟨Ao8, co8, eo8⟩ := Kd.R_slice HO245.out; subst eo8) | ((with_reducible refine gate_callee (f := 51) rfl ?_); refine goesL_ (some 7) rfl rfl Try.func51 (by kernel_rfl) rfl #[.slice Ao8 t243.length co8] rfl (by simp only [List.map_toArray, List.map_cons, List.map_nil] <;> rfl) ?_; (with_reducible refine (spec_GoodPairs.calls k _ _ t243 true _ ?side1 ?side2 A3.out).mono ?_); (case side1 => exact (Kd.R_reads' HO245.out).2.2); (case side2 => exact (Kd.R_reads' HO245.out).2.1); rintro e w9 ⟨rfl, hb⟩; refine ⟨_, rfl, ?_⟩; have n0_ := Aside0.mk (Kd.R_below HO245.out hb); have n1_ := Aside0.mk (below_step HB.out hb); clear HO245; clear HB; have HO245 := n0_; have HB := n1_; clear n0_ n1_; (try clear hb); (try clear hk); (try clear hi)) | (go_at_call 53; (with_reducible refine (spec_l10Index.calls k _ _ t243 t247 _ ?side1 ?side2 A5.out).mono ?_); (case side1 => exact (Kd.R_reads' HO245.out).2.2); (case side2 => exact (Kd.R_reads' HO245.out).2.1); rintro e w10 ⟨v248, rfl, ho0, hb⟩; have n0_ := Aside0.mk (Kd.R_below HO245.out hb); have n1_ := Aside0.mk (Kd.S_lower ho0 (below_size HB.out)); have n2_ := Aside0.mk (below_step HB.out hb); clear HO245; clear HB; have HO245 := n0_; have HO249 := n1_; have HB := n2_; clear n0_ n1_ n2_; (try clear hb); (try clear hk); (try clear hi); (try clear ho0); obtain ⟨Ao11, co11, eo11⟩ := Kd.S_slice HO249.out; subst eo11) | (go_at_call 52; (with_reducible refine (spec_l10Same.calls k _ _ l0 _ _ t247 t250 _ ?side1 ?side2 ?side3 ?side4 A6.out).mono ?_); (case side1 => exact (Kd.C_below HR0.out HB.out)); (case side2 => exact HC0.out); (case side3 => exact (Kd.S_reads' HO249.out).2.2); (case side4 => exact (Kd.S_reads' HO249.out).2.1); rintro e w12 ⟨rfl, hb⟩; have n0_ := Aside0.mk (Kd.R_below HO245.out hb); have n1_ := Aside0.mk (Kd.S_below HO249.out hb); have n2_ := Aside0.mk (below_step HB.out hb); clear HO245; clear HO249; clear HB; have HO245 := n0_; have HO249 := n1_; have HB := n2_; clear n0_ n1_ n2_; (try clear hb); (try clear hk); (try clear hi)))
  go_ret
  exact ⟨rfl, by exact HB.out⟩
 ·replace c4 := Bool.eq_false_iff.mpr c4
  subst c4
  have H1 : (some false) = some r := by rw [if_neg (show ¬ (false = true) by decide)] at H; exact H
  clear H
  have H := H1
  clear H1
  obtain rfl := Option.some.inj H
  go_enter Try.func12, Try.ntmps12
  go_wp2_with (first | ((with_reducible refine gate_callee (f := 50) rfl ?_); refine goesL_ (some 5) rfl rfl Try.func50 (by kernel_rfl) rfl #[.slice A0 l0.length c0] rfl (by simp only [List.map_toArray, List.map_cons, List.map_nil] <;> rfl) ?_; (with_reducible refine (spec_l10Pairs.calls k _ _ l0 t243 _ ?side1 ?side2 A2.out).mono ?_); (case side1 => repeat (first | exact HR0.out | (with_reducible refine Kd.C_alloc ?_ _) | (with_reducible refine Kd.C_drewN ?_ _) | (with_reducible refine Kd.C_drew ?_))); (case side2 => exact HC0.out); rintro e w13 ⟨v244, rfl, ho0, hb⟩; refine ⟨_, rfl, ?_⟩; have n0_ := Aside0.mk (Kd.R_lower ho0 (below_size HB.out)); have n1_ := Aside0.mk (below_step HB.out hb); clear HB; have HO245 := n0_; have HB := n1_; clear n0_ n1_; (try clear hb); (try clear hk); (try clear hi); (try clear ho0); obtain ⟨Ao14, co14, eo14⟩ := Kd.R_slice HO245.out; subst eo14) | ((with_reducible refine gate_callee (f := 51) rfl ?_); refine goesL_ (some 7) rfl rfl Try.func51 (by kernel_rfl) rfl #[.slice Ao14 t243.length co14] rfl (by simp only [List.map_toArray, List.map_cons, List.map_nil] <;> rfl) ?_; (with_reducible refine (spec_GoodPairs.calls k _ _ t243 false _ ?side1 ?side2 A3.out).mono ?_); (case side1 => exact (Kd.R_reads' HO245.out).2.2); (case side2 => exact (Kd.R_reads' HO245.out).2.1); rintro e w15 ⟨rfl, hb⟩; refine ⟨_, rfl, ?_⟩; have n0_ := Aside0.mk (Kd.R_below HO245.out hb); have n1_ := Aside0.mk (below_step HB.out hb); clear HO245; clear HB; have HO245 := n0_; have HB := n1_; clear n0_ n1_; (try clear hb); (try clear hk); (try clear hi)))
  go_ret
  exact ⟨rfl, by exact HB.out⟩
end
end Go.Proofs.Ytkkphbjemnifiaa.PFnFound
