-- Printed for this claim by a changed copy of the kit's printing program (wip/tools/patch_print.py); Lean checks it.
import Derived.Test.YtkkphbjemnifiaaPFnFoundx0
import Derived.Test.YtkkphbjemnifiaaPFnFoundx3
import Derived.Test.YtkkphbjemnifiaaPFnFoundx4
import Derived.Test.YtkkphbjemnifiaaPFnFoundx5
import Derived.Test.YtkkphbjemnifiaaPFnFoundx8
import Derived.Test.YtkkphbjemnifiaaPFnFoundx9
namespace Go.Proofs.Ytkkphbjemnifiaa.PFnFound
open Go.RowKit Go.Proofs.YtkkphbjemnifiaaW.PrintWords Go.Proofs.YtkkphbjemnifiaaW.PrintLast Go.Proofs.YtkkphbjemnifiaaW.PrintMore
attribute [local go_sem] max2_int min2_int max_two min_two max_three min_three max_four min_four   -- for this text's walks alone
set_option linter.unusedVariables false
set_option linter.unusedSimpArgs false

noncomputable section
/-! ### impl_Fork: function 83 -/
def impl_Fork.l (k : Nat) : List S74 → List S74 → Option Bool
 | x :: l, y :: m => (impl_isIndex_1.f k x.f0 x.f1 x.f2 x.f3 x.f4 y.f0 y.f1 y.f2 y.f3 y.f4).bind fun b => if b = true then impl_Fork.l k l m else some false
 | _, _ => some true
def impl_Fork.f (k : Nat) (l0 l1 : List S74) (g : Nat) : Option Bool := if g = 84 then (if (l0.length : Int) = (l1.length : Int) then impl_Fork.l k l0 l1 else some false) else none
theorem impl_Fork.mono_l (k : Nat) : ∀ l0 l1, LeO (impl_Fork.l k l0 l1) (impl_Fork.l (k + 1) l0 l1)
 | x :: l, y :: m => by
  rw [impl_Fork.l, impl_Fork.l]
  exact LeO.bind (impl_isIndex_1.mono _ _ _ _ _ _ _ _ _ _ _) (fun _ => LeO.ite (impl_Fork.mono_l k l m) (LeO.refl _))
 | [], _ => by rw [impl_Fork.l, impl_Fork.l] <;> first | exact LeO.refl _ | (intros; simp_all)
 | _ :: _, [] => by rw [impl_Fork.l, impl_Fork.l] <;> first | exact LeO.refl _ | (intros; simp_all)
theorem impl_Fork.mono : ∀ l0 l1 g k, LeO (impl_Fork.f k l0 l1 g) (impl_Fork.f (k + 1) l0 l1 g) := fun l0 l1 g k => LeO.ite (LeO.ite (impl_Fork.mono_l k l0 l1) (LeO.refl _)) (LeO.refl _)
theorem impl_Fork.step (k : Nat) (l0 l1 : List S74) (i : Int) (h0 : 0 ≤ i) (hi : i < (l0.length : Int)) (hj : i < (l1.length : Int)) : impl_Fork.l k (l0.drop i.toNat) (l1.drop i.toNat) = (impl_isIndex_1.f k (rd_T74 l0 i).f0 (rd_T74 l0 i).f1 (rd_T74 l0 i).f2 (rd_T74 l0 i).f3 (rd_T74 l0 i).f4 (rd_T74 l1 i).f0 (rd_T74 l1 i).f1 (rd_T74 l1 i).f2 (rd_T74 l1 i).f3 (rd_T74 l1 i).f4).bind fun b => if b = true then impl_Fork.l k (l0.drop (i + 1).toNat) (l1.drop (i + 1).toNat) else some false := by
 rw [List.drop_eq_getElem_cons (show i.toNat < l0.length by omega), List.drop_eq_getElem_cons (show i.toNat < l1.length by omega), impl_Fork.l, show (i + 1).toNat = i.toNat + 1 by omega]
 have e : rd_T74 l0 i = l0[i.toNat] := by simp [rd_T74, List.getD_eq_getElem?_getD, List.getElem?_eq_getElem (show i.toNat < l0.length by omega)]
 have e2 : rd_T74 l1 i = l1[i.toNat] := by simp [rd_T74, List.getD_eq_getElem?_getD, List.getElem?_eq_getElem (show i.toNat < l1.length by omega)]
 rw [e, e2]
set_option maxHeartbeats 8000000 in
set_option maxRecDepth 100000 in
theorem impl_Fork.calls (k : Nat) (A0 : Option Addr) (c0 : Nat) (l0 : List S74) (A1 : Option Addr) (c1 : Nat) (l1 : List S74) (g : Nat) (r : Bool) (w : World) (hr0 : Kd.C k74 w A0 l0.length l0) (hc0 : l0.length ≤ c0) (hr1 : Kd.C k74 w A1 l1.length l1) (hc1 : l1.length ≤ c1) (h : impl_Fork.f k l0 l1 g = some r) :
  Calls Try.prog 83 #[.slice A0 l0.length c0, .slice A1 l1.length c1, .func (.func g) #[] #[]] w fun e w' => e = .returned (.bool r) ∧ Below w.heap.size w w' := by
 unfold impl_Fork.f at h
 by_cases hg : g = 84
 rotate_left
 ·rw [if_neg hg] at h; cases h
 rw [if_pos hg] at h
 subst hg
 have hu74 := Try.underlying74
 have HR0 := Aside0.mk hr0
 have HR1 := Aside0.mk hr1
 have HB := Aside0.mk (Below.refl w.heap.size w)
 clear hr0 hr1
 by_cases hl : (l0.length : Int) = (l1.length : Int)
 ·rw [if_pos hl] at h
  have HI := Aside0.mk h
  have hle : l1.length = l0.length := by omega
  have HLE := Aside0.mk hle
  rw [hle]
  rw [hle] at hc1
  clear h hl hle
  go_enter Try.func83, Try.ntmps83
  go_wp2
  go_loopg [17] l0.length (fun kq v17 w' => ∃ (xi : Int), v17 = .int .i64 xi ∧ Aside0 (0 ≤ xi ∧ xi + kq = l0.length) ∧ Aside0 (impl_Fork.l k (l0.drop xi.toNat) (l1.drop xi.toNat) = some r) ∧ Aside0 (Below w.heap.size w w'))
  case atStart => exact ⟨0, rfl, ⟨by omega⟩, HI, HB⟩
  case round =>
   clear HI HB
   obtain ⟨xi, rfl, ⟨hxi, hxk⟩, HI, HB⟩ := hrel
   cases gk with
   | zero =>
    have e0 : decide (xi < (l0.length : Int)) = false := decide_eq_false (by omega)
    have hr : true = r := by
     have := HI.out
     rw [List.drop_eq_nil_of_le (by omega), impl_Fork.l] at this
     ·exact Option.some.inj this
     ·intros; simp_all
    subst hr
    go_wp2
    go_ret
    exact ⟨rfl, HB.out⟩
   | succ k1 =>
    have e0 : decide (xi < (l0.length : Int)) = true := decide_eq_true (by omega)
    have hs := HI.out
    have hl1 := HLE.out
    rw [impl_Fork.step k l0 l1 xi hxi (by omega) (by omega)] at hs
    obtain ⟨b, hb, hs⟩ := Option.bind_eq_some_iff.mp hs
    have HBI := Aside0.mk hb
    clear hb HI
    obtain ⟨ad2, Aa, ca, e2, hx0, hx1, hx2, hx3, hx4, hxl, hxr⟩ := at_T74 HR0.out xi hxi (by omega)
    cases e2
    obtain ⟨ad3, Ab, cb, e3, hy0, hy1, hy2, hy3, hy4, hyl, hyr⟩ := at_T74 HR1.out xi hxi (by omega)
    cases e3
    replace hx0 := (HB.out.cell (World.block_lt_of_cell? _ _ hx0)).trans hx0
    replace hx1 := (HB.out.cell (World.block_lt_of_cell? _ _ hx1)).trans hx1
    replace hx2 := (HB.out.cell (World.block_lt_of_cell? _ _ hx2)).trans hx2
    replace hx3 := (HB.out.cell (World.block_lt_of_cell? _ _ hx3)).trans hx3
    replace hx4 := (HB.out.cell (World.block_lt_of_cell? _ _ hx4)).trans hx4
    have Y0 := Aside0.mk hy0
    have Y1 := Aside0.mk hy1
    have Y2 := Aside0.mk hy2
    have Y3 := Aside0.mk hy3
    have Y4 := Aside0.mk hy4
    have XR := Aside0.mk hxr
    have YR := Aside0.mk hyr
    have XL := Aside0.mk hxl
    have YL := Aside0.mk hyl
    clear hy0 hy1 hy2 hy3 hy4 hxr hyr hxl hyl hl1
    have p0 : (0 ≤ xi) = True := eq_true hxi
    have q0 : (xi < (l0.length : Int)) = True := eq_true (by omega)
    have i1 : wrap64 (xi + 1) = xi + 1 := by
     have := HR0.out.2.1
     unfold wrap64; omega
    cases b with
    | false =>
     rw [if_neg (by decide)] at hs
     obtain rfl := Option.some.inj hs
     clear hs
     go_wp2_with (first | ((with_reducible refine gate_dst (N := 8) rfl ?_); refine box_event ?hg (N := 8) ?hd (cs := #[.string (⟨#[]⟩ : ByteArray), .slice none 0 0, .int .i64 0, .int .i64 0, .int .i64 0]) (t := 74) ?hr ?_; (case hd => rfl); (case hg => rfl); (case hr => go_simp); intro ga hg w1 hbox hb; have n0_ := Aside0.mk (below_step HB.out hb); have n1_ := Aside0.mk (hbox); have n2_ := Aside0.mk ((by rw [hg]; exact below_size HB.out : w.heap.size ≤ ga)); (try clear HB); (try clear BA); (try clear GE_ga); have HB := n0_; have BA := n1_; have GE_ga := n2_; clear n0_ n1_ n2_; clear hb hbox hg; have hc_BA_0 : w1.cell? ⟨ga, 0, none⟩ = some (.string (⟨#[]⟩ : ByteArray)) := (blk_cell BA.out 0).trans rfl; have hf_BA_0 := blk_frozen BA.out 0; have hc_BA_1 : w1.cell? ⟨ga, 1, none⟩ = some (.slice none 0 0) := (blk_cell BA.out 1).trans rfl; have hf_BA_1 := blk_frozen BA.out 1; have hc_BA_2 : w1.cell? ⟨ga, 2, none⟩ = some (.int .i64 0) := (blk_cell BA.out 2).trans rfl; have hf_BA_2 := blk_frozen BA.out 2; have hc_BA_3 : w1.cell? ⟨ga, 3, none⟩ = some (.int .i64 0) := (blk_cell BA.out 3).trans rfl; have hf_BA_3 := blk_frozen BA.out 3; have hc_BA_4 : w1.cell? ⟨ga, 4, none⟩ = some (.int .i64 0) := (blk_cell BA.out 4).trans rfl; have hf_BA_4 := blk_frozen BA.out 4) | ((with_reducible refine gate_store (t := 74) (p := 8) rfl ?_); refine store_event (t := 74) (p := 8) (v := ?vo_w2) (w1 := (((((w1.setCell ⟨ga, 0, none⟩ (.string ((rd_T74 l0 xi).f0))).setCell ⟨ga, 1, none⟩ (.slice Aa ((rd_T74 l0 xi).f1).length ca)).setCell ⟨ga, 2, none⟩ (.int .i64 ((rd_T74 l0 xi).f2))).setCell ⟨ga, 3, none⟩ (.int .i64 ((rd_T74 l0 xi).f3))).setCell ⟨ga, 4, none⟩ (.int .i64 ((rd_T74 l0 xi).f4)))) ?hg ?ho ?hn ?hr ?_; (case ho => rfl); (case hg => rfl); (case hn => rfl); (case hr => go_simp); intro w2 hw; have n0_ := Aside0.mk (show Below w.heap.size w w2 from (by rw [hw]; exact below_set (below_set (below_set (below_set (below_set HB.out GE_ga.out) GE_ga.out) GE_ga.out) GE_ga.out) GE_ga.out)); have n1_ := Aside0.mk (show w2.heap[ga]? = some (.cells #[.string ((rd_T74 l0 xi).f0), .slice Aa ((rd_T74 l0 xi).f1).length ca, .int .i64 ((rd_T74 l0 xi).f2), .int .i64 ((rd_T74 l0 xi).f3), .int .i64 ((rd_T74 l0 xi).f4)] 74 (0, 0)) from (by rw [hw]; exact (blk_put (cs' := #[.string ((rd_T74 l0 xi).f0), .slice Aa ((rd_T74 l0 xi).f1).length ca, .int .i64 ((rd_T74 l0 xi).f2), .int .i64 ((rd_T74 l0 xi).f3), .int .i64 ((rd_T74 l0 xi).f4)]) (blk_put (cs' := #[.string ((rd_T74 l0 xi).f0), .slice Aa ((rd_T74 l0 xi).f1).length ca, .int .i64 ((rd_T74 l0 xi).f2), .int .i64 ((rd_T74 l0 xi).f3), .int .i64 0]) (blk_put (cs' := #[.string ((rd_T74 l0 xi).f0), .slice Aa ((rd_T74 l0 xi).f1).length ca, .int .i64 ((rd_T74 l0 xi).f2), .int .i64 0, .int .i64 0]) (blk_put (cs' := #[.string ((rd_T74 l0 xi).f0), .slice Aa ((rd_T74 l0 xi).f1).length ca, .int .i64 0, .int .i64 0, .int .i64 0]) (blk_put (cs' := #[.string ((rd_T74 l0 xi).f0), .slice none 0 0, .int .i64 0, .int .i64 0, .int .i64 0]) BA.out 0 (.string ((rd_T74 l0 xi).f0)) rfl) 1 (.slice Aa ((rd_T74 l0 xi).f1).length ca) rfl) 2 (.int .i64 ((rd_T74 l0 xi).f2)) rfl) 3 (.int .i64 ((rd_T74 l0 xi).f3)) rfl) 4 (.int .i64 ((rd_T74 l0 xi).f4)) rfl))); (try clear hc_BA_0); (try clear hf_BA_0); (try clear hc_BA_1); (try clear hf_BA_1); (try clear hc_BA_2); (try clear hf_BA_2); (try clear hc_BA_3); (try clear hf_BA_3); (try clear hc_BA_4); (try clear hf_BA_4); (try clear HB); (try clear BA); have HB := n0_; have BA := n1_; clear n0_ n1_; clear hw; (try simp only [Act.put, List.setIfInBounds_toArray, List.set_cons_zero, List.set_cons_succ]); have hc_BA_0 : w2.cell? ⟨ga, 0, none⟩ = some (.string ((rd_T74 l0 xi).f0)) := (blk_cell BA.out 0).trans rfl; have hf_BA_0 := blk_frozen BA.out 0; have hc_BA_1 : w2.cell? ⟨ga, 1, none⟩ = some (.slice Aa ((rd_T74 l0 xi).f1).length ca) := (blk_cell BA.out 1).trans rfl; have hf_BA_1 := blk_frozen BA.out 1; have hc_BA_2 : w2.cell? ⟨ga, 2, none⟩ = some (.int .i64 ((rd_T74 l0 xi).f2)) := (blk_cell BA.out 2).trans rfl; have hf_BA_2 := blk_frozen BA.out 2; have hc_BA_3 : w2.cell? ⟨ga, 3, none⟩ = some (.int .i64 ((rd_T74 l0 xi).f3)) := (blk_cell BA.out 3).trans rfl; have hf_BA_3 := blk_frozen BA.out 3; have hc_BA_4 : w2.cell? ⟨ga, 4, none⟩ = some (.int .i64 ((rd_T74 l0 xi).f4)) := (blk_cell BA.out 4).trans rfl; have hf_BA_4 := blk_frozen BA.out 4; (try clear hy0); have hy0 := (HB.out.cell (World.block_lt_of_cell? _ _ Y0.out)).trans Y0.out; (try clear hy1); have hy1 := (HB.out.cell (World.block_lt_of_cell? _ _ Y1.out)).trans Y1.out; (try clear hy2); have hy2 := (HB.out.cell (World.block_lt_of_cell? _ _ Y2.out)).trans Y2.out; (try clear hy3); have hy3 := (HB.out.cell (World.block_lt_of_cell? _ _ Y3.out)).trans Y3.out; (try clear hy4); have hy4 := (HB.out.cell (World.block_lt_of_cell? _ _ Y4.out)).trans Y4.out) | ((with_reducible refine gate_dst (N := 9) rfl ?_); refine box_event ?hg (N := 9) ?hd (cs := #[.string (⟨#[]⟩ : ByteArray), .slice none 0 0, .int .i64 0, .int .i64 0, .int .i64 0]) (t := 74) ?hr ?_; (case hd => rfl); (case hg => rfl); (case hr => go_simp); intro gb hg w3 hbox hb; have n0_ := Aside0.mk (below_step HB.out hb); have n1_ := Aside0.mk (blk_below BA.out hb); have n2_ := Aside0.mk (hbox); have n3_ := Aside0.mk ((by rw [hg]; exact below_size HB.out : w.heap.size ≤ gb)); have n4_ := Aside0.mk ((by rw [hg]; exact Nat.ne_of_lt (blk_lt BA.out) : ga ≠ gb)); (try clear hc_BA_0); (try clear hf_BA_0); (try clear hc_BA_1); (try clear hf_BA_1); (try clear hc_BA_2); (try clear hf_BA_2); (try clear hc_BA_3); (try clear hf_BA_3); (try clear hc_BA_4); (try clear hf_BA_4); (try clear HB); (try clear BA); (try clear BB); (try clear GE_gb); (try clear NB_ga_gb); have HB := n0_; have BA := n1_; have BB := n2_; have GE_gb := n3_; have NB_ga_gb := n4_; clear n0_ n1_ n2_ n3_ n4_; clear hb hbox hg; have hc_BA_0 : w3.cell? ⟨ga, 0, none⟩ = some (.string ((rd_T74 l0 xi).f0)) := (blk_cell BA.out 0).trans rfl; have hf_BA_0 := blk_frozen BA.out 0; have hc_BA_1 : w3.cell? ⟨ga, 1, none⟩ = some (.slice Aa ((rd_T74 l0 xi).f1).length ca) := (blk_cell BA.out 1).trans rfl; have hf_BA_1 := blk_frozen BA.out 1; have hc_BA_2 : w3.cell? ⟨ga, 2, none⟩ = some (.int .i64 ((rd_T74 l0 xi).f2)) := (blk_cell BA.out 2).trans rfl; have hf_BA_2 := blk_frozen BA.out 2; have hc_BA_3 : w3.cell? ⟨ga, 3, none⟩ = some (.int .i64 ((rd_T74 l0 xi).f3)) := (blk_cell BA.out 3).trans rfl; have hf_BA_3 := blk_frozen BA.out 3; have hc_BA_4 : w3.cell? ⟨ga, 4, none⟩ = some (.int .i64 ((rd_T74 l0 xi).f4)) := (blk_cell BA.out 4).trans rfl; have hf_BA_4 := blk_frozen BA.out 4; have hc_BB_0 : w3.cell? ⟨gb, 0, none⟩ = some (.string (⟨#[]⟩ : ByteArray)) := (blk_cell BB.out 0).trans rfl; have hf_BB_0 := blk_frozen BB.out 0; have hc_BB_1 : w3.cell? ⟨gb, 1, none⟩ = some (.slice none 0 0) := (blk_cell BB.out 1).trans rfl; have hf_BB_1 := blk_frozen BB.out 1; have hc_BB_2 : w3.cell? ⟨gb, 2, none⟩ = some (.int .i64 0) := (blk_cell BB.out 2).trans rfl; have hf_BB_2 := blk_frozen BB.out 2; have hc_BB_3 : w3.cell? ⟨gb, 3, none⟩ = some (.int .i64 0) := (blk_cell BB.out 3).trans rfl; have hf_BB_3 := blk_frozen BB.out 3; have hc_BB_4 : w3.cell? ⟨gb, 4, none⟩ = some (.int .i64 0) := (blk_cell BB.out 4).trans rfl; have hf_BB_4 := blk_frozen BB.out 4) | ((with_reducible refine gate_store (t := 74) (p := 9) rfl ?_); refine store_event (t := 74) (p := 9) (v := ?vo_w4) (w1 := (((((w3.setCell ⟨gb, 0, none⟩ (.string ((rd_T74 l1 xi).f0))).setCell ⟨gb, 1, none⟩ (.slice Ab ((rd_T74 l1 xi).f1).length cb)).setCell ⟨gb, 2, none⟩ (.int .i64 ((rd_T74 l1 xi).f2))).setCell ⟨gb, 3, none⟩ (.int .i64 ((rd_T74 l1 xi).f3))).setCell ⟨gb, 4, none⟩ (.int .i64 ((rd_T74 l1 xi).f4)))) ?hg ?ho ?hn ?hr ?_; (case ho => rfl); (case hg => rfl); (case hn => rfl); (case hr => go_simp); intro w4 hw; have n0_ := Aside0.mk (show Below w.heap.size w w4 from (by rw [hw]; exact below_set (below_set (below_set (below_set (below_set HB.out GE_gb.out) GE_gb.out) GE_gb.out) GE_gb.out) GE_gb.out)); have n1_ := Aside0.mk (show w4.heap[ga]? = some (.cells #[.string ((rd_T74 l0 xi).f0), .slice Aa ((rd_T74 l0 xi).f1).length ca, .int .i64 ((rd_T74 l0 xi).f2), .int .i64 ((rd_T74 l0 xi).f3), .int .i64 ((rd_T74 l0 xi).f4)] 74 (0, 0)) from (by rw [hw]; exact (blk_far (blk_far (blk_far (blk_far (blk_far BA.out (p := ⟨gb, 0, none⟩) NB_ga_gb.out (.string ((rd_T74 l1 xi).f0))) (p := ⟨gb, 1, none⟩) NB_ga_gb.out (.slice Ab ((rd_T74 l1 xi).f1).length cb)) (p := ⟨gb, 2, none⟩) NB_ga_gb.out (.int .i64 ((rd_T74 l1 xi).f2))) (p := ⟨gb, 3, none⟩) NB_ga_gb.out (.int .i64 ((rd_T74 l1 xi).f3))) (p := ⟨gb, 4, none⟩) NB_ga_gb.out (.int .i64 ((rd_T74 l1 xi).f4))))); have n2_ := Aside0.mk (show w4.heap[gb]? = some (.cells #[.string ((rd_T74 l1 xi).f0), .slice Ab ((rd_T74 l1 xi).f1).length cb, .int .i64 ((rd_T74 l1 xi).f2), .int .i64 ((rd_T74 l1 xi).f3), .int .i64 ((rd_T74 l1 xi).f4)] 74 (0, 0)) from (by rw [hw]; exact (blk_put (cs' := #[.string ((rd_T74 l1 xi).f0), .slice Ab ((rd_T74 l1 xi).f1).length cb, .int .i64 ((rd_T74 l1 xi).f2), .int .i64 ((rd_T74 l1 xi).f3), .int .i64 ((rd_T74 l1 xi).f4)]) (blk_put (cs' := #[.string ((rd_T74 l1 xi).f0), .slice Ab ((rd_T74 l1 xi).f1).length cb, .int .i64 ((rd_T74 l1 xi).f2), .int .i64 ((rd_T74 l1 xi).f3), .int .i64 0]) (blk_put (cs' := #[.string ((rd_T74 l1 xi).f0), .slice Ab ((rd_T74 l1 xi).f1).length cb, .int .i64 ((rd_T74 l1 xi).f2), .int .i64 0, .int .i64 0]) (blk_put (cs' := #[.string ((rd_T74 l1 xi).f0), .slice Ab ((rd_T74 l1 xi).f1).length cb, .int .i64 0, .int .i64 0, .int .i64 0]) (blk_put (cs' := #[.string ((rd_T74 l1 xi).f0), .slice none 0 0, .int .i64 0, .int .i64 0, .int .i64 0]) BB.out 0 (.string ((rd_T74 l1 xi).f0)) rfl) 1 (.slice Ab ((rd_T74 l1 xi).f1).length cb) rfl) 2 (.int .i64 ((rd_T74 l1 xi).f2)) rfl) 3 (.int .i64 ((rd_T74 l1 xi).f3)) rfl) 4 (.int .i64 ((rd_T74 l1 xi).f4)) rfl))); (try clear hc_BA_0); (try clear hf_BA_0); (try clear hc_BA_1); (try clear hf_BA_1); (try clear hc_BA_2); (try clear hf_BA_2); (try clear hc_BA_3); (try clear hf_BA_3); (try clear hc_BA_4); (try clear hf_BA_4); (try clear hc_BB_0); (try clear hf_BB_0); (try clear hc_BB_1); (try clear hf_BB_1); (try clear hc_BB_2); (try clear hf_BB_2); (try clear hc_BB_3); (try clear hf_BB_3); (try clear hc_BB_4); (try clear hf_BB_4); (try clear HB); (try clear BA); (try clear BB); have HB := n0_; have BA := n1_; have BB := n2_; clear n0_ n1_ n2_; clear hw; (try simp only [Act.put, List.setIfInBounds_toArray, List.set_cons_zero, List.set_cons_succ]); have hc_BA_0 : w4.cell? ⟨ga, 0, none⟩ = some (.string ((rd_T74 l0 xi).f0)) := (blk_cell BA.out 0).trans rfl; have hf_BA_0 := blk_frozen BA.out 0; have hc_BA_1 : w4.cell? ⟨ga, 1, none⟩ = some (.slice Aa ((rd_T74 l0 xi).f1).length ca) := (blk_cell BA.out 1).trans rfl; have hf_BA_1 := blk_frozen BA.out 1; have hc_BA_2 : w4.cell? ⟨ga, 2, none⟩ = some (.int .i64 ((rd_T74 l0 xi).f2)) := (blk_cell BA.out 2).trans rfl; have hf_BA_2 := blk_frozen BA.out 2; have hc_BA_3 : w4.cell? ⟨ga, 3, none⟩ = some (.int .i64 ((rd_T74 l0 xi).f3)) := (blk_cell BA.out 3).trans rfl; have hf_BA_3 := blk_frozen BA.out 3; have hc_BA_4 : w4.cell? ⟨ga, 4, none⟩ = some (.int .i64 ((rd_T74 l0 xi).f4)) := (blk_cell BA.out 4).trans rfl; have hf_BA_4 := blk_frozen BA.out 4; have hc_BB_0 : w4.cell? ⟨gb, 0, none⟩ = some (.string ((rd_T74 l1 xi).f0)) := (blk_cell BB.out 0).trans rfl; have hf_BB_0 := blk_frozen BB.out 0; have hc_BB_1 : w4.cell? ⟨gb, 1, none⟩ = some (.slice Ab ((rd_T74 l1 xi).f1).length cb) := (blk_cell BB.out 1).trans rfl; have hf_BB_1 := blk_frozen BB.out 1; have hc_BB_2 : w4.cell? ⟨gb, 2, none⟩ = some (.int .i64 ((rd_T74 l1 xi).f2)) := (blk_cell BB.out 2).trans rfl; have hf_BB_2 := blk_frozen BB.out 2; have hc_BB_3 : w4.cell? ⟨gb, 3, none⟩ = some (.int .i64 ((rd_T74 l1 xi).f3)) := (blk_cell BB.out 3).trans rfl; have hf_BB_3 := blk_frozen BB.out 3; have hc_BB_4 : w4.cell? ⟨gb, 4, none⟩ = some (.int .i64 ((rd_T74 l1 xi).f4)) := (blk_cell BB.out 4).trans rfl; have hf_BB_4 := blk_frozen BB.out 4) | ((go_at_call 84); refine (impl_isIndex_1.calls k _ Aa ca _ _ _ _ _ Ab cb _ _ _ _ _ _ (Kd.C_below XR.out HB.out) XL.out (Kd.C_below YR.out HB.out) YL.out HBI.out).mono ?_; rintro e w5 ⟨rfl, hb⟩; have n0_ := Aside0.mk (below_step HB.out hb); clear hb HB BA BB; have HB := n0_; clear n0_))
     go_ret
     exact ⟨rfl, HB.out⟩
    | true =>
     rw [if_pos rfl] at hs
     have HI := Aside0.mk hs
     clear hs
     go_wp2_with (first | ((with_reducible refine gate_dst (N := 8) rfl ?_); refine box_event ?hg (N := 8) ?hd (cs := #[.string (⟨#[]⟩ : ByteArray), .slice none 0 0, .int .i64 0, .int .i64 0, .int .i64 0]) (t := 74) ?hr ?_; (case hd => rfl); (case hg => rfl); (case hr => go_simp); intro ga hg w1 hbox hb; have n0_ := Aside0.mk (below_step HB.out hb); have n1_ := Aside0.mk (hbox); have n2_ := Aside0.mk ((by rw [hg]; exact below_size HB.out : w.heap.size ≤ ga)); (try clear HB); (try clear BA); (try clear GE_ga); have HB := n0_; have BA := n1_; have GE_ga := n2_; clear n0_ n1_ n2_; clear hb hbox hg; have hc_BA_0 : w1.cell? ⟨ga, 0, none⟩ = some (.string (⟨#[]⟩ : ByteArray)) := (blk_cell BA.out 0).trans rfl; have hf_BA_0 := blk_frozen BA.out 0; have hc_BA_1 : w1.cell? ⟨ga, 1, none⟩ = some (.slice none 0 0) := (blk_cell BA.out 1).trans rfl; have hf_BA_1 := blk_frozen BA.out 1; have hc_BA_2 : w1.cell? ⟨ga, 2, none⟩ = some (.int .i64 0) := (blk_cell BA.out 2).trans rfl; have hf_BA_2 := blk_frozen BA.out 2; have hc_BA_3 : w1.cell? ⟨ga, 3, none⟩ = some (.int .i64 0) := (blk_cell BA.out 3).trans rfl; have hf_BA_3 := blk_frozen BA.out 3; have hc_BA_4 : w1.cell? ⟨ga, 4, none⟩ = some (.int .i64 0) := (blk_cell BA.out 4).trans rfl; have hf_BA_4 := blk_frozen BA.out 4) | ((with_reducible refine gate_store (t := 74) (p := 8) rfl ?_); refine store_event (t := 74) (p := 8) (v := ?vo_w2) (w1 := (((((w1.setCell ⟨ga, 0, none⟩ (.string ((rd_T74 l0 xi).f0))).setCell ⟨ga, 1, none⟩ (.slice Aa ((rd_T74 l0 xi).f1).length ca)).setCell ⟨ga, 2, none⟩ (.int .i64 ((rd_T74 l0 xi).f2))).setCell ⟨ga, 3, none⟩ (.int .i64 ((rd_T74 l0 xi).f3))).setCell ⟨ga, 4, none⟩ (.int .i64 ((rd_T74 l0 xi).f4)))) ?hg ?ho ?hn ?hr ?_; (case ho => rfl); (case hg => rfl); (case hn => rfl); (case hr => go_simp); intro w2 hw; have n0_ := Aside0.mk (show Below w.heap.size w w2 from (by rw [hw]; exact below_set (below_set (below_set (below_set (below_set HB.out GE_ga.out) GE_ga.out) GE_ga.out) GE_ga.out) GE_ga.out)); have n1_ := Aside0.mk (show w2.heap[ga]? = some (.cells #[.string ((rd_T74 l0 xi).f0), .slice Aa ((rd_T74 l0 xi).f1).length ca, .int .i64 ((rd_T74 l0 xi).f2), .int .i64 ((rd_T74 l0 xi).f3), .int .i64 ((rd_T74 l0 xi).f4)] 74 (0, 0)) from (by rw [hw]; exact (blk_put (cs' := #[.string ((rd_T74 l0 xi).f0), .slice Aa ((rd_T74 l0 xi).f1).length ca, .int .i64 ((rd_T74 l0 xi).f2), .int .i64 ((rd_T74 l0 xi).f3), .int .i64 ((rd_T74 l0 xi).f4)]) (blk_put (cs' := #[.string ((rd_T74 l0 xi).f0), .slice Aa ((rd_T74 l0 xi).f1).length ca, .int .i64 ((rd_T74 l0 xi).f2), .int .i64 ((rd_T74 l0 xi).f3), .int .i64 0]) (blk_put (cs' := #[.string ((rd_T74 l0 xi).f0), .slice Aa ((rd_T74 l0 xi).f1).length ca, .int .i64 ((rd_T74 l0 xi).f2), .int .i64 0, .int .i64 0]) (blk_put (cs' := #[.string ((rd_T74 l0 xi).f0), .slice Aa ((rd_T74 l0 xi).f1).length ca, .int .i64 0, .int .i64 0, .int .i64 0]) (blk_put (cs' := #[.string ((rd_T74 l0 xi).f0), .slice none 0 0, .int .i64 0, .int .i64 0, .int .i64 0]) BA.out 0 (.string ((rd_T74 l0 xi).f0)) rfl) 1 (.slice Aa ((rd_T74 l0 xi).f1).length ca) rfl) 2 (.int .i64 ((rd_T74 l0 xi).f2)) rfl) 3 (.int .i64 ((rd_T74 l0 xi).f3)) rfl) 4 (.int .i64 ((rd_T74 l0 xi).f4)) rfl))); (try clear hc_BA_0); (try clear hf_BA_0); (try clear hc_BA_1); (try clear hf_BA_1); (try clear hc_BA_2); (try clear hf_BA_2); (try clear hc_BA_3); (try clear hf_BA_3); (try clear hc_BA_4); (try clear hf_BA_4); (try clear HB); (try clear BA); have HB := n0_; have BA := n1_; clear n0_ n1_; clear hw; (try simp only [Act.put, List.setIfInBounds_toArray, List.set_cons_zero, List.set_cons_succ]); have hc_BA_0 : w2.cell? ⟨ga, 0, none⟩ = some (.string ((rd_T74 l0 xi).f0)) := (blk_cell BA.out 0).trans rfl; have hf_BA_0 := blk_frozen BA.out 0; have hc_BA_1 : w2.cell? ⟨ga, 1, none⟩ = some (.slice Aa ((rd_T74 l0 xi).f1).length ca) := (blk_cell BA.out 1).trans rfl; have hf_BA_1 := blk_frozen BA.out 1; have hc_BA_2 : w2.cell? ⟨ga, 2, none⟩ = some (.int .i64 ((rd_T74 l0 xi).f2)) := (blk_cell BA.out 2).trans rfl; have hf_BA_2 := blk_frozen BA.out 2; have hc_BA_3 : w2.cell? ⟨ga, 3, none⟩ = some (.int .i64 ((rd_T74 l0 xi).f3)) := (blk_cell BA.out 3).trans rfl; have hf_BA_3 := blk_frozen BA.out 3; have hc_BA_4 : w2.cell? ⟨ga, 4, none⟩ = some (.int .i64 ((rd_T74 l0 xi).f4)) := (blk_cell BA.out 4).trans rfl; have hf_BA_4 := blk_frozen BA.out 4; (try clear hy0); have hy0 := (HB.out.cell (World.block_lt_of_cell? _ _ Y0.out)).trans Y0.out; (try clear hy1); have hy1 := (HB.out.cell (World.block_lt_of_cell? _ _ Y1.out)).trans Y1.out; (try clear hy2); have hy2 := (HB.out.cell (World.block_lt_of_cell? _ _ Y2.out)).trans Y2.out; (try clear hy3); have hy3 := (HB.out.cell (World.block_lt_of_cell? _ _ Y3.out)).trans Y3.out; (try clear hy4); have hy4 := (HB.out.cell (World.block_lt_of_cell? _ _ Y4.out)).trans Y4.out) | ((with_reducible refine gate_dst (N := 9) rfl ?_); refine box_event ?hg (N := 9) ?hd (cs := #[.string (⟨#[]⟩ : ByteArray), .slice none 0 0, .int .i64 0, .int .i64 0, .int .i64 0]) (t := 74) ?hr ?_; (case hd => rfl); (case hg => rfl); (case hr => go_simp); intro gb hg w3 hbox hb; have n0_ := Aside0.mk (below_step HB.out hb); have n1_ := Aside0.mk (blk_below BA.out hb); have n2_ := Aside0.mk (hbox); have n3_ := Aside0.mk ((by rw [hg]; exact below_size HB.out : w.heap.size ≤ gb)); have n4_ := Aside0.mk ((by rw [hg]; exact Nat.ne_of_lt (blk_lt BA.out) : ga ≠ gb)); (try clear hc_BA_0); (try clear hf_BA_0); (try clear hc_BA_1); (try clear hf_BA_1); (try clear hc_BA_2); (try clear hf_BA_2); (try clear hc_BA_3); (try clear hf_BA_3); (try clear hc_BA_4); (try clear hf_BA_4); (try clear HB); (try clear BA); (try clear BB); (try clear GE_gb); (try clear NB_ga_gb); have HB := n0_; have BA := n1_; have BB := n2_; have GE_gb := n3_; have NB_ga_gb := n4_; clear n0_ n1_ n2_ n3_ n4_; clear hb hbox hg; have hc_BA_0 : w3.cell? ⟨ga, 0, none⟩ = some (.string ((rd_T74 l0 xi).f0)) := (blk_cell BA.out 0).trans rfl; have hf_BA_0 := blk_frozen BA.out 0; have hc_BA_1 : w3.cell? ⟨ga, 1, none⟩ = some (.slice Aa ((rd_T74 l0 xi).f1).length ca) := (blk_cell BA.out 1).trans rfl; have hf_BA_1 := blk_frozen BA.out 1; have hc_BA_2 : w3.cell? ⟨ga, 2, none⟩ = some (.int .i64 ((rd_T74 l0 xi).f2)) := (blk_cell BA.out 2).trans rfl; have hf_BA_2 := blk_frozen BA.out 2; have hc_BA_3 : w3.cell? ⟨ga, 3, none⟩ = some (.int .i64 ((rd_T74 l0 xi).f3)) := (blk_cell BA.out 3).trans rfl; have hf_BA_3 := blk_frozen BA.out 3; have hc_BA_4 : w3.cell? ⟨ga, 4, none⟩ = some (.int .i64 ((rd_T74 l0 xi).f4)) := (blk_cell BA.out 4).trans rfl; have hf_BA_4 := blk_frozen BA.out 4; have hc_BB_0 : w3.cell? ⟨gb, 0, none⟩ = some (.string (⟨#[]⟩ : ByteArray)) := (blk_cell BB.out 0).trans rfl; have hf_BB_0 := blk_frozen BB.out 0; have hc_BB_1 : w3.cell? ⟨gb, 1, none⟩ = some (.slice none 0 0) := (blk_cell BB.out 1).trans rfl; have hf_BB_1 := blk_frozen BB.out 1; have hc_BB_2 : w3.cell? ⟨gb, 2, none⟩ = some (.int .i64 0) := (blk_cell BB.out 2).trans rfl; have hf_BB_2 := blk_frozen BB.out 2; have hc_BB_3 : w3.cell? ⟨gb, 3, none⟩ = some (.int .i64 0) := (blk_cell BB.out 3).trans rfl; have hf_BB_3 := blk_frozen BB.out 3; have hc_BB_4 : w3.cell? ⟨gb, 4, none⟩ = some (.int .i64 0) := (blk_cell BB.out 4).trans rfl; have hf_BB_4 := blk_frozen BB.out 4) | ((with_reducible refine gate_store (t := 74) (p := 9) rfl ?_); refine store_event (t := 74) (p := 9) (v := ?vo_w4) (w1 := (((((w3.setCell ⟨gb, 0, none⟩ (.string ((rd_T74 l1 xi).f0))).setCell ⟨gb, 1, none⟩ (.slice Ab ((rd_T74 l1 xi).f1).length cb)).setCell ⟨gb, 2, none⟩ (.int .i64 ((rd_T74 l1 xi).f2))).setCell ⟨gb, 3, none⟩ (.int .i64 ((rd_T74 l1 xi).f3))).setCell ⟨gb, 4, none⟩ (.int .i64 ((rd_T74 l1 xi).f4)))) ?hg ?ho ?hn ?hr ?_; (case ho => rfl); (case hg => rfl); (case hn => rfl); (case hr => go_simp); intro w4 hw; have n0_ := Aside0.mk (show Below w.heap.size w w4 from (by rw [hw]; exact below_set (below_set (below_set (below_set (below_set HB.out GE_gb.out) GE_gb.out) GE_gb.out) GE_gb.out) GE_gb.out)); have n1_ := Aside0.mk (show w4.heap[ga]? = some (.cells #[.string ((rd_T74 l0 xi).f0), .slice Aa ((rd_T74 l0 xi).f1).length ca, .int .i64 ((rd_T74 l0 xi).f2), .int .i64 ((rd_T74 l0 xi).f3), .int .i64 ((rd_T74 l0 xi).f4)] 74 (0, 0)) from (by rw [hw]; exact (blk_far (blk_far (blk_far (blk_far (blk_far BA.out (p := ⟨gb, 0, none⟩) NB_ga_gb.out (.string ((rd_T74 l1 xi).f0))) (p := ⟨gb, 1, none⟩) NB_ga_gb.out (.slice Ab ((rd_T74 l1 xi).f1).length cb)) (p := ⟨gb, 2, none⟩) NB_ga_gb.out (.int .i64 ((rd_T74 l1 xi).f2))) (p := ⟨gb, 3, none⟩) NB_ga_gb.out (.int .i64 ((rd_T74 l1 xi).f3))) (p := ⟨gb, 4, none⟩) NB_ga_gb.out (.int .i64 ((rd_T74 l1 xi).f4))))); have n2_ := Aside0.mk (show w4.heap[gb]? = some (.cells #[.string ((rd_T74 l1 xi).f0), .slice Ab ((rd_T74 l1 xi).f1).length cb, .int .i64 ((rd_T74 l1 xi).f2), .int .i64 ((rd_T74 l1 xi).f3), .int .i64 ((rd_T74 l1 xi).f4)] 74 (0, 0)) from (by rw [hw]; exact (blk_put (cs' := #[.string ((rd_T74 l1 xi).f0), .slice Ab ((rd_T74 l1 xi).f1).length cb, .int .i64 ((rd_T74 l1 xi).f2), .int .i64 ((rd_T74 l1 xi).f3), .int .i64 ((rd_T74 l1 xi).f4)]) (blk_put (cs' := #[.string ((rd_T74 l1 xi).f0), .slice Ab ((rd_T74 l1 xi).f1).length cb, .int .i64 ((rd_T74 l1 xi).f2), .int .i64 ((rd_T74 l1 xi).f3), .int .i64 0]) (blk_put (cs' := #[.string ((rd_T74 l1 xi).f0), .slice Ab ((rd_T74 l1 xi).f1).length cb, .int .i64 ((rd_T74 l1 xi).f2), .int .i64 0, .int .i64 0]) (blk_put (cs' := #[.string ((rd_T74 l1 xi).f0), .slice Ab ((rd_T74 l1 xi).f1).length cb, .int .i64 0, .int .i64 0, .int .i64 0]) (blk_put (cs' := #[.string ((rd_T74 l1 xi).f0), .slice none 0 0, .int .i64 0, .int .i64 0, .int .i64 0]) BB.out 0 (.string ((rd_T74 l1 xi).f0)) rfl) 1 (.slice Ab ((rd_T74 l1 xi).f1).length cb) rfl) 2 (.int .i64 ((rd_T74 l1 xi).f2)) rfl) 3 (.int .i64 ((rd_T74 l1 xi).f3)) rfl) 4 (.int .i64 ((rd_T74 l1 xi).f4)) rfl))); (try clear hc_BA_0); (try clear hf_BA_0); (try clear hc_BA_1); (try clear hf_BA_1); (try clear hc_BA_2); (try clear hf_BA_2); (try clear hc_BA_3); (try clear hf_BA_3); (try clear hc_BA_4); (try clear hf_BA_4); (try clear hc_BB_0); (try clear hf_BB_0); (try clear hc_BB_1); (try clear hf_BB_1); (try clear hc_BB_2); (try clear hf_BB_2); (try clear hc_BB_3); (try clear hf_BB_3); (try clear hc_BB_4); (try clear hf_BB_4); (try clear HB); (try clear BA); (try clear BB); have HB := n0_; have BA := n1_; have BB := n2_; clear n0_ n1_ n2_; clear hw; (try simp only [Act.put, List.setIfInBounds_toArray, List.set_cons_zero, List.set_cons_succ]); have hc_BA_0 : w4.cell? ⟨ga, 0, none⟩ = some (.string ((rd_T74 l0 xi).f0)) := (blk_cell BA.out 0).trans rfl; have hf_BA_0 := blk_frozen BA.out 0; have hc_BA_1 : w4.cell? ⟨ga, 1, none⟩ = some (.slice Aa ((rd_T74 l0 xi).f1).length ca) := (blk_cell BA.out 1).trans rfl; have hf_BA_1 := blk_frozen BA.out 1; have hc_BA_2 : w4.cell? ⟨ga, 2, none⟩ = some (.int .i64 ((rd_T74 l0 xi).f2)) := (blk_cell BA.out 2).trans rfl; have hf_BA_2 := blk_frozen BA.out 2; have hc_BA_3 : w4.cell? ⟨ga, 3, none⟩ = some (.int .i64 ((rd_T74 l0 xi).f3)) := (blk_cell BA.out 3).trans rfl; have hf_BA_3 := blk_frozen BA.out 3; have hc_BA_4 : w4.cell? ⟨ga, 4, none⟩ = some (.int .i64 ((rd_T74 l0 xi).f4)) := (blk_cell BA.out 4).trans rfl; have hf_BA_4 := blk_frozen BA.out 4; have hc_BB_0 : w4.cell? ⟨gb, 0, none⟩ = some (.string ((rd_T74 l1 xi).f0)) := (blk_cell BB.out 0).trans rfl; have hf_BB_0 := blk_frozen BB.out 0; have hc_BB_1 : w4.cell? ⟨gb, 1, none⟩ = some (.slice Ab ((rd_T74 l1 xi).f1).length cb) := (blk_cell BB.out 1).trans rfl; have hf_BB_1 := blk_frozen BB.out 1; have hc_BB_2 : w4.cell? ⟨gb, 2, none⟩ = some (.int .i64 ((rd_T74 l1 xi).f2)) := (blk_cell BB.out 2).trans rfl; have hf_BB_2 := blk_frozen BB.out 2; have hc_BB_3 : w4.cell? ⟨gb, 3, none⟩ = some (.int .i64 ((rd_T74 l1 xi).f3)) := (blk_cell BB.out 3).trans rfl; have hf_BB_3 := blk_frozen BB.out 3; have hc_BB_4 : w4.cell? ⟨gb, 4, none⟩ = some (.int .i64 ((rd_T74 l1 xi).f4)) := (blk_cell BB.out 4).trans rfl; have hf_BB_4 := blk_frozen BB.out 4) | ((go_at_call 84); refine (impl_isIndex_1.calls k _ Aa ca _ _ _ _ _ Ab cb _ _ _ _ _ _ (Kd.C_below XR.out HB.out) XL.out (Kd.C_below YR.out HB.out) YL.out HBI.out).mono ?_; rintro e w5 ⟨rfl, hb⟩; have n0_ := Aside0.mk (below_step HB.out hb); clear hb HB BA BB; have HB := n0_; clear n0_))
     go_roundg k1
     case measure => omega
     case rel => exact ⟨xi + 1, by first | rfl | rw [i1], ⟨by omega⟩, HI, HB⟩
 ·rw [if_neg hl] at h
  obtain rfl := Option.some.inj h
  clear h
  have d1 : ((l0.length : Int) == (l1.length : Int)) = false := beq_false_of_ne hl
  have d2 : ((l0.length : Int) != (l1.length : Int)) = true := bne_iff_ne.2 hl
  have d3 : (l0.length != l1.length) = true := bne_iff_ne.2 (by omega)
  have d4 : (l0.length == l1.length) = false := beq_false_of_ne (by omega)
  have d5 : (l0.length = l1.length) = False := eq_false (by omega)
  clear hl
  go_enter Try.func83, Try.ntmps83
  go_wp2
  go_ret
  exact ⟨rfl, HB.out⟩
/-! ### impl_isIndex: function 55 -/
def impl_isIndex.f (k : Nat) (l0 : List (S74)) : Option (Bool) := (impl_pairsIn.f k l0).bind fun t276 => (if (l0.length : Int) ≤ 40 then ((impl_arePairs.f k t276).bind fun t279 => (if t279 = true then ((impl_indexOf.f k t276).bind fun t280 => ((impl_Fork.f k t280 l0 84).bind fun t283 => (some t283))) else (some false))) else (some false))
theorem impl_isIndex.mono : ∀ a0 k, LeO (impl_isIndex.f k a0) (impl_isIndex.f (k + 1) a0) := by
 intro a0 k
 unfold impl_isIndex.f
 repeat' first
   | (with_reducible exact impl_Fork.mono _ _ _ _)
   | (with_reducible exact impl_arePairs.mono _ _)
   | (with_reducible exact impl_indexOf.mono _ _)
   | (with_reducible exact impl_pairsIn.mono _ _)
   | (with_reducible exact LeO.refl _)
   | (with_reducible exact LeO.none _)
   | (with_reducible refine LeO.ite ?_ ?_)
   | (with_reducible refine LeO.bind ?_ (fun _ => ?_))
   | exact LeO.none _
   | refine LeO.ite ?_ ?_
   | refine LeO.bind ?_ (fun _ => ?_)
set_option maxHeartbeats 8000000 in
set_option maxRecDepth 100000 in
theorem impl_isIndex.calls (k : Nat) (A0 : Option Addr) (c0 : Nat) (l0 : List (S74)) (r : Bool) (w : World) (hr0 : Kd.C k74 w A0 l0.length l0) (hc0 : l0.length ≤ c0) (h : impl_isIndex.f k l0 = some r) :
  Calls Try.prog 55 #[.slice A0 l0.length c0] w fun e w' => e = .returned (.bool r) ∧ Below w.heap.size w w' := by
 have HR0 := Aside0.mk hr0
 have HC0 := Aside0.mk hc0
 clear hr0 hc0
 have HB := Aside0.mk (Below.refl w.heap.size w)
 have H : ((impl_pairsIn.f k l0).bind fun t276 => (if (l0.length : Int) ≤ 40 then ((impl_arePairs.f k t276).bind fun t279 => (if t279 = true then ((impl_indexOf.f k t276).bind fun t280 => ((impl_Fork.f k t280 l0 84).bind fun t283 => (some t283))) else (some false))) else (some false))) = some r := h
 clear h
 replace H := Option.bind_eq_some_iff.mp H
 obtain ⟨t276, A20, H⟩ := H
 replace H : (if (l0.length : Int) ≤ 40 then ((impl_arePairs.f k t276).bind fun t279 => (if t279 = true then ((impl_indexOf.f k t276).bind fun t280 => ((impl_Fork.f k t280 l0 84).bind fun t283 => (some t283))) else (some false))) else (some false)) = some r := H
 have A2 := Aside0.mk A20
 clear A20
 by_cases c3 : (l0.length : Int) ≤ 40
 ·rw [if_pos c3] at H
  have c3b0 : decide ((l0.length : Int) ≤ 40) = true := decide_eq_true c3
  have c3b1 : decide (l0.length ≤ 40) = true := decide_eq_true (by omega)
  clear c3
  replace H := Option.bind_eq_some_iff.mp H
  obtain ⟨t279, A40, H⟩ := H
  replace H : (if t279 = true then ((impl_indexOf.f k t276).bind fun t280 => ((impl_Fork.f k t280 l0 84).bind fun t283 => (some t283))) else (some false)) = some r := H
  have A4 := Aside0.mk A40
  clear A40
  by_cases c5 : t279 = true
  ·subst c5
   have H1 : ((impl_indexOf.f k t276).bind fun t280 => ((impl_Fork.f k t280 l0 84).bind fun t283 => (some t283))) = some r := by rw [if_pos rfl] at H; exact H
   clear H
   have H := H1
   clear H1
   replace H := Option.bind_eq_some_iff.mp H
   obtain ⟨t280, A60, H⟩ := H
   replace H : ((impl_Fork.f k t280 l0 84).bind fun t283 => (some t283)) = some r := H
   have A6 := Aside0.mk A60
   clear A60
   replace H := Option.bind_eq_some_iff.mp H
   obtain ⟨t283, A70, H⟩ := H
   replace H : (some t283) = some r := H
   have A7 := Aside0.mk A70
   clear A70
   obtain rfl := Option.some.inj H
   go_enter Try.func55, Try.ntmps55
   go_wp2_with (first | ((with_reducible refine gate_callee (f := 64) rfl ?_); refine goesL_ (some 5) rfl rfl Try.func64 (by kernel_rfl) rfl #[.slice A0 l0.length c0] rfl (by simp only [List.map_toArray, List.map_cons, List.map_nil] <;> rfl) ?_; (with_reducible refine (impl_pairsIn.calls k _ _ l0 t276 _ ?side1 ?side2 A2.out).mono ?_); (case side1 => repeat (first | exact HR0.out | (with_reducible refine Kd.C_alloc ?_ _) | (with_reducible refine Kd.C_drewN ?_ _) | (with_reducible refine Kd.C_drew ?_))); (case side2 => exact HC0.out); rintro e w8 ⟨v277, rfl, ho0, hb⟩; refine ⟨_, rfl, ?_⟩; have n0_ := Aside0.mk (Kd.R_lower ho0 (below_size HB.out)); have n1_ := Aside0.mk (below_step HB.out hb); clear HB; have HO278 := n0_; have HB := n1_; clear n0_ n1_; (try clear hb); (try clear hk); (try clear hi); (try clear ho0); obtain ⟨Ao9, co9, eo9⟩ := Kd.R_slice HO278.out; subst eo9) | (go_at_call 57; (with_reducible refine (impl_arePairs.calls k _ _ t276 true _ ?side1 ?side2 A4.out).mono ?_); (case side1 => exact (Kd.R_reads' HO278.out).2.2); (case side2 => exact (Kd.R_reads' HO278.out).2.1); rintro e w10 ⟨rfl, hb⟩; have n0_ := Aside0.mk (Kd.R_below HO278.out hb); have n1_ := Aside0.mk (below_step HB.out hb); clear HO278; clear HB; have HO278 := n0_; have HB := n1_; clear n0_ n1_; (try clear hb); (try clear hk); (try clear hi)) | (go_at_call 58; (with_reducible refine (impl_indexOf.calls k _ _ t276 t280 _ ?side1 ?side2 A6.out).mono ?_); (case side1 => exact (Kd.R_reads' HO278.out).2.2); (case side2 => exact (Kd.R_reads' HO278.out).2.1); rintro e w11 ⟨v281, rfl, ho0, hb⟩; have n0_ := Aside0.mk (Kd.R_below HO278.out hb); have n1_ := Aside0.mk (Kd.S_lower ho0 (below_size HB.out)); have n2_ := Aside0.mk (below_step HB.out hb); clear HO278; clear HB; have HO278 := n0_; have HO282 := n1_; have HB := n2_; clear n0_ n1_ n2_; (try clear hb); (try clear hk); (try clear hi); (try clear ho0); obtain ⟨Ao12, co12, eo12⟩ := Kd.S_slice HO282.out; subst eo12) | (go_at_call 83; (with_reducible refine (impl_Fork.calls k _ _ t280 _ _ l0 84 t283 _ ?side1 ?side2 ?side3 ?side4 A7.out).mono ?_); (case side1 => exact (Kd.S_reads' HO282.out).2.2); (case side2 => exact (Kd.S_reads' HO282.out).2.1); (case side3 => exact (Kd.C_below HR0.out HB.out)); (case side4 => exact HC0.out); rintro e w13 ⟨rfl, hb⟩; have n0_ := Aside0.mk (Kd.R_below HO278.out hb); have n1_ := Aside0.mk (Kd.S_below HO282.out hb); have n2_ := Aside0.mk (below_step HB.out hb); clear HO278; clear HO282; clear HB; have HO278 := n0_; have HO282 := n1_; have HB := n2_; clear n0_ n1_ n2_; (try clear hb); (try clear hk); (try clear hi)))
   go_ret
   exact ⟨rfl, by exact HB.out⟩
  ·replace c5 := Bool.eq_false_iff.mpr c5
   subst c5
   have H1 : (some false) = some r := by rw [if_neg (show ¬ (false = true) by decide)] at H; exact H
   clear H
   have H := H1
   clear H1
   obtain rfl := Option.some.inj H
   go_enter Try.func55, Try.ntmps55
   go_wp2_with (first | ((with_reducible refine gate_callee (f := 64) rfl ?_); refine goesL_ (some 5) rfl rfl Try.func64 (by kernel_rfl) rfl #[.slice A0 l0.length c0] rfl (by simp only [List.map_toArray, List.map_cons, List.map_nil] <;> rfl) ?_; (with_reducible refine (impl_pairsIn.calls k _ _ l0 t276 _ ?side1 ?side2 A2.out).mono ?_); (case side1 => repeat (first | exact HR0.out | (with_reducible refine Kd.C_alloc ?_ _) | (with_reducible refine Kd.C_drewN ?_ _) | (with_reducible refine Kd.C_drew ?_))); (case side2 => exact HC0.out); rintro e w14 ⟨v277, rfl, ho0, hb⟩; refine ⟨_, rfl, ?_⟩; have n0_ := Aside0.mk (Kd.R_lower ho0 (below_size HB.out)); have n1_ := Aside0.mk (below_step HB.out hb); clear HB; have HO278 := n0_; have HB := n1_; clear n0_ n1_; (try clear hb); (try clear hk); (try clear hi); (try clear ho0); obtain ⟨Ao15, co15, eo15⟩ := Kd.R_slice HO278.out; subst eo15) | (go_at_call 57; (with_reducible refine (impl_arePairs.calls k _ _ t276 false _ ?side1 ?side2 A4.out).mono ?_); (case side1 => exact (Kd.R_reads' HO278.out).2.2); (case side2 => exact (Kd.R_reads' HO278.out).2.1); rintro e w16 ⟨rfl, hb⟩; have n0_ := Aside0.mk (Kd.R_below HO278.out hb); have n1_ := Aside0.mk (below_step HB.out hb); clear HO278; clear HB; have HO278 := n0_; have HB := n1_; clear n0_ n1_; (try clear hb); (try clear hk); (try clear hi)))
   go_ret
   exact ⟨rfl, by exact HB.out⟩
 ·rw [if_neg c3] at H
  have c3b0 : decide ((l0.length : Int) ≤ 40) = false := decide_eq_false c3
  have c3b1 : decide (l0.length ≤ 40) = false := decide_eq_false (by omega)
  clear c3
  obtain rfl := Option.some.inj H
  go_enter Try.func55, Try.ntmps55
  go_wp2_with (first | ((with_reducible refine gate_callee (f := 64) rfl ?_); refine goesL_ (some 5) rfl rfl Try.func64 (by kernel_rfl) rfl #[.slice A0 l0.length c0] rfl (by simp only [List.map_toArray, List.map_cons, List.map_nil] <;> rfl) ?_; (with_reducible refine (impl_pairsIn.calls k _ _ l0 t276 _ ?side1 ?side2 A2.out).mono ?_); (case side1 => repeat (first | exact HR0.out | (with_reducible refine Kd.C_alloc ?_ _) | (with_reducible refine Kd.C_drewN ?_ _) | (with_reducible refine Kd.C_drew ?_))); (case side2 => exact HC0.out); rintro e w17 ⟨v277, rfl, ho0, hb⟩; refine ⟨_, rfl, ?_⟩; have n0_ := Aside0.mk (Kd.R_lower ho0 (below_size HB.out)); have n1_ := Aside0.mk (below_step HB.out hb); clear HB; have HO278 := n0_; have HB := n1_; clear n0_ n1_; (try clear hb); (try clear hk); (try clear hi); (try clear ho0)))
  go_ret
  exact ⟨rfl, by exact HB.out⟩
/-! ### slices_Clone_int_int: function 63 -/
def slices_Clone_int_int.f (l0 : List (Int)) : Option (List (Int)) := if l0.length < 1000000000000 then some l0 else none
set_option maxHeartbeats 8000000 in
set_option maxRecDepth 100000 in
theorem slices_Clone_int_int.calls (A0 : Option Addr) (c0 : Nat) (l0 : List (Int)) (r : List (Int)) (w : World) (hr0 : Kd.C (Kd.int .i64) w A0 l0.length l0) (hc0 : l0.length ≤ c0) (h : slices_Clone_int_int.f l0 = some r) :
  Calls Try.prog 63 #[.slice A0 l0.length c0] w fun e w' => ∃ v0_ : Value, e = .returned (v0_) ∧ Kd.R (Kd.int .i64) 3 w' w.heap.size (fun _ => True) v0_ r ∧ Below w.heap.size w w' := by
 have q70 : ∀ (w : World) (a : Option Addr) (n c n' c' : Nat), (binOp .eql 39 (.slice a n c) (.slice none n' c')).run Try.prog w = .ok (.bool a.isNone) w := fun w a n c n' c' => Lib.run_eql_slice_nil w _ _ a n c n' c' Try.underlying39
 unfold slices_Clone_int_int.f at h
 by_cases hl : l0.length < 1000000000000
 ·rw [if_pos hl] at h
  obtain rfl := Option.some.inj h
  have HR0 := Aside0.mk hr0
  have HL := Aside0.mk hl
  have HB := Aside0.mk (Below.refl w.heap.size w)
  clear hl h hc0
  cases A0 with
  | none =>
   have hz : l0.length = 0 := by
    rcases Nat.eq_zero_or_pos l0.length with h | h
    ·exact h
    ·obtain ⟨ad, e, _⟩ := hr0.2.2 h
     cases e
   obtain rfl : l0 = [] := List.eq_nil_of_length_eq_zero hz
   clear hz hr0
   go_enter Try.func63, Try.ntmps63
   go_wp2
   go_ret
   exact ⟨_, rfl, Kd.R_nil _ _ _ _ _, HB.out⟩
  | some ad =>
   clear hr0
   go_enter Try.func63, Try.ntmps63
   go_wp2_with (first | ((with_reducible refine gate_dst (N := 5) rfl ?_); (try (refine gate_guard (by rfl) ?_; dsimp only)); refine Kd.R_lit (Kd.int .i64) _ 3 ?hg (N := 5) ?hd (xs := ([] : List (Int))) (inner := []) (ok := fun _ => True) (okp := fun _ => True) ?hr ?hp (fun _ hk => hk) trivial (Below.refl _ _) (Nat.le_refl _) (by simp) ?_; (case hd => rfl); (case hg => rfl); (case hr => go_simp); (case hp => exact (Reps.none _ _)); intro v1 w1 ho hb hg_ hnew_; clear hg_ hnew_; have n0_ := Aside0.mk (Kd.R_lower ho (below_size HB.out)); have n1_ := Aside0.mk (below_step HB.out hb); clear HB ho hb; have HO := n0_; have HB := n1_; clear n0_ n1_) | ((with_reducible refine gate_builtin (b := .append) (xs := #[.tmp 5, .tmp 6]) rfl ?_); (try (refine gate_guard (by rfl) ?_; dsimp only)); at_builtin; refine Kd.R_append_rows (Kd.int .i64) (w0 := w) w.heap.size rfl (.tmp 5) (.tmp 6) 39 3 (.int .i64 0) 8 rfl Try.underlying39 info3 rfl (by decide) (by omega) v1 [] l0 _ _ _ (fun _ => True) (fun _ => False) rfl rfl ?aO ?aR (fun _ _ h => h) (fun _ h => h.elim) ?aF ?aB ?aS ?aL ?_; (case aR => exact Kd.C_below HR0.out HB.out); (case aB => exact HB.out); (case aF => exact (fun _ _ => trivial)); (case aO => exact HO.out); (case aS => exact (below_size HB.out)); (case aL => have := HL.out; simp; omega); intro v2 w2 ho hb hg hat; have n0_ := Aside0.mk hb; have n1_ := Aside0.mk ho; clear HB HO ho hb hg hat; have HB := n0_; have HO := n1_; clear n0_ n1_))
   go_ret
   exact ⟨_, rfl, by simpa using HO.out, HB.out⟩
 ·rw [if_neg hl] at h
  cases h
/-! ### impl_FindKey: function 25 -/
mutual
def impl_FindKey.j0 : Nat → List (S74) → ByteArray → Bool → Option (List Int × Int × Bool)
 | 0, _, _, _ => none
 | k + 1, x0, x1, x17 => if x17 = true then (some (([] : List Int), 0, false)) else (if (x0.length : Int) = 0 then (some (([] : List Int), 0, true)) else (impl_FindKey.l0 k x0 x1 0 0))
def impl_FindKey.l0 : Nat → List (S74) → ByteArray → Int → Int → Option (List Int × Int × Bool)
 | 0, _, _, _, _ => none
 | k + 1, x0, x1, x7, x8 => if 0 ≤ x7 then (if x7 < (x0.length : Int) then (if ((rd_T74 x0 x7).f0).toList = ([] : List UInt8) then ((impl_bitOf.f x1 ((rd_T74 x0 x7).f2)).bind fun t288 => (if t288 = 1 then (impl_FindKey.l0 k x0 x1 ((rd_T74 x0 x7).f4) (wrap64 (x8 + 1))) else (impl_FindKey.l0 k x0 x1 ((rd_T74 x0 x7).f3) (wrap64 (x8 + 1))))) else (if ((rd_T74 x0 x7).f0).toList = x1.toList then ((slices_Clone_int_int.f ((rd_T74 x0 x7).f1)).bind fun t292 => (some (t292, x8, true))) else (some (([] : List Int), x8, true)))) else (none)) else (none)
end
def impl_FindKey.f (k : Nat) (l0 : List (S74)) (a1 : ByteArray) : Option (List Int × Int × Bool) := (impl_isIndex.f k l0).bind fun t284 => (if t284 = true then (impl_FindKey.j0 k l0 a1 ((a1.size : Int) != 4)) else (impl_FindKey.j0 k l0 a1 true))
theorem impl_FindKey.mono_l : ∀ k, (∀ y0 y1 y2, LeO (impl_FindKey.j0 k y0 y1 y2) (impl_FindKey.j0 (k + 1) y0 y1 y2)) ∧ (∀ y0 y1 y2 y3, LeO (impl_FindKey.l0 k y0 y1 y2 y3) (impl_FindKey.l0 (k + 1) y0 y1 y2 y3))
 | 0 => ⟨fun _ _ _ r h => by simp [impl_FindKey.j0] at h, fun _ _ _ _ r h => by simp [impl_FindKey.l0] at h⟩
 | k + 1 => by
  obtain ⟨ih0, ih1⟩ := impl_FindKey.mono_l k
  refine ⟨?_, ?_⟩
  ·intro y0 y1 y2
   unfold impl_FindKey.j0
   repeat' first
   | (with_reducible exact ih0 _ _ _)
   | (with_reducible exact ih1 _ _ _ _)
   | (with_reducible exact impl_isIndex.mono _ _)
   | (with_reducible exact LeO.refl _)
   | (with_reducible exact LeO.none _)
   | (with_reducible refine LeO.ite ?_ ?_)
   | (with_reducible refine LeO.bind ?_ (fun _ => ?_))
   | exact LeO.none _
   | refine LeO.ite ?_ ?_
   | refine LeO.bind ?_ (fun _ => ?_)
  ·intro y0 y1 y2 y3
   unfold impl_FindKey.l0
   repeat' first
   | (with_reducible exact ih0 _ _ _)
   | (with_reducible exact ih1 _ _ _ _)
   | (with_reducible exact impl_isIndex.mono _ _)
   | (with_reducible exact LeO.refl _)
   | (with_reducible exact LeO.none _)
   | (with_reducible refine LeO.ite ?_ ?_)
   | (with_reducible refine LeO.bind ?_ (fun _ => ?_))
   | exact LeO.none _
   | refine LeO.ite ?_ ?_
   | refine LeO.bind ?_ (fun _ => ?_)
theorem impl_FindKey.mono : ∀ a0 a1 k, LeO (impl_FindKey.f k a0 a1) (impl_FindKey.f (k + 1) a0 a1) := by
 intro a0 a1 k
 obtain ⟨ih0, ih1⟩ := impl_FindKey.mono_l k
 unfold impl_FindKey.f
 repeat' first
   | (with_reducible exact ih0 _ _ _)
   | (with_reducible exact ih1 _ _ _ _)
   | (with_reducible exact impl_isIndex.mono _ _)
   | (with_reducible exact LeO.refl _)
   | (with_reducible exact LeO.none _)
   | (with_reducible refine LeO.ite ?_ ?_)
   | (with_reducible refine LeO.bind ?_ (fun _ => ?_))
   | exact LeO.none _
   | refine LeO.ite ?_ ?_
   | refine LeO.bind ?_ (fun _ => ?_)
set_option maxHeartbeats 8000000 in
set_option maxRecDepth 100000 in
theorem impl_FindKey.calls (k : Nat) (A0 : Option Addr) (c0 : Nat) (l0 : List (S74)) (a1 : ByteArray) (r1 : List Int) (r2 : Int) (r3 : Bool) (w : World) (hr0 : Kd.C k74 w A0 l0.length l0) (hc0 : l0.length ≤ c0) (h : impl_FindKey.f k l0 a1 = some (r1, r2, r3)) :
  Calls Try.prog 25 #[.slice A0 l0.length c0, .string a1] w fun e w' => ∃ v0_ : Value, e = .returned (.tuple #[v0_, .int .i64 r2, .bool r3]) ∧ Kd.R (Kd.int .i64) 3 w' w.heap.size (fun _ => True) v0_ r1 ∧ Below w.heap.size w w' := by
 have HR0 := Aside0.mk hr0
 have HC0 := Aside0.mk hc0
 clear hr0 hc0
 have HB := Aside0.mk (Below.refl w.heap.size w)
 have H : ((impl_isIndex.f k l0).bind fun t284 => (if t284 = true then (impl_FindKey.j0 k l0 a1 ((a1.size : Int) != 4)) else (impl_FindKey.j0 k l0 a1 true))) = some (r1, r2, r3) := h
 clear h
 have HC3 := Aside0.mk H
 clear H
 go_enter Try.func25, Try.ntmps25
 go_upto_region 1 with (fail)
 go_cut [17] (fun v17 wc => ∃ (kq : Nat) (x17_2 : Bool), v17 = .bool x17_2 ∧ Aside0 (impl_FindKey.j0 kq l0 a1 x17_2 = some (r1, r2, r3)) ∧ Aside0 (kq ≤ k) ∧ Aside0 (Below w.heap.size w wc))
 case first =>
  have H := HC3.out
  clear HC3
  replace H := Option.bind_eq_some_iff.mp H
  obtain ⟨t284, A40, H⟩ := H
  replace H : (if t284 = true then (impl_FindKey.j0 k l0 a1 ((a1.size : Int) != 4)) else (impl_FindKey.j0 k l0 a1 true)) = some (r1, r2, r3) := H
  have A4 := Aside0.mk A40
  clear A40
  by_cases c5 : t284 = true
  ·subst c5
   have H1 : (impl_FindKey.j0 k l0 a1 ((a1.size : Int) != 4)) = some (r1, r2, r3) := by rw [if_pos rfl] at H; exact H
   clear H
   have H := H1
   clear H1
   have H' := Aside0.mk H
   clear H
   go_wp2_with (first | ((with_reducible refine gate_callee (f := 55) rfl ?_); refine goesL_ (some 11) rfl rfl Try.func55 (by kernel_rfl) rfl #[.slice A0 l0.length c0] rfl (by simp only [List.map_toArray, List.map_cons, List.map_nil] <;> rfl) ?_; (with_reducible refine (impl_isIndex.calls k _ _ l0 true _ ?side1 ?side2 A4.out).mono ?_); (case side1 => exact (Kd.C_below HR0.out HB.out)); (case side2 => exact HC0.out); rintro e w6 ⟨rfl, hb⟩; refine ⟨_, rfl, ?_⟩; have n0_ := Aside0.mk (below_step HB.out hb); clear HB; have HB := n0_; clear n0_; (try clear hb); (try clear hk); (try clear hi)))
   go_meet
   case rel => exact ⟨_, (((a1.size : Int) != 4)), rfl, H', ⟨by first | omega | exact Nat.le_refl _⟩, ⟨by exact HB.out⟩⟩
  ·replace c5 := Bool.eq_false_iff.mpr c5
   subst c5
   have H1 : (impl_FindKey.j0 k l0 a1 true) = some (r1, r2, r3) := by rw [if_neg (show ¬ (false = true) by decide)] at H; exact H
   clear H
   have H := H1
   clear H1
   have H' := Aside0.mk H
   clear H
   go_wp2_with (first | ((with_reducible refine gate_callee (f := 55) rfl ?_); refine goesL_ (some 11) rfl rfl Try.func55 (by kernel_rfl) rfl #[.slice A0 l0.length c0] rfl (by simp only [List.map_toArray, List.map_cons, List.map_nil] <;> rfl) ?_; (with_reducible refine (impl_isIndex.calls k _ _ l0 false _ ?side1 ?side2 A4.out).mono ?_); (case side1 => exact (Kd.C_below HR0.out HB.out)); (case side2 => exact HC0.out); rintro e w7 ⟨rfl, hb⟩; refine ⟨_, rfl, ?_⟩; have n0_ := Aside0.mk (below_step HB.out hb); clear HB; have HB := n0_; clear n0_; (try clear hb); (try clear hk); (try clear hi)))
   go_meet
   case rel => exact ⟨_, (true), rfl, H', ⟨by first | omega | exact Nat.le_refl _⟩, ⟨by exact HB.out⟩⟩
 case rest =>
  clear HC3
  try clear c2
  try clear p2
  try clear c5
  obtain ⟨kq, x17_2, rfl, HA, HJ2, HB⟩ := hcut
  cases kq with
  | zero => exact absurd HA.out (by simp [impl_FindKey.j0])
  | succ kj2 =>
   have H := HA.out
   clear HA
   simp only [impl_FindKey.j0] at H
   by_cases c8 : x17_2 = true
   ·subst c8
    have H1 : (some (([] : List Int), 0, false)) = some (r1, r2, r3) := by rw [if_pos rfl] at H; exact H
    clear H
    have H := H1
    clear H1
    simp only [Option.some.injEq, Prod.mk.injEq] at H
    obtain ⟨rfl, rfl, rfl⟩ := H
    go_wp2
    go_ret3
    exact ⟨_, by first | rfl | (simp [errW_none, errW_some] <;> rfl) | (simp [*, errW_none, errW_some] <;> rfl), by first | exact Kd.R_nil _ _ _ _ _ | exact Kd.N_nil _ _ _ _ _ | exact Kd.V_nil _ _ _ _ _ | exact Kd.Q_nil _ _ _ _ _ | exact Kd.S_nil _ _ _ _ _, by exact HB.out⟩
   ·replace c8 := Bool.eq_false_iff.mpr c8
    subst c8
    have H1 : (if (l0.length : Int) = 0 then (some (([] : List Int), 0, true)) else (impl_FindKey.l0 kj2 l0 a1 0 0)) = some (r1, r2, r3) := by rw [if_neg (show ¬ (false = true) by decide)] at H; exact H
    clear H
    have H := H1
    clear H1
    by_cases c9 : (l0.length : Int) = 0
    ·rw [if_pos c9] at H
     have c9b0 : ((l0.length : Int) == 0) = true := beq_iff_eq.mpr c9
     have c9b1 : ((l0.length : Int) != 0) = false := bne_eq_false_iff_eq.mpr c9
     clear c9
     simp only [Option.some.injEq, Prod.mk.injEq] at H
     obtain ⟨rfl, rfl, rfl⟩ := H
     go_wp2
     go_ret3
     exact ⟨_, by first | rfl | (simp [errW_none, errW_some] <;> rfl) | (simp [*, errW_none, errW_some] <;> rfl), by first | exact Kd.R_nil _ _ _ _ _ | exact Kd.N_nil _ _ _ _ _ | exact Kd.V_nil _ _ _ _ _ | exact Kd.Q_nil _ _ _ _ _ | exact Kd.S_nil _ _ _ _ _, by exact HB.out⟩
    ·rw [if_neg c9] at H
     have c9b0 : ((l0.length : Int) == 0) = false := beq_eq_false_iff_ne.mpr c9
     have c9b1 : ((l0.length : Int) != 0) = true := bne_iff_ne.mpr c9
     have c9b2 : ¬ (l0 = []) := fun h_ => c9 (by rw [h_]; rfl)
     have H' := Aside0.mk H
     clear H
     go_wp2
     go_loopg [7, 8] kj2 (fun kq v7 v8 w' => ∃ (x7_2 : Int) (x8_2 : Int), v7 = .int .i64 x7_2 ∧ v8 = .int .i64 x8_2 ∧ Aside0 (impl_FindKey.l0 kq l0 a1 x7_2 x8_2 = some (r1, r2, r3)) ∧ Aside0 (kq ≤ kj2) ∧ Aside0 (Below w.heap.size w w'))
     case atStart => exact ⟨(0), (0), rfl, rfl, H', ⟨Nat.le_refl _⟩, ⟨by exact HB.out⟩⟩
     case round =>
      clear H'
      try clear c2
      try clear p2
      try clear c5
      try clear c8
      try clear c9
      try clear c9b0
      try clear c9b1
      try clear c9b2
      try clear p2
      obtain ⟨x7_2, x8_2, rfl, rfl, HA, HK2, HB⟩ := hrel
      cases gk with
      | zero => exact absurd HA.out (by simp [impl_FindKey.l0])
      | succ k2 =>
       have H := HA.out
       clear HA
       simp only [impl_FindKey.l0] at H
       by_cases c10 : 0 ≤ x7_2
       ·rw [if_pos c10] at H
        have c10b0 : decide (0 ≤ x7_2) = true := decide_eq_true c10
        clear c10
        by_cases c11 : x7_2 < (l0.length : Int)
        ·rw [if_pos c11] at H
         have c11b0 : decide (x7_2 < (l0.length : Int)) = true := decide_eq_true c11
         clear c11
         by_cases c12 : ((rd_T74 l0 x7_2).f0).toList = ([] : List UInt8)
         ·rw [if_pos c12] at H
          have c12b0 : (((rd_T74 l0 x7_2).f0).toList == ([] : List UInt8)) = true := beq_iff_eq.mpr c12
          have c12b1 : (((rd_T74 l0 x7_2).f0).toList != ([] : List UInt8)) = false := bne_eq_false_iff_eq.mpr c12
          clear c12
          replace H := Option.bind_eq_some_iff.mp H
          obtain ⟨t288, A130, H⟩ := H
          replace H : (if t288 = 1 then (impl_FindKey.l0 k2 l0 a1 ((rd_T74 l0 x7_2).f4) (wrap64 (x8_2 + 1))) else (impl_FindKey.l0 k2 l0 a1 ((rd_T74 l0 x7_2).f3) (wrap64 (x8_2 + 1)))) = some (r1, r2, r3) := H
          have A13 := Aside0.mk A130
          clear A130
          by_cases c14 : t288 = 1
          ·rw [if_pos c14] at H
           have c14b0 : (t288 == 1) = true := beq_iff_eq.mpr c14
           have c14b1 : (t288 != 1) = false := bne_eq_false_iff_eq.mpr c14
           clear c14
           have H' := Aside0.mk H
           clear H
           have p285 : 0 ≤ (x7_2 : Int) := of_decide_eq_true (by assumption)
           have q285 : x7_2 < (l0.length : Int) := of_decide_eq_true (by assumption)
           obtain ⟨ad285, A285_1, c285_1, e285, hx285_0, hx285_1, hx285_2, hx285_3, hx285_4, hl285_1, hi285_1⟩ := at_T74 HR0.out x7_2 p285 q285
           cases e285
           replace hx285_0 := (HB.out.cell (World.block_lt_of_cell? w _ hx285_0)).trans hx285_0
           replace hx285_1 := (HB.out.cell (World.block_lt_of_cell? w _ hx285_1)).trans hx285_1
           replace hx285_2 := (HB.out.cell (World.block_lt_of_cell? w _ hx285_2)).trans hx285_2
           replace hx285_3 := (HB.out.cell (World.block_lt_of_cell? w _ hx285_3)).trans hx285_3
           replace hx285_4 := (HB.out.cell (World.block_lt_of_cell? w _ hx285_4)).trans hx285_4
           have HR285_1 := Aside0.mk hi285_1
           have HC285_1 := Aside0.mk hl285_1
           clear hi285_1 hl285_1
           replace p285 := eq_true p285
           replace q285 := eq_true q285
           have p286 : 0 ≤ (x7_2 : Int) := of_decide_eq_true (by assumption)
           have q286 : x7_2 < (l0.length : Int) := of_decide_eq_true (by assumption)
           obtain ⟨ad286, A286_1, c286_1, e286, hx286_0, hx286_1, hx286_2, hx286_3, hx286_4, hl286_1, hi286_1⟩ := at_T74 HR0.out x7_2 p286 q286
           obtain rfl : ad285 = ad286 := (by injection e286)
           replace hx286_0 := (HB.out.cell (World.block_lt_of_cell? w _ hx286_0)).trans hx286_0
           replace hx286_1 := (HB.out.cell (World.block_lt_of_cell? w _ hx286_1)).trans hx286_1
           replace hx286_2 := (HB.out.cell (World.block_lt_of_cell? w _ hx286_2)).trans hx286_2
           replace hx286_3 := (HB.out.cell (World.block_lt_of_cell? w _ hx286_3)).trans hx286_3
           replace hx286_4 := (HB.out.cell (World.block_lt_of_cell? w _ hx286_4)).trans hx286_4
           have HR286_1 := Aside0.mk hi286_1
           have HC286_1 := Aside0.mk hl286_1
           clear hi286_1 hl286_1
           replace p286 := eq_true p286
           replace q286 := eq_true q286
           have ea_ := Option.some.inj (hx285_1.symm.trans hx286_1)
           injection ea_ with ea_ en_ ec_
           subst ea_
           subst ec_
           clear en_
           have p287 : 0 ≤ (x7_2 : Int) := of_decide_eq_true (by assumption)
           have q287 : x7_2 < (l0.length : Int) := of_decide_eq_true (by assumption)
           obtain ⟨ad287, A287_1, c287_1, e287, hx287_0, hx287_1, hx287_2, hx287_3, hx287_4, hl287_1, hi287_1⟩ := at_T74 HR0.out x7_2 p287 q287
           obtain rfl : ad285 = ad287 := (by injection e287)
           replace hx287_0 := (HB.out.cell (World.block_lt_of_cell? w _ hx287_0)).trans hx287_0
           replace hx287_1 := (HB.out.cell (World.block_lt_of_cell? w _ hx287_1)).trans hx287_1
           replace hx287_2 := (HB.out.cell (World.block_lt_of_cell? w _ hx287_2)).trans hx287_2
           replace hx287_3 := (HB.out.cell (World.block_lt_of_cell? w _ hx287_3)).trans hx287_3
           replace hx287_4 := (HB.out.cell (World.block_lt_of_cell? w _ hx287_4)).trans hx287_4
           have HR287_1 := Aside0.mk hi287_1
           have HC287_1 := Aside0.mk hl287_1
           clear hi287_1 hl287_1
           replace p287 := eq_true p287
           replace q287 := eq_true q287
           have ea_ := Option.some.inj (hx285_1.symm.trans hx287_1)
           injection ea_ with ea_ en_ ec_
           subst ea_
           subst ec_
           clear en_
           go_wp2_with (first | ((with_reducible refine gate_callee (f := 62) rfl ?_); refine goesL_ (some 38) rfl rfl Try.func62 (by kernel_rfl) rfl #[.string a1, .int .i64 ((rd_T74 l0 x7_2).f2)] rfl (by simp only [List.map_toArray, List.map_cons, List.map_nil] <;> rfl) ?_; (with_reducible refine (impl_bitOf.calls a1 ((rd_T74 l0 x7_2).f2) t288 _ A13.out).mono ?_); rintro e w' ⟨rfl, ⟨nd, rfl⟩⟩; refine ⟨_, rfl, ?_⟩; have p289 : 0 ≤ (x7_2 : Int) := of_decide_eq_true (by assumption); have q289 : x7_2 < (l0.length : Int) := of_decide_eq_true (by assumption); obtain ⟨ad289, A289_1, c289_1, e289, hx289_0, hx289_1, hx289_2, hx289_3, hx289_4, hl289_1, hi289_1⟩ := at_T74 HR0.out x7_2 p289 q289; obtain rfl : ad285 = ad289 := (by injection e289); replace hx289_0 := (HB.out.cell (World.block_lt_of_cell? w _ hx289_0)).trans hx289_0; replace hx289_1 := (HB.out.cell (World.block_lt_of_cell? w _ hx289_1)).trans hx289_1; replace hx289_2 := (HB.out.cell (World.block_lt_of_cell? w _ hx289_2)).trans hx289_2; replace hx289_3 := (HB.out.cell (World.block_lt_of_cell? w _ hx289_3)).trans hx289_3; replace hx289_4 := (HB.out.cell (World.block_lt_of_cell? w _ hx289_4)).trans hx289_4; have HR289_1 := Aside0.mk hi289_1; have HC289_1 := Aside0.mk hl289_1; clear hi289_1 hl289_1; replace p289 := eq_true p289; replace q289 := eq_true q289; have ea_ := Option.some.inj (hx285_1.symm.trans hx289_1); injection ea_ with ea_ en_ ec_; subst ea_; subst ec_; clear en_))
           go_roundg k2
           case measure => have := HJ2.out; have := HK2.out; omega
           case rel => exact ⟨((rd_T74 l0 x7_2).f4), (wrap64 (x8_2 + 1)), rfl, rfl, H', ⟨by have := HJ2.out; have := HK2.out; omega⟩, ⟨by repeat (first | (with_reducible first | exact HB.out | apply q4_ | apply q5_ | apply q6_) | exact HB.out)⟩⟩
          ·rw [if_neg c14] at H
           have c14b0 : (t288 == 1) = false := beq_eq_false_iff_ne.mpr c14
           have c14b1 : (t288 != 1) = true := bne_iff_ne.mpr c14
           have H' := Aside0.mk H
           clear H
           have p285 : 0 ≤ (x7_2 : Int) := of_decide_eq_true (by assumption)
           have q285 : x7_2 < (l0.length : Int) := of_decide_eq_true (by assumption)
           obtain ⟨ad285, A285_1, c285_1, e285, hx285_0, hx285_1, hx285_2, hx285_3, hx285_4, hl285_1, hi285_1⟩ := at_T74 HR0.out x7_2 p285 q285
           cases e285
           replace hx285_0 := (HB.out.cell (World.block_lt_of_cell? w _ hx285_0)).trans hx285_0
           replace hx285_1 := (HB.out.cell (World.block_lt_of_cell? w _ hx285_1)).trans hx285_1
           replace hx285_2 := (HB.out.cell (World.block_lt_of_cell? w _ hx285_2)).trans hx285_2
           replace hx285_3 := (HB.out.cell (World.block_lt_of_cell? w _ hx285_3)).trans hx285_3
           replace hx285_4 := (HB.out.cell (World.block_lt_of_cell? w _ hx285_4)).trans hx285_4
           have HR285_1 := Aside0.mk hi285_1
           have HC285_1 := Aside0.mk hl285_1
           clear hi285_1 hl285_1
           replace p285 := eq_true p285
           replace q285 := eq_true q285
           have p286 : 0 ≤ (x7_2 : Int) := of_decide_eq_true (by assumption)
           have q286 : x7_2 < (l0.length : Int) := of_decide_eq_true (by assumption)
           obtain ⟨ad286, A286_1, c286_1, e286, hx286_0, hx286_1, hx286_2, hx286_3, hx286_4, hl286_1, hi286_1⟩ := at_T74 HR0.out x7_2 p286 q286
           obtain rfl : ad285 = ad286 := (by injection e286)
           replace hx286_0 := (HB.out.cell (World.block_lt_of_cell? w _ hx286_0)).trans hx286_0
           replace hx286_1 := (HB.out.cell (World.block_lt_of_cell? w _ hx286_1)).trans hx286_1
           replace hx286_2 := (HB.out.cell (World.block_lt_of_cell? w _ hx286_2)).trans hx286_2
           replace hx286_3 := (HB.out.cell (World.block_lt_of_cell? w _ hx286_3)).trans hx286_3
           replace hx286_4 := (HB.out.cell (World.block_lt_of_cell? w _ hx286_4)).trans hx286_4
           have HR286_1 := Aside0.mk hi286_1
           have HC286_1 := Aside0.mk hl286_1
           clear hi286_1 hl286_1
           replace p286 := eq_true p286
           replace q286 := eq_true q286
           have ea_ := Option.some.inj (hx285_1.symm.trans hx286_1)
           injection ea_ with ea_ en_ ec_
           subst ea_
           subst ec_
           clear en_
           have p287 : 0 ≤ (x7_2 : Int) := of_decide_eq_true (by assumption)
           have q287 : x7_2 < (l0.length : Int) := of_decide_eq_true (by assumption)
           obtain ⟨ad287, A287_1, c287_1, e287, hx287_0, hx287_1, hx287_2, hx287_3, hx287_4, hl287_1, hi287_1⟩ := at_T74 HR0.out x7_2 p287 q287
           obtain rfl : ad285 = ad287 := (by injection e287)
           replace hx287_0 := (HB.out.cell (World.block_lt_of_cell? w _ hx287_0)).trans hx287_0
           replace hx287_1 := (HB.out.cell (World.block_lt_of_cell? w _ hx287_1)).trans hx287_1
           replace hx287_2 := (HB.out.cell (World.block_lt_of_cell? w _ hx287_2)).trans hx287_2
           replace hx287_3 := (HB.out.cell (World.block_lt_of_cell? w _ hx287_3)).trans hx287_3
           replace hx287_4 := (HB.out.cell (World.block_lt_of_cell? w _ hx287_4)).trans hx287_4
           have HR287_1 := Aside0.mk hi287_1
           have HC287_1 := Aside0.mk hl287_1
           clear hi287_1 hl287_1
           replace p287 := eq_true p287
           replace q287 := eq_true q287
           have ea_ := Option.some.inj (hx285_1.symm.trans hx287_1)
           injection ea_ with ea_ en_ ec_
           subst ea_
           subst ec_
           clear en_
           go_wp2_with (first | ((with_reducible refine gate_callee (f := 62) rfl ?_); refine goesL_ (some 38) rfl rfl Try.func62 (by kernel_rfl) rfl #[.string a1, .int .i64 ((rd_T74 l0 x7_2).f2)] rfl (by simp only [List.map_toArray, List.map_cons, List.map_nil] <;> rfl) ?_; (with_reducible refine (impl_bitOf.calls a1 ((rd_T74 l0 x7_2).f2) t288 _ A13.out).mono ?_); rintro e w' ⟨rfl, ⟨nd, rfl⟩⟩; refine ⟨_, rfl, ?_⟩))
           go_roundg k2
           case measure => have := HJ2.out; have := HK2.out; omega
           case rel => exact ⟨((rd_T74 l0 x7_2).f3), (wrap64 (x8_2 + 1)), rfl, rfl, H', ⟨by have := HJ2.out; have := HK2.out; omega⟩, ⟨by repeat (first | (with_reducible first | exact HB.out | apply q4_ | apply q5_ | apply q6_) | exact HB.out)⟩⟩
         ·rw [if_neg c12] at H
          have c12b0 : (((rd_T74 l0 x7_2).f0).toList == ([] : List UInt8)) = false := beq_eq_false_iff_ne.mpr c12
          have c12b1 : (((rd_T74 l0 x7_2).f0).toList != ([] : List UInt8)) = true := bne_iff_ne.mpr c12
          by_cases c15 : ((rd_T74 l0 x7_2).f0).toList = a1.toList
          ·rw [if_pos c15] at H
           have c15b0 : (((rd_T74 l0 x7_2).f0).toList == a1.toList) = true := beq_iff_eq.mpr c15
           have c15b1 : (((rd_T74 l0 x7_2).f0).toList != a1.toList) = false := bne_eq_false_iff_eq.mpr c15
           clear c15
           replace H := Option.bind_eq_some_iff.mp H
           obtain ⟨t292, A160, H⟩ := H
           replace H : (some (t292, x8_2, true)) = some (r1, r2, r3) := H
           have A16 := Aside0.mk A160
           clear A160
           simp only [Option.some.injEq, Prod.mk.injEq] at H
           obtain ⟨rfl, rfl, rfl⟩ := H
           have p285 : 0 ≤ (x7_2 : Int) := of_decide_eq_true (by assumption)
           have q285 : x7_2 < (l0.length : Int) := of_decide_eq_true (by assumption)
           obtain ⟨ad285, A285_1, c285_1, e285, hx285_0, hx285_1, hx285_2, hx285_3, hx285_4, hl285_1, hi285_1⟩ := at_T74 HR0.out x7_2 p285 q285
           cases e285
           replace hx285_0 := (HB.out.cell (World.block_lt_of_cell? w _ hx285_0)).trans hx285_0
           replace hx285_1 := (HB.out.cell (World.block_lt_of_cell? w _ hx285_1)).trans hx285_1
           replace hx285_2 := (HB.out.cell (World.block_lt_of_cell? w _ hx285_2)).trans hx285_2
           replace hx285_3 := (HB.out.cell (World.block_lt_of_cell? w _ hx285_3)).trans hx285_3
           replace hx285_4 := (HB.out.cell (World.block_lt_of_cell? w _ hx285_4)).trans hx285_4
           have HR285_1 := Aside0.mk hi285_1
           have HC285_1 := Aside0.mk hl285_1
           clear hi285_1 hl285_1
           replace p285 := eq_true p285
           replace q285 := eq_true q285
           have p290 : 0 ≤ (x7_2 : Int) := of_decide_eq_true (by assumption)
           have q290 : x7_2 < (l0.length : Int) := of_decide_eq_true (by assumption)
           obtain ⟨ad290, A290_1, c290_1, e290, hx290_0, hx290_1, hx290_2, hx290_3, hx290_4, hl290_1, hi290_1⟩ := at_T74 HR0.out x7_2 p290 q290
           obtain rfl : ad285 = ad290 := (by injection e290)
           replace hx290_0 := (HB.out.cell (World.block_lt_of_cell? w _ hx290_0)).trans hx290_0
           replace hx290_1 := (HB.out.cell (World.block_lt_of_cell? w _ hx290_1)).trans hx290_1
           replace hx290_2 := (HB.out.cell (World.block_lt_of_cell? w _ hx290_2)).trans hx290_2
           replace hx290_3 := (HB.out.cell (World.block_lt_of_cell? w _ hx290_3)).trans hx290_3
           replace hx290_4 := (HB.out.cell (World.block_lt_of_cell? w _ hx290_4)).trans hx290_4
           have HR290_1 := Aside0.mk hi290_1
           have HC290_1 := Aside0.mk hl290_1
           clear hi290_1 hl290_1
           replace p290 := eq_true p290
           replace q290 := eq_true q290
           have ea_ := Option.some.inj (hx285_1.symm.trans hx290_1)
           injection ea_ with ea_ en_ ec_
           subst ea_
           subst ec_
           clear en_
           have p291 : 0 ≤ (x7_2 : Int) := of_decide_eq_true (by assumption)
           have q291 : x7_2 < (l0.length : Int) := of_decide_eq_true (by assumption)
           obtain ⟨ad291, A291_1, c291_1, e291, hx291_0, hx291_1, hx291_2, hx291_3, hx291_4, hl291_1, hi291_1⟩ := at_T74 HR0.out x7_2 p291 q291
           obtain rfl : ad285 = ad291 := (by injection e291)
           replace hx291_0 := (HB.out.cell (World.block_lt_of_cell? w _ hx291_0)).trans hx291_0
           replace hx291_1 := (HB.out.cell (World.block_lt_of_cell? w _ hx291_1)).trans hx291_1
           replace hx291_2 := (HB.out.cell (World.block_lt_of_cell? w _ hx291_2)).trans hx291_2
           replace hx291_3 := (HB.out.cell (World.block_lt_of_cell? w _ hx291_3)).trans hx291_3
           replace hx291_4 := (HB.out.cell (World.block_lt_of_cell? w _ hx291_4)).trans hx291_4
           have HR291_1 := Aside0.mk hi291_1
           have HC291_1 := Aside0.mk hl291_1
           clear hi291_1 hl291_1
           replace p291 := eq_true p291
           replace q291 := eq_true q291
           have ea_ := Option.some.inj (hx285_1.symm.trans hx291_1)
           injection ea_ with ea_ en_ ec_
           subst ea_
           subst ec_
           clear en_
           go_wp2_with (first | ((with_reducible refine gate_callee (f := 63) rfl ?_); refine goesL_ (some 61) rfl rfl Try.func63 (by kernel_rfl) rfl #[.slice A285_1 ((rd_T74 l0 x7_2).f1).length c285_1] rfl (by simp only [List.map_toArray, List.map_cons, List.map_nil] <;> rfl) ?_; (with_reducible refine (slices_Clone_int_int.calls _ _ ((rd_T74 l0 x7_2).f1) t292 _ ?side1 ?side2 A16.out).mono ?_); (case side1 => exact (Kd.C_below HR291_1.out HB.out)); (case side2 => exact HC291_1.out); rintro e w17 ⟨v293, rfl, ho0, hb⟩; refine ⟨_, rfl, ?_⟩; have n0_ := Aside0.mk (Kd.R_lower ho0 (below_size HB.out)); have n1_ := Aside0.mk (below_step HB.out hb); clear HB; have HO294 := n0_; have HB := n1_; clear n0_ n1_; (try clear hb); (try clear hk); (try clear hi); (try clear ho0)))
           go_ret3
           exact ⟨_, by first | rfl | (simp [errW_none, errW_some] <;> rfl) | (simp [*, errW_none, errW_some] <;> rfl), by (with_reducible repeat (first | apply Kd.R_alloc | apply Kd.R_drewN | apply Kd.R_drew)); exact HO294.out, by exact HB.out⟩
          ·rw [if_neg c15] at H
           have c15b0 : (((rd_T74 l0 x7_2).f0).toList == a1.toList) = false := beq_eq_false_iff_ne.mpr c15
           have c15b1 : (((rd_T74 l0 x7_2).f0).toList != a1.toList) = true := bne_iff_ne.mpr c15
           simp only [Option.some.injEq, Prod.mk.injEq] at H
           obtain ⟨rfl, rfl, rfl⟩ := H
           have p285 : 0 ≤ (x7_2 : Int) := of_decide_eq_true (by assumption)
           have q285 : x7_2 < (l0.length : Int) := of_decide_eq_true (by assumption)
           obtain ⟨ad285, A285_1, c285_1, e285, hx285_0, hx285_1, hx285_2, hx285_3, hx285_4, hl285_1, hi285_1⟩ := at_T74 HR0.out x7_2 p285 q285
           cases e285
           replace hx285_0 := (HB.out.cell (World.block_lt_of_cell? w _ hx285_0)).trans hx285_0
           replace hx285_1 := (HB.out.cell (World.block_lt_of_cell? w _ hx285_1)).trans hx285_1
           replace hx285_2 := (HB.out.cell (World.block_lt_of_cell? w _ hx285_2)).trans hx285_2
           replace hx285_3 := (HB.out.cell (World.block_lt_of_cell? w _ hx285_3)).trans hx285_3
           replace hx285_4 := (HB.out.cell (World.block_lt_of_cell? w _ hx285_4)).trans hx285_4
           have HR285_1 := Aside0.mk hi285_1
           have HC285_1 := Aside0.mk hl285_1
           clear hi285_1 hl285_1
           replace p285 := eq_true p285
           replace q285 := eq_true q285
           have p290 : 0 ≤ (x7_2 : Int) := of_decide_eq_true (by assumption)
           have q290 : x7_2 < (l0.length : Int) := of_decide_eq_true (by assumption)
           obtain ⟨ad290, A290_1, c290_1, e290, hx290_0, hx290_1, hx290_2, hx290_3, hx290_4, hl290_1, hi290_1⟩ := at_T74 HR0.out x7_2 p290 q290
           obtain rfl : ad285 = ad290 := (by injection e290)
           replace hx290_0 := (HB.out.cell (World.block_lt_of_cell? w _ hx290_0)).trans hx290_0
           replace hx290_1 := (HB.out.cell (World.block_lt_of_cell? w _ hx290_1)).trans hx290_1
           replace hx290_2 := (HB.out.cell (World.block_lt_of_cell? w _ hx290_2)).trans hx290_2
           replace hx290_3 := (HB.out.cell (World.block_lt_of_cell? w _ hx290_3)).trans hx290_3
           replace hx290_4 := (HB.out.cell (World.block_lt_of_cell? w _ hx290_4)).trans hx290_4
           have HR290_1 := Aside0.mk hi290_1
           have HC290_1 := Aside0.mk hl290_1
           clear hi290_1 hl290_1
           replace p290 := eq_true p290
           replace q290 := eq_true q290
           have ea_ := Option.some.inj (hx285_1.symm.trans hx290_1)
           injection ea_ with ea_ en_ ec_
           subst ea_
           subst ec_
           clear en_
           go_wp2
           go_ret3
           exact ⟨_, by first | rfl | (simp [errW_none, errW_some] <;> rfl) | (simp [*, errW_none, errW_some] <;> rfl), by first | exact Kd.R_nil _ _ _ _ _ | exact Kd.N_nil _ _ _ _ _ | exact Kd.V_nil _ _ _ _ _ | exact Kd.Q_nil _ _ _ _ _ | exact Kd.S_nil _ _ _ _ _, by exact HB.out⟩
        ·rw [if_neg c11] at H
         exact absurd H (by simp)
       ·rw [if_neg c10] at H
        exact absurd H (by simp)
/-! ### spec_PairsIn: function 29 -/
def spec_PairsIn.f (k : Nat) (l0 : List (S74)) : Option ((List (S51)) × Bool) := (spec_GoodIndex.f k l0).bind fun t295 => (if t295 = true then ((spec_l10Pairs.f k l0).bind fun t296 => (some (t296, true))) else (some (([] : List (S51)), false)))
theorem spec_PairsIn.mono : ∀ a0 k, LeO (spec_PairsIn.f k a0) (spec_PairsIn.f (k + 1) a0) := by
 intro a0 k
 unfold spec_PairsIn.f
 repeat' first
   | (with_reducible exact spec_GoodIndex.mono _ _)
   | (with_reducible exact spec_l10Pairs.mono _ _)
   | (with_reducible exact LeO.refl _)
   | (with_reducible exact LeO.none _)
   | (with_reducible refine LeO.ite ?_ ?_)
   | (with_reducible refine LeO.bind ?_ (fun _ => ?_))
   | exact LeO.none _
   | refine LeO.ite ?_ ?_
   | refine LeO.bind ?_ (fun _ => ?_)
set_option maxHeartbeats 8000000 in
set_option maxRecDepth 100000 in
theorem spec_PairsIn.calls (k : Nat) (A0 : Option Addr) (c0 : Nat) (l0 : List (S74)) (r1 : List (S51)) (r2 : Bool) (w : World) (hr0 : Kd.C k74 w A0 l0.length l0) (hc0 : l0.length ≤ c0) (h : spec_PairsIn.f k l0 = some (r1, r2)) :
  Calls Try.prog 29 #[.slice A0 l0.length c0] w fun e w' => ∃ v0_ : Value, e = .returned (.tuple #[v0_, .bool r2]) ∧ Kd.R k51 51 w' w.heap.size (fun _ => True) v0_ r1 ∧ Below w.heap.size w w' := by
 have HR0 := Aside0.mk hr0
 have HC0 := Aside0.mk hc0
 clear hr0 hc0
 have HB := Aside0.mk (Below.refl w.heap.size w)
 have H : ((spec_GoodIndex.f k l0).bind fun t295 => (if t295 = true then ((spec_l10Pairs.f k l0).bind fun t296 => (some (t296, true))) else (some (([] : List (S51)), false)))) = some (r1, r2) := h
 clear h
 replace H := Option.bind_eq_some_iff.mp H
 obtain ⟨t295, A20, H⟩ := H
 replace H : (if t295 = true then ((spec_l10Pairs.f k l0).bind fun t296 => (some (t296, true))) else (some (([] : List (S51)), false))) = some (r1, r2) := H
 have A2 := Aside0.mk A20
 clear A20
 by_cases c3 : t295 = true
 ·subst c3
  have H1 : ((spec_l10Pairs.f k l0).bind fun t296 => (some (t296, true))) = some (r1, r2) := by rw [if_pos rfl] at H; exact H
  clear H
  have H := H1
  clear H1
  replace H := Option.bind_eq_some_iff.mp H
  obtain ⟨t296, A40, H⟩ := H
  replace H : (some (t296, true)) = some (r1, r2) := H
  have A4 := Aside0.mk A40
  clear A40
  simp only [Option.some.injEq, Prod.mk.injEq] at H
  obtain ⟨rfl, rfl⟩ := H
  go_enter Try.func29, Try.ntmps29
  go_wp2_with (first | ((with_reducible refine gate_callee (f := 12) rfl ?_); refine goesL_ (some 5) rfl rfl Try.func12 (by kernel_rfl) rfl #[.slice A0 l0.length c0] rfl (by simp only [List.map_toArray, List.map_cons, List.map_nil] <;> rfl) ?_; (with_reducible refine (spec_GoodIndex.calls k _ _ l0 true _ ?side1 ?side2 A2.out).mono ?_); (case side1 => repeat (first | exact HR0.out | (with_reducible refine Kd.C_alloc ?_ _) | (with_reducible refine Kd.C_drewN ?_ _) | (with_reducible refine Kd.C_drew ?_))); (case side2 => exact HC0.out); rintro e w5 ⟨rfl, hb⟩; refine ⟨_, rfl, ?_⟩; have n0_ := Aside0.mk (below_step HB.out hb); clear HB; have HB := n0_; clear n0_; (try clear hb); (try clear hk); (try clear hi)) | ((with_reducible refine gate_callee (f := 50) rfl ?_); refine goesL_ (some 8) rfl rfl Try.func50 (by kernel_rfl) rfl #[.slice A0 l0.length c0] rfl (by simp only [List.map_toArray, List.map_cons, List.map_nil] <;> rfl) ?_; (with_reducible refine (spec_l10Pairs.calls k _ _ l0 t296 _ ?side1 ?side2 A4.out).mono ?_); (case side1 => exact (Kd.C_below HR0.out HB.out)); (case side2 => exact HC0.out); rintro e w6 ⟨v297, rfl, ho0, hb⟩; refine ⟨_, rfl, ?_⟩; have n0_ := Aside0.mk (Kd.R_lower ho0 (below_size HB.out)); have n1_ := Aside0.mk (below_step HB.out hb); clear HB; have HO298 := n0_; have HB := n1_; clear n0_ n1_; (try clear hb); (try clear hk); (try clear hi); (try clear ho0)))
  go_ret2
  exact ⟨_, by first | rfl | (simp [errW_none, errW_some] <;> rfl) | (simp [*, errW_none, errW_some] <;> rfl), by (with_reducible repeat (first | apply Kd.R_alloc | apply Kd.R_drewN | apply Kd.R_drew)); exact HO298.out, by exact HB.out⟩
 ·replace c3 := Bool.eq_false_iff.mpr c3
  subst c3
  have H1 : (some (([] : List (S51)), false)) = some (r1, r2) := by rw [if_neg (show ¬ (false = true) by decide)] at H; exact H
  clear H
  have H := H1
  clear H1
  simp only [Option.some.injEq, Prod.mk.injEq] at H
  obtain ⟨rfl, rfl⟩ := H
  go_enter Try.func29, Try.ntmps29
  go_wp2_with (first | ((with_reducible refine gate_callee (f := 12) rfl ?_); refine goesL_ (some 5) rfl rfl Try.func12 (by kernel_rfl) rfl #[.slice A0 l0.length c0] rfl (by simp only [List.map_toArray, List.map_cons, List.map_nil] <;> rfl) ?_; (with_reducible refine (spec_GoodIndex.calls k _ _ l0 false _ ?side1 ?side2 A2.out).mono ?_); (case side1 => repeat (first | exact HR0.out | (with_reducible refine Kd.C_alloc ?_ _) | (with_reducible refine Kd.C_drewN ?_ _) | (with_reducible refine Kd.C_drew ?_))); (case side2 => exact HC0.out); rintro e w7 ⟨rfl, hb⟩; refine ⟨_, rfl, ?_⟩; have n0_ := Aside0.mk (below_step HB.out hb); clear HB; have HB := n0_; clear n0_; (try clear hb); (try clear hk); (try clear hi)))
  go_ret2
  exact ⟨_, by first | rfl | (simp [errW_none, errW_some] <;> rfl) | (simp [*, errW_none, errW_some] <;> rfl), by first | exact Kd.R_nil _ _ _ _ _ | exact Kd.N_nil _ _ _ _ _ | exact Kd.V_nil _ _ _ _ _ | exact Kd.Q_nil _ _ _ _ _ | exact Kd.S_nil _ _ _ _ _, by exact HB.out⟩
/-! ### impl_PairsIn: function 30 -/
def impl_PairsIn.f (k : Nat) (l0 : List (S74)) : Option ((List (S51)) × Bool) := (impl_isIndex.f k l0).bind fun t299 => (if t299 = true then ((impl_pairsIn.f k l0).bind fun t300 => (some (t300, true))) else (some (([] : List (S51)), false)))
theorem impl_PairsIn.mono : ∀ a0 k, LeO (impl_PairsIn.f k a0) (impl_PairsIn.f (k + 1) a0) := by
 intro a0 k
 unfold impl_PairsIn.f
 repeat' first
   | (with_reducible exact impl_isIndex.mono _ _)
   | (with_reducible exact impl_pairsIn.mono _ _)
   | (with_reducible exact LeO.refl _)
   | (with_reducible exact LeO.none _)
   | (with_reducible refine LeO.ite ?_ ?_)
   | (with_reducible refine LeO.bind ?_ (fun _ => ?_))
   | exact LeO.none _
   | refine LeO.ite ?_ ?_
   | refine LeO.bind ?_ (fun _ => ?_)
set_option maxHeartbeats 8000000 in
set_option maxRecDepth 100000 in
theorem impl_PairsIn.calls (k : Nat) (A0 : Option Addr) (c0 : Nat) (l0 : List (S74)) (r1 : List (S51)) (r2 : Bool) (w : World) (hr0 : Kd.C k74 w A0 l0.length l0) (hc0 : l0.length ≤ c0) (h : impl_PairsIn.f k l0 = some (r1, r2)) :
  Calls Try.prog 30 #[.slice A0 l0.length c0] w fun e w' => ∃ v0_ : Value, e = .returned (.tuple #[v0_, .bool r2]) ∧ Kd.R k51 51 w' w.heap.size (fun _ => True) v0_ r1 ∧ Below w.heap.size w w' := by
 have HR0 := Aside0.mk hr0
 have HC0 := Aside0.mk hc0
 clear hr0 hc0
 have HB := Aside0.mk (Below.refl w.heap.size w)
 have H : ((impl_isIndex.f k l0).bind fun t299 => (if t299 = true then ((impl_pairsIn.f k l0).bind fun t300 => (some (t300, true))) else (some (([] : List (S51)), false)))) = some (r1, r2) := h
 clear h
 replace H := Option.bind_eq_some_iff.mp H
 obtain ⟨t299, A20, H⟩ := H
 replace H : (if t299 = true then ((impl_pairsIn.f k l0).bind fun t300 => (some (t300, true))) else (some (([] : List (S51)), false))) = some (r1, r2) := H
 have A2 := Aside0.mk A20
 clear A20
 by_cases c3 : t299 = true
 ·subst c3
  have H1 : ((impl_pairsIn.f k l0).bind fun t300 => (some (t300, true))) = some (r1, r2) := by rw [if_pos rfl] at H; exact H
  clear H
  have H := H1
  clear H1
  replace H := Option.bind_eq_some_iff.mp H
  obtain ⟨t300, A40, H⟩ := H
  replace H : (some (t300, true)) = some (r1, r2) := H
  have A4 := Aside0.mk A40
  clear A40
  simp only [Option.some.injEq, Prod.mk.injEq] at H
  obtain ⟨rfl, rfl⟩ := H
  go_enter Try.func30, Try.ntmps30
  go_wp2_with (first | ((with_reducible refine gate_callee (f := 55) rfl ?_); refine goesL_ (some 5) rfl rfl Try.func55 (by kernel_rfl) rfl #[.slice A0 l0.length c0] rfl (by simp only [List.map_toArray, List.map_cons, List.map_nil] <;> rfl) ?_; (with_reducible refine (impl_isIndex.calls k _ _ l0 true _ ?side1 ?side2 A2.out).mono ?_); (case side1 => repeat (first | exact HR0.out | (with_reducible refine Kd.C_alloc ?_ _) | (with_reducible refine Kd.C_drewN ?_ _) | (with_reducible refine Kd.C_drew ?_))); (case side2 => exact HC0.out); rintro e w5 ⟨rfl, hb⟩; refine ⟨_, rfl, ?_⟩; have n0_ := Aside0.mk (below_step HB.out hb); clear HB; have HB := n0_; clear n0_; (try clear hb); (try clear hk); (try clear hi)) | ((with_reducible refine gate_callee (f := 64) rfl ?_); refine goesL_ (some 8) rfl rfl Try.func64 (by kernel_rfl) rfl #[.slice A0 l0.length c0] rfl (by simp only [List.map_toArray, List.map_cons, List.map_nil] <;> rfl) ?_; (with_reducible refine (impl_pairsIn.calls k _ _ l0 t300 _ ?side1 ?side2 A4.out).mono ?_); (case side1 => exact (Kd.C_below HR0.out HB.out)); (case side2 => exact HC0.out); rintro e w6 ⟨v301, rfl, ho0, hb⟩; refine ⟨_, rfl, ?_⟩; have n0_ := Aside0.mk (Kd.R_lower ho0 (below_size HB.out)); have n1_ := Aside0.mk (below_step HB.out hb); clear HB; have HO302 := n0_; have HB := n1_; clear n0_ n1_; (try clear hb); (try clear hk); (try clear hi); (try clear ho0)))
  go_ret2
  exact ⟨_, by first | rfl | (simp [errW_none, errW_some] <;> rfl) | (simp [*, errW_none, errW_some] <;> rfl), by (with_reducible repeat (first | apply Kd.R_alloc | apply Kd.R_drewN | apply Kd.R_drew)); exact HO302.out, by exact HB.out⟩
 ·replace c3 := Bool.eq_false_iff.mpr c3
  subst c3
  have H1 : (some (([] : List (S51)), false)) = some (r1, r2) := by rw [if_neg (show ¬ (false = true) by decide)] at H; exact H
  clear H
  have H := H1
  clear H1
  simp only [Option.some.injEq, Prod.mk.injEq] at H
  obtain ⟨rfl, rfl⟩ := H
  go_enter Try.func30, Try.ntmps30
  go_wp2_with (first | ((with_reducible refine gate_callee (f := 55) rfl ?_); refine goesL_ (some 5) rfl rfl Try.func55 (by kernel_rfl) rfl #[.slice A0 l0.length c0] rfl (by simp only [List.map_toArray, List.map_cons, List.map_nil] <;> rfl) ?_; (with_reducible refine (impl_isIndex.calls k _ _ l0 false _ ?side1 ?side2 A2.out).mono ?_); (case side1 => repeat (first | exact HR0.out | (with_reducible refine Kd.C_alloc ?_ _) | (with_reducible refine Kd.C_drewN ?_ _) | (with_reducible refine Kd.C_drew ?_))); (case side2 => exact HC0.out); rintro e w7 ⟨rfl, hb⟩; refine ⟨_, rfl, ?_⟩; have n0_ := Aside0.mk (below_step HB.out hb); clear HB; have HB := n0_; clear n0_; (try clear hb); (try clear hk); (try clear hi)))
  go_ret2
  exact ⟨_, by first | rfl | (simp [errW_none, errW_some] <;> rfl) | (simp [*, errW_none, errW_some] <;> rfl), by first | exact Kd.R_nil _ _ _ _ _ | exact Kd.N_nil _ _ _ _ _ | exact Kd.V_nil _ _ _ _ _ | exact Kd.Q_nil _ _ _ _ _ | exact Kd.S_nil _ _ _ _ _, by exact HB.out⟩
end
end Go.Proofs.Ytkkphbjemnifiaa.PFnFound
