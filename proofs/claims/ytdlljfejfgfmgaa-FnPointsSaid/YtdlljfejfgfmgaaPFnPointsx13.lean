-- Printed for this claim by a changed copy of the kit's printing program (wip/tools/patch_print.py); Lean checks it.
import Derived.Test.YtdlljfejfgfmgaaPFnPointsx0
import Derived.Test.YtdlljfejfgfmgaaPFnPointsx1
import Derived.Test.YtdlljfejfgfmgaaPFnPointsx3
import Derived.Test.YtdlljfejfgfmgaaPFnPointsx4
import Derived.Test.YtdlljfejfgfmgaaPFnPointsx6
import Derived.Test.YtdlljfejfgfmgaaPFnPointsx8
import Derived.Test.YtdlljfejfgfmgaaPFnPointsx9
import Derived.Test.YtdlljfejfgfmgaaPFnPointsx10
import Derived.Test.YtdlljfejfgfmgaaPFnPointsx11
import Derived.Test.YtdlljfejfgfmgaaPFnPointsx12
namespace Go.Proofs.Ytdlljfejfgfmgaa.PFnPoints
open Go.RowKit Go.Proofs.YtdlljfejfgfmgaaW.PrintWords Go.Proofs.YtdlljfejfgfmgaaW.PrintLast Go.Proofs.YtdlljfejfgfmgaaW.PrintMore
attribute [local go_sem] max2_int min2_int max_two min_two max_three min_three max_four min_four   -- for this text's walks alone
set_option linter.unusedVariables false
set_option linter.unusedSimpArgs false

noncomputable section

theorem bU_ {w W V : World} (h : Aside0 (Below w.heap.size w W)) (e : V.os = W.os ∧ V.tape = W.tape ∧ V.output = W.output ∧ V.heap = W.heap := by exact ⟨rfl, rfl, rfl, rfl⟩) : Below w.heap.size w V :=
 ⟨by rw [e.1]; exact h.out.os, by rw [e.2.1]; exact h.out.tape, by rw [e.2.2.1]; exact h.out.output, by rw [e.2.2.2]; exact h.out.size, fun i hi => by rw [e.2.2.2]; exact h.out.block i hi⟩
theorem bS_ {w W V w1 : World} (h : Aside0 (Below w.heap.size w W)) (hb : Below V.heap.size V w1) (e : V.os = W.os ∧ V.tape = W.tape ∧ V.output = W.output ∧ V.heap = W.heap := by exact ⟨rfl, rfl, rfl, rfl⟩) : Aside0 (Below w.heap.size w w1) :=
 ⟨below_step (bU_ h e) hb⟩
attribute [local go_sem high] eqA40
set_option maxHeartbeats 8000000 in
set_option maxRecDepth 100000 in
theorem laws_FnPoints.calls (k : Nat) (A0 : Option Addr) (c0 : Nat) (l0 : List Int) (A1 : Option Addr) (c1 : Nat) (l1 : List Int) (r : Bool) (w : World) (hr_ : r = true) (hr0 : Kd.C (Kd.int .u8) w A0 l0.length l0) (hc0 : l0.length ≤ c0) (hr1 : Kd.C (Kd.int .u8) w A1 l1.length l1) (hc1 : l1.length ≤ c1) (h : laws_FnPoints.f k l0 l1 = some r) :
  Calls Try.prog 6 #[.slice A0 l0.length c0, .slice A1 l1.length c1] w fun e w' => e = .returned (.bool r) ∧ Below w.heap.size w w' := by
 have hu38 := Try.underlying38
 have hu40 := Try.underlying40
 have HR_ := Aside0.mk hr_
 clear hr_
 have HR0 := Aside0.mk hr0
 have HC0 := Aside0.mk hc0
 clear hr0 hc0
 have HR1 := Aside0.mk hr1
 have HC1 := Aside0.mk hc1
 clear hr1 hc1
 have HB := Aside0.mk (Below.refl w.heap.size w)
 have H : (if (wrap64 ((l0.length : Int) + (l1.length : Int))) > 1048576 then (some true) else ((spec_DrawOrderOf.f k l0).bind fun bt311 => ((impl_OrderOf.f k bt311.1 bt311.2.1 bt311.2.2.1 bt311.2.2.2).bind fun bt317 => ((spec_OrderOf.f k bt311.1 bt311.2.1 bt311.2.2.1 bt311.2.2.2).bind fun bt319 => ((impl_CountPoints.f k bt311.1 bt311.2.1).bind fun bt321 => ((spec_CountPoints.f k bt311.1 bt311.2.1).bind fun bt323 => ((impl_ShortPoint.f k bt311.1 bt311.2.1 bt311.2.2.1 bt311.2.2.2).bind fun bt325 => ((spec_ShortPoint.f k bt311.1 bt311.2.1 bt311.2.2.1 bt311.2.2.2).bind fun bt327 => (if (bt317.2 != bt319.2) = true then (laws_FnPoints.j0 k l1 bt317.1 bt317.2 bt321.1 bt321.2 bt325.1 bt325.2 true bt311.1 bt311.2.1 bt311.2.2.1 bt311.2.2.2) else (if bt317.1 = bt319.1 then (if (bt321.2 != bt323.2) = true then (laws_FnPoints.j0 k l1 bt317.1 bt317.2 bt321.1 bt321.2 bt325.1 bt325.2 true bt311.1 bt311.2.1 bt311.2.2.1 bt311.2.2.2) else (if bt321.1 = bt323.1 then (if (bt325.2 != bt327.2) = true then (laws_FnPoints.j0 k l1 bt317.1 bt317.2 bt321.1 bt321.2 bt325.1 bt325.2 true bt311.1 bt311.2.1 bt311.2.2.1 bt311.2.2.2) else (laws_FnPoints.j0 k l1 bt317.1 bt317.2 bt321.1 bt321.2 bt325.1 bt325.2 (bt325.1 != bt327.1) bt311.1 bt311.2.1 bt311.2.2.1 bt311.2.2.2)) else (laws_FnPoints.j0 k l1 bt317.1 bt317.2 bt321.1 bt321.2 bt325.1 bt325.2 true bt311.1 bt311.2.1 bt311.2.2.1 bt311.2.2.2))) else (laws_FnPoints.j0 k l1 bt317.1 bt317.2 bt321.1 bt321.2 bt325.1 bt325.2 true bt311.1 bt311.2.1 bt311.2.2.1 bt311.2.2.2))))))))))) = some r := h
 clear h
 by_cases c3 : (wrap64 ((l0.length : Int) + (l1.length : Int))) > 1048576
 ·rw [if_pos c3] at H
  have c3b0 : decide (1048576 < (wrap64 ((l0.length : Int) + (l1.length : Int)))) = true := decide_eq_true c3
  clear c3
  as_aux_lemma =>
   obtain rfl := Option.some.inj H
   go_enter Try.func6, Try.ntmps6
   go_wp2
   all_goals (try exact absurd ‹some undef = some (Value.bool _)› (by simp [undef]))
   go_ret
   exact ⟨by first | rfl | (simp [errW_none, errW_some] <;> rfl) | (simp [*, errW_none, errW_some] <;> rfl), by repeat (first | (with_reducible first | exact HB.out | apply below_alloc | apply pw_below_drewN | apply below_drew1) | exact HB.out)⟩
 ·rw [if_neg c3] at H
  have c3b0 : decide (1048576 < (wrap64 ((l0.length : Int) + (l1.length : Int)))) = false := decide_eq_false c3
  clear c3
  replace H := Option.bind_eq_some_iff.mp H
  obtain ⟨⟨t311, t312, t313, t314⟩, A40, H⟩ := H
  replace H : ((impl_OrderOf.f k t311 t312 t313 t314).bind fun bt317 => ((spec_OrderOf.f k t311 t312 t313 t314).bind fun bt319 => ((impl_CountPoints.f k t311 t312).bind fun bt321 => ((spec_CountPoints.f k t311 t312).bind fun bt323 => ((impl_ShortPoint.f k t311 t312 t313 t314).bind fun bt325 => ((spec_ShortPoint.f k t311 t312 t313 t314).bind fun bt327 => (if (bt317.2 != bt319.2) = true then (laws_FnPoints.j0 k l1 bt317.1 bt317.2 bt321.1 bt321.2 bt325.1 bt325.2 true t311 t312 t313 t314) else (if bt317.1 = bt319.1 then (if (bt321.2 != bt323.2) = true then (laws_FnPoints.j0 k l1 bt317.1 bt317.2 bt321.1 bt321.2 bt325.1 bt325.2 true t311 t312 t313 t314) else (if bt321.1 = bt323.1 then (if (bt325.2 != bt327.2) = true then (laws_FnPoints.j0 k l1 bt317.1 bt317.2 bt321.1 bt321.2 bt325.1 bt325.2 true t311 t312 t313 t314) else (laws_FnPoints.j0 k l1 bt317.1 bt317.2 bt321.1 bt321.2 bt325.1 bt325.2 (bt325.1 != bt327.1) t311 t312 t313 t314)) else (laws_FnPoints.j0 k l1 bt317.1 bt317.2 bt321.1 bt321.2 bt325.1 bt325.2 true t311 t312 t313 t314))) else (laws_FnPoints.j0 k l1 bt317.1 bt317.2 bt321.1 bt321.2 bt325.1 bt325.2 true t311 t312 t313 t314))))))))) = some r := H
  have A4 := Aside0.mk A40
  clear A40
  replace H := Option.bind_eq_some_iff.mp H
  obtain ⟨⟨t317, t318⟩, A50, H⟩ := H
  replace H : ((spec_OrderOf.f k t311 t312 t313 t314).bind fun bt319 => ((impl_CountPoints.f k t311 t312).bind fun bt321 => ((spec_CountPoints.f k t311 t312).bind fun bt323 => ((impl_ShortPoint.f k t311 t312 t313 t314).bind fun bt325 => ((spec_ShortPoint.f k t311 t312 t313 t314).bind fun bt327 => (if (t318 != bt319.2) = true then (laws_FnPoints.j0 k l1 t317 t318 bt321.1 bt321.2 bt325.1 bt325.2 true t311 t312 t313 t314) else (if t317 = bt319.1 then (if (bt321.2 != bt323.2) = true then (laws_FnPoints.j0 k l1 t317 t318 bt321.1 bt321.2 bt325.1 bt325.2 true t311 t312 t313 t314) else (if bt321.1 = bt323.1 then (if (bt325.2 != bt327.2) = true then (laws_FnPoints.j0 k l1 t317 t318 bt321.1 bt321.2 bt325.1 bt325.2 true t311 t312 t313 t314) else (laws_FnPoints.j0 k l1 t317 t318 bt321.1 bt321.2 bt325.1 bt325.2 (bt325.1 != bt327.1) t311 t312 t313 t314)) else (laws_FnPoints.j0 k l1 t317 t318 bt321.1 bt321.2 bt325.1 bt325.2 true t311 t312 t313 t314))) else (laws_FnPoints.j0 k l1 t317 t318 bt321.1 bt321.2 bt325.1 bt325.2 true t311 t312 t313 t314)))))))) = some r := H
  have A5 := Aside0.mk A50
  clear A50
  replace H := Option.bind_eq_some_iff.mp H
  obtain ⟨⟨t319, t320⟩, A60, H⟩ := H
  replace H : ((impl_CountPoints.f k t311 t312).bind fun bt321 => ((spec_CountPoints.f k t311 t312).bind fun bt323 => ((impl_ShortPoint.f k t311 t312 t313 t314).bind fun bt325 => ((spec_ShortPoint.f k t311 t312 t313 t314).bind fun bt327 => (if (t318 != t320) = true then (laws_FnPoints.j0 k l1 t317 t318 bt321.1 bt321.2 bt325.1 bt325.2 true t311 t312 t313 t314) else (if t317 = t319 then (if (bt321.2 != bt323.2) = true then (laws_FnPoints.j0 k l1 t317 t318 bt321.1 bt321.2 bt325.1 bt325.2 true t311 t312 t313 t314) else (if bt321.1 = bt323.1 then (if (bt325.2 != bt327.2) = true then (laws_FnPoints.j0 k l1 t317 t318 bt321.1 bt321.2 bt325.1 bt325.2 true t311 t312 t313 t314) else (laws_FnPoints.j0 k l1 t317 t318 bt321.1 bt321.2 bt325.1 bt325.2 (bt325.1 != bt327.1) t311 t312 t313 t314)) else (laws_FnPoints.j0 k l1 t317 t318 bt321.1 bt321.2 bt325.1 bt325.2 true t311 t312 t313 t314))) else (laws_FnPoints.j0 k l1 t317 t318 bt321.1 bt321.2 bt325.1 bt325.2 true t311 t312 t313 t314))))))) = some r := H
  have A6 := Aside0.mk A60
  clear A60
  replace H := Option.bind_eq_some_iff.mp H
  obtain ⟨⟨t321, t322⟩, A70, H⟩ := H
  replace H : ((spec_CountPoints.f k t311 t312).bind fun bt323 => ((impl_ShortPoint.f k t311 t312 t313 t314).bind fun bt325 => ((spec_ShortPoint.f k t311 t312 t313 t314).bind fun bt327 => (if (t318 != t320) = true then (laws_FnPoints.j0 k l1 t317 t318 t321 t322 bt325.1 bt325.2 true t311 t312 t313 t314) else (if t317 = t319 then (if (t322 != bt323.2) = true then (laws_FnPoints.j0 k l1 t317 t318 t321 t322 bt325.1 bt325.2 true t311 t312 t313 t314) else (if t321 = bt323.1 then (if (bt325.2 != bt327.2) = true then (laws_FnPoints.j0 k l1 t317 t318 t321 t322 bt325.1 bt325.2 true t311 t312 t313 t314) else (laws_FnPoints.j0 k l1 t317 t318 t321 t322 bt325.1 bt325.2 (bt325.1 != bt327.1) t311 t312 t313 t314)) else (laws_FnPoints.j0 k l1 t317 t318 t321 t322 bt325.1 bt325.2 true t311 t312 t313 t314))) else (laws_FnPoints.j0 k l1 t317 t318 t321 t322 bt325.1 bt325.2 true t311 t312 t313 t314)))))) = some r := H
  have A7 := Aside0.mk A70
  clear A70
  replace H := Option.bind_eq_some_iff.mp H
  obtain ⟨⟨t323, t324⟩, A80, H⟩ := H
  replace H : ((impl_ShortPoint.f k t311 t312 t313 t314).bind fun bt325 => ((spec_ShortPoint.f k t311 t312 t313 t314).bind fun bt327 => (if (t318 != t320) = true then (laws_FnPoints.j0 k l1 t317 t318 t321 t322 bt325.1 bt325.2 true t311 t312 t313 t314) else (if t317 = t319 then (if (t322 != t324) = true then (laws_FnPoints.j0 k l1 t317 t318 t321 t322 bt325.1 bt325.2 true t311 t312 t313 t314) else (if t321 = t323 then (if (bt325.2 != bt327.2) = true then (laws_FnPoints.j0 k l1 t317 t318 t321 t322 bt325.1 bt325.2 true t311 t312 t313 t314) else (laws_FnPoints.j0 k l1 t317 t318 t321 t322 bt325.1 bt325.2 (bt325.1 != bt327.1) t311 t312 t313 t314)) else (laws_FnPoints.j0 k l1 t317 t318 t321 t322 bt325.1 bt325.2 true t311 t312 t313 t314))) else (laws_FnPoints.j0 k l1 t317 t318 t321 t322 bt325.1 bt325.2 true t311 t312 t313 t314))))) = some r := H
  have A8 := Aside0.mk A80
  clear A80
  replace H := Option.bind_eq_some_iff.mp H
  obtain ⟨⟨t325, t326⟩, A90, H⟩ := H
  replace H : ((spec_ShortPoint.f k t311 t312 t313 t314).bind fun bt327 => (if (t318 != t320) = true then (laws_FnPoints.j0 k l1 t317 t318 t321 t322 t325 t326 true t311 t312 t313 t314) else (if t317 = t319 then (if (t322 != t324) = true then (laws_FnPoints.j0 k l1 t317 t318 t321 t322 t325 t326 true t311 t312 t313 t314) else (if t321 = t323 then (if (t326 != bt327.2) = true then (laws_FnPoints.j0 k l1 t317 t318 t321 t322 t325 t326 true t311 t312 t313 t314) else (laws_FnPoints.j0 k l1 t317 t318 t321 t322 t325 t326 (t325 != bt327.1) t311 t312 t313 t314)) else (laws_FnPoints.j0 k l1 t317 t318 t321 t322 t325 t326 true t311 t312 t313 t314))) else (laws_FnPoints.j0 k l1 t317 t318 t321 t322 t325 t326 true t311 t312 t313 t314)))) = some r := H
  have A9 := Aside0.mk A90
  clear A90
  replace H := Option.bind_eq_some_iff.mp H
  obtain ⟨⟨t327, t328⟩, A100, H⟩ := H
  replace H : (if (t318 != t320) = true then (laws_FnPoints.j0 k l1 t317 t318 t321 t322 t325 t326 true t311 t312 t313 t314) else (if t317 = t319 then (if (t322 != t324) = true then (laws_FnPoints.j0 k l1 t317 t318 t321 t322 t325 t326 true t311 t312 t313 t314) else (if t321 = t323 then (if (t326 != t328) = true then (laws_FnPoints.j0 k l1 t317 t318 t321 t322 t325 t326 true t311 t312 t313 t314) else (laws_FnPoints.j0 k l1 t317 t318 t321 t322 t325 t326 (t325 != t327) t311 t312 t313 t314)) else (laws_FnPoints.j0 k l1 t317 t318 t321 t322 t325 t326 true t311 t312 t313 t314))) else (laws_FnPoints.j0 k l1 t317 t318 t321 t322 t325 t326 true t311 t312 t313 t314))) = some r := H
  have A10 := Aside0.mk A100
  clear A100
  have HC11 := Aside0.mk H
  clear H
  go_enter Try.func6, Try.ntmps6
  go_upto_region 10 with (first | ((with_reducible refine gate_callee (f := 43) rfl ?_); refine goesL_ (some 53) rfl rfl Try.func43 (by kernel_rfl) rfl #[.slice A0 l0.length c0] rfl (by (try simp only [List.map_toArray, List.map_cons, List.map_nil]); first | done | rfl | (simp only [List.length_drop, List.length_take]; rfl)) ?_; (with_reducible refine (spec_DrawOrderOf.calls k _ _ l0 t311 t312 t313 t314 _ ?side1 ?side2 A4.out).mono ?_); (case side1 => repeat (first | exact HR0.out | (with_reducible refine Kd.C_alloc ?_ _) | (with_reducible refine Kd.C_drewN ?_ _) | (with_reducible refine Kd.C_drew ?_))); (case side2 => exact HC0.out); rintro e w12 ⟨rfl, hb⟩; refine ⟨_, rfl, ?_⟩; replace HB := bS_ HB hb; (try clear hb)) | ((with_reducible refine gate_dst (N := 5) rfl ?_); refine box_event ?hg (N := 5) ?hd (cs := #[.int .i64 0, .int .i64 0]) (t := 38) ?hr ?_; (case hd => rfl); (case hg => rfl); (case hr => first | (go_simp; done) | (go_simp; rfl)); intro gb315 hg w13 hbox hb; have BK315 := Aside0.mk (hbox); have GW315 := Aside0.mk ((by rw [hg]; exact (below_size (bU_ HB)) : w.heap.size ≤ gb315)); have GE315 := Aside0.mk ((by rw [hg]; exact (below_size (bU_ HB)) : w.heap.size ≤ gb315)); replace HB := bS_ HB hb; clear hb hbox hg) | ((with_reducible refine gate_dst (N := 6) rfl ?_); refine box_event ?hg (N := 6) ?hd (cs := #[.int .i64 0, .int .i64 0]) (t := 40) ?hr ?_; (case hd => rfl); (case hg => rfl); (case hr => first | (go_simp; done) | (go_simp; rfl)); intro gb316 hg w14 hbox hb; have BK316 := Aside0.mk (hbox); have GW316 := Aside0.mk ((by rw [hg]; exact (below_size (by repeat (first | (with_reducible first | exact HB.out | apply below_alloc | apply pw_below_drewN | apply below_drew1 | refine below_set ?_ GE315.out) | exact HB.out))) : w.heap.size ≤ gb316)); have GE316 := Aside0.mk ((by rw [hg]; exact (below_size (by repeat (first | (with_reducible first | exact HB.out | apply below_alloc | apply pw_below_drewN | apply below_drew1 | refine below_set ?_ GE315.out) | exact HB.out))) : w.heap.size ≤ gb316)); have NB315_316 := Aside0.mk ((by rw [hg]; exact Nat.ne_of_lt (blk_lt (g := gb315) (o := .cells #[.int .i64 0, .int .i64 0] 38 (0, 0)) (by (with_reducible repeat (first | refine blk_drewN ?_ _ | refine blk_drew ?_ | refine blk_alloc ?_ _)); exact BK315.out)) : gb315 ≠ gb316)); have NB316_315 := Aside0.mk ((by rw [hg]; exact Nat.ne_of_gt (blk_lt (g := gb315) (o := .cells #[.int .i64 0, .int .i64 0] 38 (0, 0)) (by (with_reducible repeat (first | refine blk_drewN ?_ _ | refine blk_drew ?_ | refine blk_alloc ?_ _)); exact BK315.out)) : gb316 ≠ gb315)); replace BK315 := Aside0.mk (blk_below (g := gb315) (o := .cells #[.int .i64 0, .int .i64 0] 38 (0, 0)) (by (with_reducible repeat (first | refine blk_drewN ?_ _ | refine blk_drew ?_ | refine blk_alloc ?_ _)); exact BK315.out) hb); replace HB := Aside0.mk (below_step (by repeat (first | (with_reducible first | exact HB.out | apply below_alloc | apply pw_below_drewN | apply below_drew1 | refine below_set ?_ GE315.out) | exact HB.out)) hb); clear hb hbox hg; have hnb15 := NB315_316.out; have hnc15 := NB316_315.out; have hcz16_0 : w14.cell? ⟨gb315, 0, none⟩ = some (.int .i64 0) := (blk_cell BK315.out 0).trans rfl; have hcz16_1 : w14.cell? ⟨gb315, 1, none⟩ = some (.int .i64 0) := (blk_cell BK315.out 1).trans rfl; have hfz16_0 := blk_frozen BK315.out 0; have hfz16_1 := blk_frozen BK315.out 1; have hcz17_0 : w14.cell? ⟨gb316, 0, none⟩ = some (.int .i64 0) := (blk_cell BK316.out 0).trans rfl; have hcz17_1 : w14.cell? ⟨gb316, 1, none⟩ = some (.int .i64 0) := (blk_cell BK316.out 1).trans rfl; have hfz17_0 := blk_frozen BK316.out 0; have hfz17_1 := blk_frozen BK316.out 1) | ((with_reducible refine gate_callee (f := 44) rfl ?_); refine goesL_ (some 59) rfl rfl Try.func44 (by kernel_rfl) rfl #[.agg #[.int .i64 t311, .int .i64 t312], .agg #[.int .i64 t313, .int .i64 t314]] rfl (by (try simp only [List.map_toArray, List.map_cons, List.map_nil]); first | done | rfl | (simp only [List.length_drop, List.length_take]; rfl)) ?_; (with_reducible refine (impl_OrderOf.calls k t311 t312 t313 t314 t317 t318 _ A5.out).mono ?_); rintro e w18 ⟨rfl, hb⟩; refine ⟨_, rfl, ?_⟩; replace BK315 := Aside0.mk (blk_below (g := gb315) (o := .cells #[.int .i64 t311, .int .i64 t312] 38 (0, 0)) (by (with_reducible repeat (first | refine blk_drewN ?_ _ | refine blk_drew ?_ | refine blk_alloc ?_ _)); refine blk_far ?_ NB315_316.out _; (with_reducible repeat (first | refine blk_drewN ?_ _ | refine blk_drew ?_ | refine blk_alloc ?_ _)); refine blk_far ?_ NB315_316.out _; (with_reducible repeat (first | refine blk_drewN ?_ _ | refine blk_drew ?_ | refine blk_alloc ?_ _)); refine blk_put (cs := #[.int .i64 t311, .int .i64 0]) ?_ 1 _ rfl; (with_reducible repeat (first | refine blk_drewN ?_ _ | refine blk_drew ?_ | refine blk_alloc ?_ _)); refine blk_put (cs := #[.int .i64 0, .int .i64 0]) ?_ 0 _ rfl; (with_reducible repeat (first | refine blk_drewN ?_ _ | refine blk_drew ?_ | refine blk_alloc ?_ _)); exact BK315.out) hb); replace BK316 := Aside0.mk (blk_below (g := gb316) (o := .cells #[.int .i64 t313, .int .i64 t314] 40 (0, 0)) (by (with_reducible repeat (first | refine blk_drewN ?_ _ | refine blk_drew ?_ | refine blk_alloc ?_ _)); refine blk_put (cs := #[.int .i64 t313, .int .i64 0]) ?_ 1 _ rfl; (with_reducible repeat (first | refine blk_drewN ?_ _ | refine blk_drew ?_ | refine blk_alloc ?_ _)); refine blk_put (cs := #[.int .i64 0, .int .i64 0]) ?_ 0 _ rfl; (with_reducible repeat (first | refine blk_drewN ?_ _ | refine blk_drew ?_ | refine blk_alloc ?_ _)); refine blk_far ?_ NB316_315.out _; (with_reducible repeat (first | refine blk_drewN ?_ _ | refine blk_drew ?_ | refine blk_alloc ?_ _)); refine blk_far ?_ NB316_315.out _; (with_reducible repeat (first | refine blk_drewN ?_ _ | refine blk_drew ?_ | refine blk_alloc ?_ _)); exact BK316.out) hb); replace HB := Aside0.mk (below_step (by repeat (first | (with_reducible first | exact HB.out | apply below_alloc | apply pw_below_drewN | apply below_drew1 | refine below_set ?_ GE315.out | refine below_set ?_ GE316.out) | exact HB.out)) hb); (try clear hb); have hcz19_0 : w18.cell? ⟨gb315, 0, none⟩ = some (.int .i64 t311) := (blk_cell BK315.out 0).trans rfl; have hcz19_1 : w18.cell? ⟨gb315, 1, none⟩ = some (.int .i64 t312) := (blk_cell BK315.out 1).trans rfl; have hfz19_0 := blk_frozen BK315.out 0; have hfz19_1 := blk_frozen BK315.out 1; have hcz20_0 : w18.cell? ⟨gb316, 0, none⟩ = some (.int .i64 t313) := (blk_cell BK316.out 0).trans rfl; have hcz20_1 : w18.cell? ⟨gb316, 1, none⟩ = some (.int .i64 t314) := (blk_cell BK316.out 1).trans rfl; have hfz20_0 := blk_frozen BK316.out 0; have hfz20_1 := blk_frozen BK316.out 1) | ((with_reducible refine gate_callee (f := 45) rfl ?_); refine goesL_ (some 65) rfl rfl Try.func45 (by kernel_rfl) rfl #[.agg #[.int .i64 t311, .int .i64 t312], .agg #[.int .i64 t313, .int .i64 t314]] rfl (by (try simp only [List.map_toArray, List.map_cons, List.map_nil]); first | done | rfl | (simp only [List.length_drop, List.length_take]; rfl)) ?_; (with_reducible refine (spec_OrderOf.calls k t311 t312 t313 t314 t319 t320 _ A6.out).mono ?_); rintro e w21 ⟨rfl, hb⟩; refine ⟨_, rfl, ?_⟩; replace BK315 := Aside0.mk (blk_below (g := gb315) (o := .cells #[.int .i64 t311, .int .i64 t312] 38 (0, 0)) (by (with_reducible repeat (first | refine blk_drewN ?_ _ | refine blk_drew ?_ | refine blk_alloc ?_ _)); exact BK315.out) hb); replace BK316 := Aside0.mk (blk_below (g := gb316) (o := .cells #[.int .i64 t313, .int .i64 t314] 40 (0, 0)) (by (with_reducible repeat (first | refine blk_drewN ?_ _ | refine blk_drew ?_ | refine blk_alloc ?_ _)); exact BK316.out) hb); replace HB := Aside0.mk (below_step (by repeat (first | (with_reducible first | exact HB.out | apply below_alloc | apply pw_below_drewN | apply below_drew1 | refine below_set ?_ GE315.out | refine below_set ?_ GE316.out) | exact HB.out)) hb); (try clear hb); have hcz22_0 : w21.cell? ⟨gb315, 0, none⟩ = some (.int .i64 t311) := (blk_cell BK315.out 0).trans rfl; have hcz22_1 : w21.cell? ⟨gb315, 1, none⟩ = some (.int .i64 t312) := (blk_cell BK315.out 1).trans rfl; have hfz22_0 := blk_frozen BK315.out 0; have hfz22_1 := blk_frozen BK315.out 1) | ((with_reducible refine gate_callee (f := 46) rfl ?_); refine goesL_ (some 70) rfl rfl Try.func46 (by kernel_rfl) rfl #[.agg #[.int .i64 t311, .int .i64 t312]] rfl (by (try simp only [List.map_toArray, List.map_cons, List.map_nil]); first | done | rfl | (simp only [List.length_drop, List.length_take]; rfl)) ?_; (with_reducible refine (impl_CountPoints.calls k t311 t312 t321 t322 _ A7.out).mono ?_); rintro e w23 ⟨rfl, hb⟩; refine ⟨_, rfl, ?_⟩; replace BK315 := Aside0.mk (blk_below (g := gb315) (o := .cells #[.int .i64 t311, .int .i64 t312] 38 (0, 0)) (by (with_reducible repeat (first | refine blk_drewN ?_ _ | refine blk_drew ?_ | refine blk_alloc ?_ _)); exact BK315.out) hb); replace BK316 := Aside0.mk (blk_below (g := gb316) (o := .cells #[.int .i64 t313, .int .i64 t314] 40 (0, 0)) (by (with_reducible repeat (first | refine blk_drewN ?_ _ | refine blk_drew ?_ | refine blk_alloc ?_ _)); exact BK316.out) hb); replace HB := Aside0.mk (below_step (by repeat (first | (with_reducible first | exact HB.out | apply below_alloc | apply pw_below_drewN | apply below_drew1 | refine below_set ?_ GE315.out | refine below_set ?_ GE316.out) | exact HB.out)) hb); (try clear hb); have hcz24_0 : w23.cell? ⟨gb315, 0, none⟩ = some (.int .i64 t311) := (blk_cell BK315.out 0).trans rfl; have hcz24_1 : w23.cell? ⟨gb315, 1, none⟩ = some (.int .i64 t312) := (blk_cell BK315.out 1).trans rfl; have hfz24_0 := blk_frozen BK315.out 0; have hfz24_1 := blk_frozen BK315.out 1) | ((with_reducible refine gate_callee (f := 47) rfl ?_); refine goesL_ (some 75) rfl rfl Try.func47 (by kernel_rfl) rfl #[.agg #[.int .i64 t311, .int .i64 t312]] rfl (by (try simp only [List.map_toArray, List.map_cons, List.map_nil]); first | done | rfl | (simp only [List.length_drop, List.length_take]; rfl)) ?_; (with_reducible refine (spec_CountPoints.calls k t311 t312 t323 t324 _ A8.out).mono ?_); rintro e w25 ⟨rfl, hb⟩; refine ⟨_, rfl, ?_⟩; replace BK315 := Aside0.mk (blk_below (g := gb315) (o := .cells #[.int .i64 t311, .int .i64 t312] 38 (0, 0)) (by (with_reducible repeat (first | refine blk_drewN ?_ _ | refine blk_drew ?_ | refine blk_alloc ?_ _)); exact BK315.out) hb); replace BK316 := Aside0.mk (blk_below (g := gb316) (o := .cells #[.int .i64 t313, .int .i64 t314] 40 (0, 0)) (by (with_reducible repeat (first | refine blk_drewN ?_ _ | refine blk_drew ?_ | refine blk_alloc ?_ _)); exact BK316.out) hb); replace HB := Aside0.mk (below_step (by repeat (first | (with_reducible first | exact HB.out | apply below_alloc | apply pw_below_drewN | apply below_drew1 | refine below_set ?_ GE315.out | refine below_set ?_ GE316.out) | exact HB.out)) hb); (try clear hb); have hcz26_0 : w25.cell? ⟨gb315, 0, none⟩ = some (.int .i64 t311) := (blk_cell BK315.out 0).trans rfl; have hcz26_1 : w25.cell? ⟨gb315, 1, none⟩ = some (.int .i64 t312) := (blk_cell BK315.out 1).trans rfl; have hfz26_0 := blk_frozen BK315.out 0; have hfz26_1 := blk_frozen BK315.out 1; have hcz27_0 : w25.cell? ⟨gb316, 0, none⟩ = some (.int .i64 t313) := (blk_cell BK316.out 0).trans rfl; have hcz27_1 : w25.cell? ⟨gb316, 1, none⟩ = some (.int .i64 t314) := (blk_cell BK316.out 1).trans rfl; have hfz27_0 := blk_frozen BK316.out 0; have hfz27_1 := blk_frozen BK316.out 1) | ((with_reducible refine gate_callee (f := 48) rfl ?_); refine goesL_ (some 81) rfl rfl Try.func48 (by kernel_rfl) rfl #[.agg #[.int .i64 t311, .int .i64 t312], .agg #[.int .i64 t313, .int .i64 t314]] rfl (by (try simp only [List.map_toArray, List.map_cons, List.map_nil]); first | done | rfl | (simp only [List.length_drop, List.length_take]; rfl)) ?_; (with_reducible refine (impl_ShortPoint.calls k t311 t312 t313 t314 t325 t326 _ A9.out).mono ?_); rintro e w28 ⟨rfl, hb⟩; refine ⟨_, rfl, ?_⟩; replace BK315 := Aside0.mk (blk_below (g := gb315) (o := .cells #[.int .i64 t311, .int .i64 t312] 38 (0, 0)) (by (with_reducible repeat (first | refine blk_drewN ?_ _ | refine blk_drew ?_ | refine blk_alloc ?_ _)); exact BK315.out) hb); replace BK316 := Aside0.mk (blk_below (g := gb316) (o := .cells #[.int .i64 t313, .int .i64 t314] 40 (0, 0)) (by (with_reducible repeat (first | refine blk_drewN ?_ _ | refine blk_drew ?_ | refine blk_alloc ?_ _)); exact BK316.out) hb); replace HB := Aside0.mk (below_step (by repeat (first | (with_reducible first | exact HB.out | apply below_alloc | apply pw_below_drewN | apply below_drew1 | refine below_set ?_ GE315.out | refine below_set ?_ GE316.out) | exact HB.out)) hb); (try clear hb); have hcz29_0 : w28.cell? ⟨gb315, 0, none⟩ = some (.int .i64 t311) := (blk_cell BK315.out 0).trans rfl; have hcz29_1 : w28.cell? ⟨gb315, 1, none⟩ = some (.int .i64 t312) := (blk_cell BK315.out 1).trans rfl; have hfz29_0 := blk_frozen BK315.out 0; have hfz29_1 := blk_frozen BK315.out 1; have hcz30_0 : w28.cell? ⟨gb316, 0, none⟩ = some (.int .i64 t313) := (blk_cell BK316.out 0).trans rfl; have hcz30_1 : w28.cell? ⟨gb316, 1, none⟩ = some (.int .i64 t314) := (blk_cell BK316.out 1).trans rfl; have hfz30_0 := blk_frozen BK316.out 0; have hfz30_1 := blk_frozen BK316.out 1) | ((with_reducible refine gate_callee (f := 49) rfl ?_); refine goesL_ (some 87) rfl rfl Try.func49 (by kernel_rfl) rfl #[.agg #[.int .i64 t311, .int .i64 t312], .agg #[.int .i64 t313, .int .i64 t314]] rfl (by (try simp only [List.map_toArray, List.map_cons, List.map_nil]); first | done | rfl | (simp only [List.length_drop, List.length_take]; rfl)) ?_; (with_reducible refine (spec_ShortPoint.calls k t311 t312 t313 t314 t327 t328 _ A10.out).mono ?_); rintro e w31 ⟨rfl, hb⟩; refine ⟨_, rfl, ?_⟩; replace BK315 := Aside0.mk (blk_below (g := gb315) (o := .cells #[.int .i64 t311, .int .i64 t312] 38 (0, 0)) (by (with_reducible repeat (first | refine blk_drewN ?_ _ | refine blk_drew ?_ | refine blk_alloc ?_ _)); exact BK315.out) hb); replace BK316 := Aside0.mk (blk_below (g := gb316) (o := .cells #[.int .i64 t313, .int .i64 t314] 40 (0, 0)) (by (with_reducible repeat (first | refine blk_drewN ?_ _ | refine blk_drew ?_ | refine blk_alloc ?_ _)); exact BK316.out) hb); replace HB := Aside0.mk (below_step (by repeat (first | (with_reducible first | exact HB.out | apply below_alloc | apply pw_below_drewN | apply below_drew1 | refine below_set ?_ GE315.out | refine below_set ?_ GE316.out) | exact HB.out)) hb); (try clear hb)))
  (try simp only [Act.put, List.setIfInBounds_toArray, List.set_cons_zero, List.set_cons_succ])
  go_cut [117] (fun v117 wc => ∃ (kq : Nat) (x117_10 : Bool), v117 = .bool x117_10 ∧ Aside0 (laws_FnPoints.j0 kq l1 t317 t318 t321 t322 t325 t326 x117_10 t311 t312 t313 t314 = some r) ∧ Aside0 (kq ≤ k) ∧ Aside0 (wc.heap[gb315]? = some (.cells #[.int .i64 t311, .int .i64 t312] 38 (0, 0))) ∧ Aside0 (wc.heap[gb316]? = some (.cells #[.int .i64 t313, .int .i64 t314] 40 (0, 0))) ∧ Aside0 (Below w.heap.size w wc))
  case first =>
   as_aux_lemma =>
    have H := HC11.out
    clear HC11
    by_cases c32 : (t318 != t320) = true
    ·rw [if_pos c32] at H
     have c32b0 : (t318 != t320) = true := c32
     (try (have c32b1 : decide (t318 = t320) = false := by simpa using c32))
     (try (have c32b2 : (t318 == t320) = false := by simpa using c32))
     (try (have c32b3 : ¬ (t318 = t320) := by simpa using c32))
     clear c32
     (first | rw [c32b0] | (simp only [i64_w, i32_w]; rw [c32b0]) | skip)
     exfalso
     cases k with
     | zero => exact absurd H (by simp [laws_FnPoints.j0])
     | succ kz_ => rw [laws_FnPoints.j0, if_pos rfl] at H; exact absurd ((Option.some.inj H).trans HR_.out) (by decide)
    ·rw [if_neg c32] at H
     have c32b0 : (t318 != t320) = false := by simpa using c32
     (try (have c32b1 : decide (t318 = t320) = true := by simpa using c32))
     (try (have c32b2 : (t318 == t320) = true := by simpa using c32))
     clear c32
     (first | rw [c32b0] | (simp only [i64_w, i32_w]; rw [c32b0]) | skip)
     by_cases c33 : t317 = t319
     ·rw [if_pos c33] at H
      have c33b0 : (t317 == t319) = true := beq_iff_eq.mpr c33
      have c33b1 : (t317 != t319) = false := bne_eq_false_iff_eq.mpr c33
      clear c33
      by_cases c34 : (t322 != t324) = true
      ·rw [if_pos c34] at H
       have c34b0 : (t322 != t324) = true := c34
       (try (have c34b1 : decide (t322 = t324) = false := by simpa using c34))
       (try (have c34b2 : (t322 == t324) = false := by simpa using c34))
       (try (have c34b3 : ¬ (t322 = t324) := by simpa using c34))
       clear c34
       exfalso
       cases k with
       | zero => exact absurd H (by simp [laws_FnPoints.j0])
       | succ kz_ => rw [laws_FnPoints.j0, if_pos rfl] at H; exact absurd ((Option.some.inj H).trans HR_.out) (by decide)
      ·rw [if_neg c34] at H
       have c34b0 : (t322 != t324) = false := by simpa using c34
       (try (have c34b1 : decide (t322 = t324) = true := by simpa using c34))
       (try (have c34b2 : (t322 == t324) = true := by simpa using c34))
       clear c34
       by_cases c35 : t321 = t323
       ·rw [if_pos c35] at H
        have c35b0 : (t321 == t323) = true := beq_iff_eq.mpr c35
        have c35b1 : (t321 != t323) = false := bne_eq_false_iff_eq.mpr c35
        clear c35
        by_cases c36 : (t326 != t328) = true
        ·rw [if_pos c36] at H
         have c36b0 : (t326 != t328) = true := c36
         (try (have c36b1 : decide (t326 = t328) = false := by simpa using c36))
         (try (have c36b2 : (t326 == t328) = false := by simpa using c36))
         (try (have c36b3 : ¬ (t326 = t328) := by simpa using c36))
         clear c36
         exfalso
         cases k with
         | zero => exact absurd H (by simp [laws_FnPoints.j0])
         | succ kz_ => rw [laws_FnPoints.j0, if_pos rfl] at H; exact absurd ((Option.some.inj H).trans HR_.out) (by decide)
        ·rw [if_neg c36] at H
         have c36b0 : (t326 != t328) = false := by simpa using c36
         (try (have c36b1 : decide (t326 = t328) = true := by simpa using c36))
         (try (have c36b2 : (t326 == t328) = true := by simpa using c36))
         clear c36
         as_aux_lemma =>
          have H' := Aside0.mk H
          clear H
          go_wp2
          all_goals (try exact absurd ‹some undef = some (Value.bool _)› (by simp [undef]))
          go_meet
          case rel => exact ⟨_, ((t325 != t327)), (by first | rfl | (simp; done) | (simp [*]; done)), H', ⟨by first | omega | exact Nat.le_refl _⟩, ⟨by (with_reducible repeat (first | refine blk_drewN ?_ _ | refine blk_drew ?_ | refine blk_alloc ?_ _)); exact BK315.out⟩, ⟨by (with_reducible repeat (first | refine blk_drewN ?_ _ | refine blk_drew ?_ | refine blk_alloc ?_ _)); exact BK316.out⟩, ⟨by repeat (first | (with_reducible first | exact HB.out | apply below_alloc | apply pw_below_drewN | apply below_drew1 | refine below_set ?_ GE315.out | refine below_set ?_ GE316.out) | exact HB.out)⟩⟩
       ·rw [if_neg c35] at H
        have c35b0 : (t321 == t323) = false := beq_eq_false_iff_ne.mpr c35
        have c35b1 : (t321 != t323) = true := bne_iff_ne.mpr c35
        exfalso
        cases k with
        | zero => exact absurd H (by simp [laws_FnPoints.j0])
        | succ kz_ => rw [laws_FnPoints.j0, if_pos rfl] at H; exact absurd ((Option.some.inj H).trans HR_.out) (by decide)
     ·rw [if_neg c33] at H
      have c33b0 : (t317 == t319) = false := beq_eq_false_iff_ne.mpr c33
      have c33b1 : (t317 != t319) = true := bne_iff_ne.mpr c33
      exfalso
      cases k with
      | zero => exact absurd H (by simp [laws_FnPoints.j0])
      | succ kz_ => rw [laws_FnPoints.j0, if_pos rfl] at H; exact absurd ((Option.some.inj H).trans HR_.out) (by decide)
  case rest =>
   as_aux_lemma =>
    clear HC11
    try clear c1
    try clear p2
    try clear c3
    try clear c3b0
    try clear c4
    try clear c6
    try clear p6
    try clear c15
    try clear c32
    try clear c32b0
    try clear c32b1
    try clear c32b2
    try clear c33
    try clear c33b0
    try clear c33b1
    try clear c34
    try clear c34b0
    try clear c34b1
    try clear c34b2
    try clear c35
    try clear c35b0
    try clear c35b1
    try clear c36
    try clear c36b0
    try clear c36b1
    try clear c36b2
    try clear hcz16_0
    try clear hcz16_1
    try clear hcz17_0
    try clear hcz17_1
    try clear hcz19_0
    try clear hcz19_1
    try clear hcz20_0
    try clear hcz20_1
    try clear hcz22_0
    try clear hcz22_1
    try clear hcz24_0
    try clear hcz24_1
    try clear hcz26_0
    try clear hcz26_1
    try clear hcz27_0
    try clear hcz27_1
    try clear hcz29_0
    try clear hcz29_1
    try clear hcz30_0
    try clear hcz30_1
    try clear hfz16_0
    try clear hfz16_1
    try clear hfz17_0
    try clear hfz17_1
    try clear hfz19_0
    try clear hfz19_1
    try clear hfz20_0
    try clear hfz20_1
    try clear hfz22_0
    try clear hfz22_1
    try clear hfz24_0
    try clear hfz24_1
    try clear hfz26_0
    try clear hfz26_1
    try clear hfz27_0
    try clear hfz27_1
    try clear hfz29_0
    try clear hfz29_1
    try clear hfz30_0
    try clear hfz30_1
    obtain ⟨kq, x117_10, rfl, HA, HJ10, BK315, BK316, HB⟩ := hcut
    cases kq with
    | zero => exact absurd HA.out (by simp [laws_FnPoints.j0])
    | succ kj10 =>
     have H := HA.out
     clear HA
     simp only [laws_FnPoints.j0] at H
     by_cases c37 : x117_10 = true
     ·subst c37
      have H1 : (some false) = some r := by rw [if_pos rfl] at H; exact H
      clear H
      have H := H1
      clear H1
      exact absurd ((Option.some.inj H).trans HR_.out) (by decide)
     ·replace c37 := Bool.eq_false_iff.mpr c37
      subst c37
      have H1 : (if t322 = true then (if (wrap64 ((wrap64 ((wrap64 (t321 - t311)) - 1)) * (wrap64 ((wrap64 (t321 - t311)) - 1)))) > (wrap64 (4 * t311)) then (some false) else (if (Int.tmod t321 4) = 0 then (laws_FnPoints.j1 kj10 l1 t317 t318 t321 t322 t325 t326 t311 t312 t313 t314) else (some false))) else (laws_FnPoints.j1 kj10 l1 t317 t318 t321 t322 t325 t326 t311 t312 t313 t314)) = some r := by rw [if_neg (show ¬ (false = true) by decide)] at H; exact H
      clear H
      have H := H1
      clear H1
      have HC38 := Aside0.mk H
      clear H
      go_upto_if 118 with (fail)
      go_cut [] (fun wc => ∃ (kq : Nat), Aside0 (laws_FnPoints.j1 kq l1 t317 t318 t321 t322 t325 t326 t311 t312 t313 t314 = some r) ∧ Aside0 (kq ≤ kj10) ∧ Aside0 (wc.heap[gb315]? = some (.cells #[.int .i64 t311, .int .i64 t312] 38 (0, 0))) ∧ Aside0 (wc.heap[gb316]? = some (.cells #[.int .i64 t313, .int .i64 t314] 40 (0, 0))) ∧ Aside0 (Below w.heap.size w wc))
      case first =>
       as_aux_lemma =>
        have H := HC38.out
        clear HC38
        by_cases c39 : t322 = true
        ·subst c39
         have H1 : (if (wrap64 ((wrap64 ((wrap64 (t321 - t311)) - 1)) * (wrap64 ((wrap64 (t321 - t311)) - 1)))) > (wrap64 (4 * t311)) then (some false) else (if (Int.tmod t321 4) = 0 then (laws_FnPoints.j1 kj10 l1 t317 t318 t321 true t325 t326 t311 t312 t313 t314) else (some false))) = some r := by rw [if_pos rfl] at H; exact H
         clear H
         have H := H1
         clear H1
         by_cases c40 : (wrap64 ((wrap64 ((wrap64 (t321 - t311)) - 1)) * (wrap64 ((wrap64 (t321 - t311)) - 1)))) > (wrap64 (4 * t311))
         ·rw [if_pos c40] at H
          have c40b0 : decide ((wrap64 (4 * t311)) < (wrap64 ((wrap64 ((wrap64 (t321 - t311)) - 1)) * (wrap64 ((wrap64 (t321 - t311)) - 1))))) = true := decide_eq_true c40
          clear c40
          (first | rw [c40b0] | (simp only [i64_w, i32_w]; rw [c40b0]) | skip)
          exact absurd ((Option.some.inj H).trans HR_.out) (by decide)
         ·rw [if_neg c40] at H
          have c40b0 : decide ((wrap64 (4 * t311)) < (wrap64 ((wrap64 ((wrap64 (t321 - t311)) - 1)) * (wrap64 ((wrap64 (t321 - t311)) - 1))))) = false := decide_eq_false c40
          clear c40
          (first | rw [c40b0] | (simp only [i64_w, i32_w]; rw [c40b0]) | skip)
          by_cases c41 : (Int.tmod t321 4) = 0
          ·rw [if_pos c41] at H
           have c41b0 : ((Int.tmod t321 4) == 0) = true := beq_iff_eq.mpr c41
           have c41b1 : ((Int.tmod t321 4) != 0) = false := bne_eq_false_iff_eq.mpr c41
           clear c41
           as_aux_lemma =>
            have H' := Aside0.mk H
            clear H
            have hcz43_0 : wc.cell? ⟨gb315, 0, none⟩ = some (.int .i64 t311) := (blk_cell BK315.out 0).trans rfl
            have hcz43_1 : wc.cell? ⟨gb315, 1, none⟩ = some (.int .i64 t312) := (blk_cell BK315.out 1).trans rfl
            have hfz43_0 := blk_frozen BK315.out 0
            have hfz43_1 := blk_frozen BK315.out 1
            go_wp2
            all_goals (try exact absurd ‹some undef = some (Value.bool _)› (by simp [undef]))
            go_meet
            case rel => exact ⟨_, H', ⟨by have := HJ10.out; first | omega | exact Nat.le_refl _⟩, ⟨by (with_reducible repeat (first | refine blk_drewN ?_ _ | refine blk_drew ?_ | refine blk_alloc ?_ _)); exact BK315.out⟩, ⟨by (with_reducible repeat (first | refine blk_drewN ?_ _ | refine blk_drew ?_ | refine blk_alloc ?_ _)); exact BK316.out⟩, ⟨by repeat (first | (with_reducible first | exact HB.out | apply below_alloc | apply pw_below_drewN | apply below_drew1 | refine below_set ?_ GE315.out | refine below_set ?_ GE316.out) | exact HB.out)⟩⟩
          ·rw [if_neg c41] at H
           have c41b0 : ((Int.tmod t321 4) == 0) = false := beq_eq_false_iff_ne.mpr c41
           have c41b1 : ((Int.tmod t321 4) != 0) = true := bne_iff_ne.mpr c41
           exact absurd ((Option.some.inj H).trans HR_.out) (by decide)
        ·replace c39 := Bool.eq_false_iff.mpr c39
         subst c39
         have H1 : (laws_FnPoints.j1 kj10 l1 t317 t318 t321 false t325 t326 t311 t312 t313 t314) = some r := by rw [if_neg (show ¬ (false = true) by decide)] at H; exact H
         clear H
         have H := H1
         clear H1
         as_aux_lemma =>
          have H' := Aside0.mk H
          clear H
          go_wp2
          all_goals (try exact absurd ‹some undef = some (Value.bool _)› (by simp [undef]))
          go_meet
          case rel => exact ⟨_, H', ⟨by have := HJ10.out; first | omega | exact Nat.le_refl _⟩, ⟨by (with_reducible repeat (first | refine blk_drewN ?_ _ | refine blk_drew ?_ | refine blk_alloc ?_ _)); exact BK315.out⟩, ⟨by (with_reducible repeat (first | refine blk_drewN ?_ _ | refine blk_drew ?_ | refine blk_alloc ?_ _)); exact BK316.out⟩, ⟨by repeat (first | (with_reducible first | exact HB.out | apply below_alloc | apply pw_below_drewN | apply below_drew1 | refine below_set ?_ GE315.out | refine below_set ?_ GE316.out) | exact HB.out)⟩⟩
      case rest =>
       as_aux_lemma =>
        clear HC38
        try clear c1
        try clear p2
        try clear c3
        try clear c3b0
        try clear c4
        try clear c6
        try clear p6
        try clear c15
        try clear c32
        try clear c32b0
        try clear c32b1
        try clear c32b2
        try clear c33
        try clear c33b0
        try clear c33b1
        try clear c34
        try clear c34b0
        try clear c34b1
        try clear c34b2
        try clear c35
        try clear c35b0
        try clear c35b1
        try clear c36
        try clear c36b0
        try clear c36b1
        try clear c36b2
        try clear c37
        try clear c39
        try clear c40
        try clear c40b0
        try clear c41
        try clear c41b0
        try clear c41b1
        try clear c42
        try clear c43
        try clear hcz16_0
        try clear hcz16_1
        try clear hcz17_0
        try clear hcz17_1
        try clear hcz19_0
        try clear hcz19_1
        try clear hcz20_0
        try clear hcz20_1
        try clear hcz22_0
        try clear hcz22_1
        try clear hcz24_0
        try clear hcz24_1
        try clear hcz26_0
        try clear hcz26_1
        try clear hcz27_0
        try clear hcz27_1
        try clear hcz29_0
        try clear hcz29_1
        try clear hcz30_0
        try clear hcz30_1
        try clear hcz43_0
        try clear hcz43_1
        try clear hfz16_0
        try clear hfz16_1
        try clear hfz17_0
        try clear hfz17_1
        try clear hfz19_0
        try clear hfz19_1
        try clear hfz20_0
        try clear hfz20_1
        try clear hfz22_0
        try clear hfz22_1
        try clear hfz24_0
        try clear hfz24_1
        try clear hfz26_0
        try clear hfz26_1
        try clear hfz27_0
        try clear hfz27_1
        try clear hfz29_0
        try clear hfz29_1
        try clear hfz30_0
        try clear hfz30_1
        try clear hfz43_0
        try clear hfz43_1
        try clear p2
        try clear p6
        obtain ⟨kq, HA, HJ37, BK315, BK316, HB⟩ := hcut
        cases kq with
        | zero => exact absurd HA.out (by simp [laws_FnPoints.j1])
        | succ kj37 =>
         have H := HA.out
         clear HA
         simp only [laws_FnPoints.j1] at H
         have HC44 := Aside0.mk H
         clear H
         go_upto_if 136 with (fail)
         go_cut [] (fun wc => ∃ (kq : Nat), Aside0 (laws_FnPoints.j2 kq l1 = some r) ∧ Aside0 (kq ≤ kj37) ∧ Aside0 (Below w.heap.size w wc))
         case first =>
          as_aux_lemma =>
           have H := HC44.out
           clear HC44
           by_cases c45 : t318 = true
           ·subst c45
            have H1 : ((impl_ZeroPoint.f kj37 t311 t312).bind fun bt329 => ((impl_TimesPoint.f kj37 t311 t312 t321 t313 t314).bind fun bt333 => ((impl_TimesPoint.f kj37 t311 t312 t317 t313 t314).bind fun bt337 => ((impl_OfShort.f kj37 t311 t312 t325).bind fun bt341 => (if t322 = true then (if t317 = 0 then (none) else (if (Int.tmod t321 t317) = 0 then (if bt329.2.2 = true then (if bt333.2.2 = true then (if (!(bt333.1 == bt329.1) || (!(bt333.2.1 == bt329.2.1))) = true then (some false) else (if bt337.2.2 = true then (if (!(bt337.1 == bt329.1) || (!(bt337.2.1 == bt329.2.1))) = true then (some false) else (if t326 = true then (if bt341.2.2 = true then (if (!(bt341.1 == t313) || (!(bt341.2.1 == t314))) = true then (some false) else (laws_FnPoints.j2 kj37 l1)) else (some false)) else (some false))) else (some false))) else (some false)) else (some false)) else (some false))) else (some false)))))) = some r := by rw [if_pos rfl] at H; exact H
            clear H
            have H := H1
            clear H1
            replace H := Option.bind_eq_some_iff.mp H
            obtain ⟨⟨t329, t330, t331⟩, A460, H⟩ := H
            replace H : ((impl_TimesPoint.f kj37 t311 t312 t321 t313 t314).bind fun bt333 => ((impl_TimesPoint.f kj37 t311 t312 t317 t313 t314).bind fun bt337 => ((impl_OfShort.f kj37 t311 t312 t325).bind fun bt341 => (if t322 = true then (if t317 = 0 then (none) else (if (Int.tmod t321 t317) = 0 then (if t331 = true then (if bt333.2.2 = true then (if (!(bt333.1 == t329) || (!(bt333.2.1 == t330))) = true then (some false) else (if bt337.2.2 = true then (if (!(bt337.1 == t329) || (!(bt337.2.1 == t330))) = true then (some false) else (if t326 = true then (if bt341.2.2 = true then (if (!(bt341.1 == t313) || (!(bt341.2.1 == t314))) = true then (some false) else (laws_FnPoints.j2 kj37 l1)) else (some false)) else (some false))) else (some false))) else (some false)) else (some false)) else (some false))) else (some false))))) = some r := H
            have A46 := Aside0.mk A460
            clear A460
            replace H := Option.bind_eq_some_iff.mp H
            obtain ⟨⟨t333, t334, t335⟩, A470, H⟩ := H
            replace H : ((impl_TimesPoint.f kj37 t311 t312 t317 t313 t314).bind fun bt337 => ((impl_OfShort.f kj37 t311 t312 t325).bind fun bt341 => (if t322 = true then (if t317 = 0 then (none) else (if (Int.tmod t321 t317) = 0 then (if t331 = true then (if t335 = true then (if (!(t333 == t329) || (!(t334 == t330))) = true then (some false) else (if bt337.2.2 = true then (if (!(bt337.1 == t329) || (!(bt337.2.1 == t330))) = true then (some false) else (if t326 = true then (if bt341.2.2 = true then (if (!(bt341.1 == t313) || (!(bt341.2.1 == t314))) = true then (some false) else (laws_FnPoints.j2 kj37 l1)) else (some false)) else (some false))) else (some false))) else (some false)) else (some false)) else (some false))) else (some false)))) = some r := H
            have A47 := Aside0.mk A470
            clear A470
            replace H := Option.bind_eq_some_iff.mp H
            obtain ⟨⟨t337, t338, t339⟩, A480, H⟩ := H
            replace H : ((impl_OfShort.f kj37 t311 t312 t325).bind fun bt341 => (if t322 = true then (if t317 = 0 then (none) else (if (Int.tmod t321 t317) = 0 then (if t331 = true then (if t335 = true then (if (!(t333 == t329) || (!(t334 == t330))) = true then (some false) else (if t339 = true then (if (!(t337 == t329) || (!(t338 == t330))) = true then (some false) else (if t326 = true then (if bt341.2.2 = true then (if (!(bt341.1 == t313) || (!(bt341.2.1 == t314))) = true then (some false) else (laws_FnPoints.j2 kj37 l1)) else (some false)) else (some false))) else (some false))) else (some false)) else (some false)) else (some false))) else (some false))) = some r := H
            have A48 := Aside0.mk A480
            clear A480
            replace H := Option.bind_eq_some_iff.mp H
            obtain ⟨⟨t341, t342, t343⟩, A490, H⟩ := H
            replace H : (if t322 = true then (if t317 = 0 then (none) else (if (Int.tmod t321 t317) = 0 then (if t331 = true then (if t335 = true then (if (!(t333 == t329) || (!(t334 == t330))) = true then (some false) else (if t339 = true then (if (!(t337 == t329) || (!(t338 == t330))) = true then (some false) else (if t326 = true then (if t343 = true then (if (!(t341 == t313) || (!(t342 == t314))) = true then (some false) else (laws_FnPoints.j2 kj37 l1)) else (some false)) else (some false))) else (some false))) else (some false)) else (some false)) else (some false))) else (some false)) = some r := H
            have A49 := Aside0.mk A490
            clear A490
            by_cases c50 : t322 = true
            ·subst c50
             have H1 : (if t317 = 0 then (none) else (if (Int.tmod t321 t317) = 0 then (if t331 = true then (if t335 = true then (if (!(t333 == t329) || (!(t334 == t330))) = true then (some false) else (if t339 = true then (if (!(t337 == t329) || (!(t338 == t330))) = true then (some false) else (if t326 = true then (if t343 = true then (if (!(t341 == t313) || (!(t342 == t314))) = true then (some false) else (laws_FnPoints.j2 kj37 l1)) else (some false)) else (some false))) else (some false))) else (some false)) else (some false)) else (some false))) = some r := by rw [if_pos rfl] at H; exact H
             clear H
             have H := H1
             clear H1
             by_cases c51 : t317 = 0
             ·rw [if_pos c51] at H
              exact absurd H (by simp)
             ·rw [if_neg c51] at H
              have c51b0 : (t317 == 0) = false := beq_eq_false_iff_ne.mpr c51
              have c51b1 : (t317 != 0) = true := bne_iff_ne.mpr c51
              (first | rw [c51b0] | (simp only [i64_w, i32_w]; rw [c51b0]) | skip)
              by_cases c52 : (Int.tmod t321 t317) = 0
              ·rw [if_pos c52] at H
               have c52b0 : ((Int.tmod t321 t317) == 0) = true := beq_iff_eq.mpr c52
               have c52b1 : ((Int.tmod t321 t317) != 0) = false := bne_eq_false_iff_eq.mpr c52
               clear c52
               by_cases c53 : t331 = true
               ·subst c53
                have H1 : (if t335 = true then (if (!(t333 == t329) || (!(t334 == t330))) = true then (some false) else (if t339 = true then (if (!(t337 == t329) || (!(t338 == t330))) = true then (some false) else (if t326 = true then (if t343 = true then (if (!(t341 == t313) || (!(t342 == t314))) = true then (some false) else (laws_FnPoints.j2 kj37 l1)) else (some false)) else (some false))) else (some false))) else (some false)) = some r := by rw [if_pos rfl] at H; exact H
                clear H
                have H := H1
                clear H1
                by_cases c54 : t335 = true
                ·subst c54
                 have H1 : (if (!(t333 == t329) || (!(t334 == t330))) = true then (some false) else (if t339 = true then (if (!(t337 == t329) || (!(t338 == t330))) = true then (some false) else (if t326 = true then (if t343 = true then (if (!(t341 == t313) || (!(t342 == t314))) = true then (some false) else (laws_FnPoints.j2 kj37 l1)) else (some false)) else (some false))) else (some false))) = some r := by rw [if_pos rfl] at H; exact H
                 clear H
                 have H := H1
                 clear H1
                 by_cases c55 : (!(t333 == t329) || (!(t334 == t330))) = true
                 ·rw [if_pos c55] at H
                  have c55b0 : (!(t333 == t329) || (!(t334 == t330))) = true := c55
                  clear c55
                  exact absurd ((Option.some.inj H).trans HR_.out) (by decide)
                 ·rw [if_neg c55] at H
                  have c55b0 : (!(t333 == t329) || (!(t334 == t330))) = false := by simpa using c55
                  clear c55
                  by_cases c56 : t339 = true
                  ·subst c56
                   have H1 : (if (!(t337 == t329) || (!(t338 == t330))) = true then (some false) else (if t326 = true then (if t343 = true then (if (!(t341 == t313) || (!(t342 == t314))) = true then (some false) else (laws_FnPoints.j2 kj37 l1)) else (some false)) else (some false))) = some r := by rw [if_pos rfl] at H; exact H
                   clear H
                   have H := H1
                   clear H1
                   by_cases c57 : (!(t337 == t329) || (!(t338 == t330))) = true
                   ·rw [if_pos c57] at H
                    have c57b0 : (!(t337 == t329) || (!(t338 == t330))) = true := c57
                    clear c57
                    exact absurd ((Option.some.inj H).trans HR_.out) (by decide)
                   ·rw [if_neg c57] at H
                    have c57b0 : (!(t337 == t329) || (!(t338 == t330))) = false := by simpa using c57
                    clear c57
                    by_cases c58 : t326 = true
                    ·subst c58
                     have H1 : (if t343 = true then (if (!(t341 == t313) || (!(t342 == t314))) = true then (some false) else (laws_FnPoints.j2 kj37 l1)) else (some false)) = some r := by rw [if_pos rfl] at H; exact H
                     clear H
                     have H := H1
                     clear H1
                     by_cases c59 : t343 = true
                     ·subst c59
                      have H1 : (if (!(t341 == t313) || (!(t342 == t314))) = true then (some false) else (laws_FnPoints.j2 kj37 l1)) = some r := by rw [if_pos rfl] at H; exact H
                      clear H
                      have H := H1
                      clear H1
                      by_cases c60 : (!(t341 == t313) || (!(t342 == t314))) = true
                      ·rw [if_pos c60] at H
                       have c60b0 : (!(t341 == t313) || (!(t342 == t314))) = true := c60
                       clear c60
                       exact absurd ((Option.some.inj H).trans HR_.out) (by decide)
                      ·rw [if_neg c60] at H
                       have c60b0 : (!(t341 == t313) || (!(t342 == t314))) = false := by simpa using c60
                       clear c60
                       as_aux_lemma =>
                        have H' := Aside0.mk H
                        clear H
                        have hcz62_0 : wc.cell? ⟨gb315, 0, none⟩ = some (.int .i64 t311) := (blk_cell BK315.out 0).trans rfl
                        have hcz62_1 : wc.cell? ⟨gb315, 1, none⟩ = some (.int .i64 t312) := (blk_cell BK315.out 1).trans rfl
                        have hfz62_0 := blk_frozen BK315.out 0
                        have hfz62_1 := blk_frozen BK315.out 1
                        go_wp2_with (first | ((with_reducible refine gate_callee (f := 36) rfl ?_); refine goesL_ (some 139) rfl rfl Try.func36 (by kernel_rfl) rfl #[.agg #[.int .i64 t311, .int .i64 t312]] rfl (by (try simp only [List.map_toArray, List.map_cons, List.map_nil]); first | done | rfl | (simp only [List.length_drop, List.length_take]; rfl)) ?_; (with_reducible refine (impl_ZeroPoint.calls kj37 t311 t312 t329 t330 true _ A46.out).mono ?_); rintro e w63 ⟨rfl, hb⟩; refine ⟨_, rfl, ?_⟩; replace BK315 := Aside0.mk (blk_below (g := gb315) (o := .cells #[.int .i64 t311, .int .i64 t312] 38 (0, 0)) (by (with_reducible repeat (first | refine blk_drewN ?_ _ | refine blk_drew ?_ | refine blk_alloc ?_ _)); exact BK315.out) hb); replace BK316 := Aside0.mk (blk_below (g := gb316) (o := .cells #[.int .i64 t313, .int .i64 t314] 40 (0, 0)) (by (with_reducible repeat (first | refine blk_drewN ?_ _ | refine blk_drew ?_ | refine blk_alloc ?_ _)); exact BK316.out) hb); replace HB := Aside0.mk (below_step (by repeat (first | (with_reducible first | exact HB.out | apply below_alloc | apply pw_below_drewN | apply below_drew1 | refine below_set ?_ GE315.out | refine below_set ?_ GE316.out) | exact HB.out)) hb); (try clear hb)) | ((with_reducible refine gate_dst (N := 20) rfl ?_); refine box_event ?hg (N := 20) ?hd (cs := #[.int .i64 0, .int .i64 0]) (t := 40) ?hr ?_; (case hd => rfl); (case hg => rfl); (case hr => first | (go_simp; done) | (go_simp; rfl)); intro gb332 hg w64 hbox hb; have BK332 := Aside0.mk (hbox); have GW332 := Aside0.mk ((by rw [hg]; exact (below_size (by repeat (first | (with_reducible first | exact HB.out | apply below_alloc | apply pw_below_drewN | apply below_drew1 | refine below_set ?_ GE315.out | refine below_set ?_ GE316.out) | exact HB.out))) : w.heap.size ≤ gb332)); have GE332 := Aside0.mk ((by rw [hg]; exact (below_size (by repeat (first | (with_reducible first | exact HB.out | apply below_alloc | apply pw_below_drewN | apply below_drew1 | refine below_set ?_ GE315.out | refine below_set ?_ GE316.out) | exact HB.out))) : w.heap.size ≤ gb332)); have NB315_332 := Aside0.mk ((by rw [hg]; exact Nat.ne_of_lt (blk_lt (g := gb315) (o := .cells #[.int .i64 t311, .int .i64 t312] 38 (0, 0)) (by (with_reducible repeat (first | refine blk_drewN ?_ _ | refine blk_drew ?_ | refine blk_alloc ?_ _)); exact BK315.out)) : gb315 ≠ gb332)); have NB332_315 := Aside0.mk ((by rw [hg]; exact Nat.ne_of_gt (blk_lt (g := gb315) (o := .cells #[.int .i64 t311, .int .i64 t312] 38 (0, 0)) (by (with_reducible repeat (first | refine blk_drewN ?_ _ | refine blk_drew ?_ | refine blk_alloc ?_ _)); exact BK315.out)) : gb332 ≠ gb315)); have NB316_332 := Aside0.mk ((by rw [hg]; exact Nat.ne_of_lt (blk_lt (g := gb316) (o := .cells #[.int .i64 t313, .int .i64 t314] 40 (0, 0)) (by (with_reducible repeat (first | refine blk_drewN ?_ _ | refine blk_drew ?_ | refine blk_alloc ?_ _)); exact BK316.out)) : gb316 ≠ gb332)); have NB332_316 := Aside0.mk ((by rw [hg]; exact Nat.ne_of_gt (blk_lt (g := gb316) (o := .cells #[.int .i64 t313, .int .i64 t314] 40 (0, 0)) (by (with_reducible repeat (first | refine blk_drewN ?_ _ | refine blk_drew ?_ | refine blk_alloc ?_ _)); exact BK316.out)) : gb332 ≠ gb316)); replace BK315 := Aside0.mk (blk_below (g := gb315) (o := .cells #[.int .i64 t311, .int .i64 t312] 38 (0, 0)) (by (with_reducible repeat (first | refine blk_drewN ?_ _ | refine blk_drew ?_ | refine blk_alloc ?_ _)); exact BK315.out) hb); replace BK316 := Aside0.mk (blk_below (g := gb316) (o := .cells #[.int .i64 t313, .int .i64 t314] 40 (0, 0)) (by (with_reducible repeat (first | refine blk_drewN ?_ _ | refine blk_drew ?_ | refine blk_alloc ?_ _)); exact BK316.out) hb); replace HB := Aside0.mk (below_step (by repeat (first | (with_reducible first | exact HB.out | apply below_alloc | apply pw_below_drewN | apply below_drew1 | refine below_set ?_ GE315.out | refine below_set ?_ GE316.out) | exact HB.out)) hb); clear hb hbox hg; have hnb65 := NB332_315.out; have hnc65 := NB315_332.out; have hnb66 := NB332_316.out; have hnc66 := NB316_332.out; have hcz67_0 : w64.cell? ⟨gb332, 0, none⟩ = some (.int .i64 0) := (blk_cell BK332.out 0).trans rfl; have hcz67_1 : w64.cell? ⟨gb332, 1, none⟩ = some (.int .i64 0) := (blk_cell BK332.out 1).trans rfl; have hfz67_0 := blk_frozen BK332.out 0; have hfz67_1 := blk_frozen BK332.out 1; have hcz68_0 : w64.cell? ⟨gb315, 0, none⟩ = some (.int .i64 t311) := (blk_cell BK315.out 0).trans rfl; have hcz68_1 : w64.cell? ⟨gb315, 1, none⟩ = some (.int .i64 t312) := (blk_cell BK315.out 1).trans rfl; have hfz68_0 := blk_frozen BK315.out 0; have hfz68_1 := blk_frozen BK315.out 1; have hcz69_0 : w64.cell? ⟨gb316, 0, none⟩ = some (.int .i64 t313) := (blk_cell BK316.out 0).trans rfl; have hcz69_1 : w64.cell? ⟨gb316, 1, none⟩ = some (.int .i64 t314) := (blk_cell BK316.out 1).trans rfl; have hfz69_0 := blk_frozen BK316.out 0; have hfz69_1 := blk_frozen BK316.out 1) | ((with_reducible refine gate_callee (f := 38) rfl ?_); refine goesL_ (some 146) rfl rfl Try.func38 (by kernel_rfl) rfl #[.agg #[.int .i64 t311, .int .i64 t312], .int .i64 t321, .agg #[.int .i64 t313, .int .i64 t314]] rfl (by (try simp only [List.map_toArray, List.map_cons, List.map_nil]); first | done | rfl | (simp only [List.length_drop, List.length_take]; rfl)) ?_; (with_reducible refine (impl_TimesPoint.calls kj37 t311 t312 t321 t313 t314 t333 t334 true _ A47.out).mono ?_); rintro e w70 ⟨rfl, hb⟩; refine ⟨_, rfl, ?_⟩; replace BK315 := Aside0.mk (blk_below (g := gb315) (o := .cells #[.int .i64 t311, .int .i64 t312] 38 (0, 0)) (by (with_reducible repeat (first | refine blk_drewN ?_ _ | refine blk_drew ?_ | refine blk_alloc ?_ _)); refine blk_far ?_ NB315_332.out _; (with_reducible repeat (first | refine blk_drewN ?_ _ | refine blk_drew ?_ | refine blk_alloc ?_ _)); refine blk_far ?_ NB315_332.out _; (with_reducible repeat (first | refine blk_drewN ?_ _ | refine blk_drew ?_ | refine blk_alloc ?_ _)); exact BK315.out) hb); replace BK316 := Aside0.mk (blk_below (g := gb316) (o := .cells #[.int .i64 t313, .int .i64 t314] 40 (0, 0)) (by (with_reducible repeat (first | refine blk_drewN ?_ _ | refine blk_drew ?_ | refine blk_alloc ?_ _)); refine blk_far ?_ NB316_332.out _; (with_reducible repeat (first | refine blk_drewN ?_ _ | refine blk_drew ?_ | refine blk_alloc ?_ _)); refine blk_far ?_ NB316_332.out _; (with_reducible repeat (first | refine blk_drewN ?_ _ | refine blk_drew ?_ | refine blk_alloc ?_ _)); exact BK316.out) hb); replace BK332 := Aside0.mk (blk_below (g := gb332) (o := .cells #[.int .i64 t329, .int .i64 t330] 40 (0, 0)) (by (with_reducible repeat (first | refine blk_drewN ?_ _ | refine blk_drew ?_ | refine blk_alloc ?_ _)); refine blk_put (cs := #[.int .i64 t329, .int .i64 0]) ?_ 1 _ rfl; (with_reducible repeat (first | refine blk_drewN ?_ _ | refine blk_drew ?_ | refine blk_alloc ?_ _)); refine blk_put (cs := #[.int .i64 0, .int .i64 0]) ?_ 0 _ rfl; (with_reducible repeat (first | refine blk_drewN ?_ _ | refine blk_drew ?_ | refine blk_alloc ?_ _)); exact BK332.out) hb); replace HB := Aside0.mk (below_step (by repeat (first | (with_reducible first | exact HB.out | apply below_alloc | apply pw_below_drewN | apply below_drew1 | refine below_set ?_ GE315.out | refine below_set ?_ GE316.out | refine below_set ?_ GE332.out) | exact HB.out)) hb); (try clear hb)) | ((with_reducible refine gate_dst (N := 22) rfl ?_); refine box_event ?hg (N := 22) ?hd (cs := #[.int .i64 0, .int .i64 0]) (t := 40) ?hr ?_; (case hd => rfl); (case hg => rfl); (case hr => first | (go_simp; done) | (go_simp; rfl)); intro gb336 hg w71 hbox hb; have BK336 := Aside0.mk (hbox); have GW336 := Aside0.mk ((by rw [hg]; exact (below_size (by repeat (first | (with_reducible first | exact HB.out | apply below_alloc | apply pw_below_drewN | apply below_drew1 | refine below_set ?_ GE315.out | refine below_set ?_ GE316.out | refine below_set ?_ GE332.out) | exact HB.out))) : w.heap.size ≤ gb336)); have GE336 := Aside0.mk ((by rw [hg]; exact (below_size (by repeat (first | (with_reducible first | exact HB.out | apply below_alloc | apply pw_below_drewN | apply below_drew1 | refine below_set ?_ GE315.out | refine below_set ?_ GE316.out | refine below_set ?_ GE332.out) | exact HB.out))) : w.heap.size ≤ gb336)); have NB315_336 := Aside0.mk ((by rw [hg]; exact Nat.ne_of_lt (blk_lt (g := gb315) (o := .cells #[.int .i64 t311, .int .i64 t312] 38 (0, 0)) (by (with_reducible repeat (first | refine blk_drewN ?_ _ | refine blk_drew ?_ | refine blk_alloc ?_ _)); exact BK315.out)) : gb315 ≠ gb336)); have NB336_315 := Aside0.mk ((by rw [hg]; exact Nat.ne_of_gt (blk_lt (g := gb315) (o := .cells #[.int .i64 t311, .int .i64 t312] 38 (0, 0)) (by (with_reducible repeat (first | refine blk_drewN ?_ _ | refine blk_drew ?_ | refine blk_alloc ?_ _)); exact BK315.out)) : gb336 ≠ gb315)); have NB316_336 := Aside0.mk ((by rw [hg]; exact Nat.ne_of_lt (blk_lt (g := gb316) (o := .cells #[.int .i64 t313, .int .i64 t314] 40 (0, 0)) (by (with_reducible repeat (first | refine blk_drewN ?_ _ | refine blk_drew ?_ | refine blk_alloc ?_ _)); exact BK316.out)) : gb316 ≠ gb336)); have NB336_316 := Aside0.mk ((by rw [hg]; exact Nat.ne_of_gt (blk_lt (g := gb316) (o := .cells #[.int .i64 t313, .int .i64 t314] 40 (0, 0)) (by (with_reducible repeat (first | refine blk_drewN ?_ _ | refine blk_drew ?_ | refine blk_alloc ?_ _)); exact BK316.out)) : gb336 ≠ gb316)); have NB332_336 := Aside0.mk ((by rw [hg]; exact Nat.ne_of_lt (blk_lt (g := gb332) (o := .cells #[.int .i64 t329, .int .i64 t330] 40 (0, 0)) (by (with_reducible repeat (first | refine blk_drewN ?_ _ | refine blk_drew ?_ | refine blk_alloc ?_ _)); exact BK332.out)) : gb332 ≠ gb336)); have NB336_332 := Aside0.mk ((by rw [hg]; exact Nat.ne_of_gt (blk_lt (g := gb332) (o := .cells #[.int .i64 t329, .int .i64 t330] 40 (0, 0)) (by (with_reducible repeat (first | refine blk_drewN ?_ _ | refine blk_drew ?_ | refine blk_alloc ?_ _)); exact BK332.out)) : gb336 ≠ gb332)); replace BK315 := Aside0.mk (blk_below (g := gb315) (o := .cells #[.int .i64 t311, .int .i64 t312] 38 (0, 0)) (by (with_reducible repeat (first | refine blk_drewN ?_ _ | refine blk_drew ?_ | refine blk_alloc ?_ _)); exact BK315.out) hb); replace BK316 := Aside0.mk (blk_below (g := gb316) (o := .cells #[.int .i64 t313, .int .i64 t314] 40 (0, 0)) (by (with_reducible repeat (first | refine blk_drewN ?_ _ | refine blk_drew ?_ | refine blk_alloc ?_ _)); exact BK316.out) hb); replace BK332 := Aside0.mk (blk_below (g := gb332) (o := .cells #[.int .i64 t329, .int .i64 t330] 40 (0, 0)) (by (with_reducible repeat (first | refine blk_drewN ?_ _ | refine blk_drew ?_ | refine blk_alloc ?_ _)); exact BK332.out) hb); replace HB := Aside0.mk (below_step (by repeat (first | (with_reducible first | exact HB.out | apply below_alloc | apply pw_below_drewN | apply below_drew1 | refine below_set ?_ GE315.out | refine below_set ?_ GE316.out | refine below_set ?_ GE332.out) | exact HB.out)) hb); clear hb hbox hg; have hnb72 := NB336_315.out; have hnc72 := NB315_336.out; have hnb73 := NB336_316.out; have hnc73 := NB316_336.out; have hnb74 := NB336_332.out; have hnc74 := NB332_336.out; have hcz75_0 : w71.cell? ⟨gb336, 0, none⟩ = some (.int .i64 0) := (blk_cell BK336.out 0).trans rfl; have hcz75_1 : w71.cell? ⟨gb336, 1, none⟩ = some (.int .i64 0) := (blk_cell BK336.out 1).trans rfl; have hfz75_0 := blk_frozen BK336.out 0; have hfz75_1 := blk_frozen BK336.out 1; have hcz76_0 : w71.cell? ⟨gb315, 0, none⟩ = some (.int .i64 t311) := (blk_cell BK315.out 0).trans rfl; have hcz76_1 : w71.cell? ⟨gb315, 1, none⟩ = some (.int .i64 t312) := (blk_cell BK315.out 1).trans rfl; have hfz76_0 := blk_frozen BK315.out 0; have hfz76_1 := blk_frozen BK315.out 1; have hcz77_0 : w71.cell? ⟨gb316, 0, none⟩ = some (.int .i64 t313) := (blk_cell BK316.out 0).trans rfl; have hcz77_1 : w71.cell? ⟨gb316, 1, none⟩ = some (.int .i64 t314) := (blk_cell BK316.out 1).trans rfl; have hfz77_0 := blk_frozen BK316.out 0; have hfz77_1 := blk_frozen BK316.out 1) | ((with_reducible refine gate_callee (f := 38) rfl ?_); refine goesL_ (some 153) rfl rfl Try.func38 (by kernel_rfl) rfl #[.agg #[.int .i64 t311, .int .i64 t312], .int .i64 t317, .agg #[.int .i64 t313, .int .i64 t314]] rfl (by (try simp only [List.map_toArray, List.map_cons, List.map_nil]); first | done | rfl | (simp only [List.length_drop, List.length_take]; rfl)) ?_; (with_reducible refine (impl_TimesPoint.calls kj37 t311 t312 t317 t313 t314 t337 t338 true _ A48.out).mono ?_); rintro e w78 ⟨rfl, hb⟩; refine ⟨_, rfl, ?_⟩; replace BK315 := Aside0.mk (blk_below (g := gb315) (o := .cells #[.int .i64 t311, .int .i64 t312] 38 (0, 0)) (by (with_reducible repeat (first | refine blk_drewN ?_ _ | refine blk_drew ?_ | refine blk_alloc ?_ _)); refine blk_far ?_ NB315_336.out _; (with_reducible repeat (first | refine blk_drewN ?_ _ | refine blk_drew ?_ | refine blk_alloc ?_ _)); refine blk_far ?_ NB315_336.out _; (with_reducible repeat (first | refine blk_drewN ?_ _ | refine blk_drew ?_ | refine blk_alloc ?_ _)); exact BK315.out) hb); replace BK316 := Aside0.mk (blk_below (g := gb316) (o := .cells #[.int .i64 t313, .int .i64 t314] 40 (0, 0)) (by (with_reducible repeat (first | refine blk_drewN ?_ _ | refine blk_drew ?_ | refine blk_alloc ?_ _)); refine blk_far ?_ NB316_336.out _; (with_reducible repeat (first | refine blk_drewN ?_ _ | refine blk_drew ?_ | refine blk_alloc ?_ _)); refine blk_far ?_ NB316_336.out _; (with_reducible repeat (first | refine blk_drewN ?_ _ | refine blk_drew ?_ | refine blk_alloc ?_ _)); exact BK316.out) hb); replace BK332 := Aside0.mk (blk_below (g := gb332) (o := .cells #[.int .i64 t329, .int .i64 t330] 40 (0, 0)) (by (with_reducible repeat (first | refine blk_drewN ?_ _ | refine blk_drew ?_ | refine blk_alloc ?_ _)); refine blk_far ?_ NB332_336.out _; (with_reducible repeat (first | refine blk_drewN ?_ _ | refine blk_drew ?_ | refine blk_alloc ?_ _)); refine blk_far ?_ NB332_336.out _; (with_reducible repeat (first | refine blk_drewN ?_ _ | refine blk_drew ?_ | refine blk_alloc ?_ _)); exact BK332.out) hb); replace BK336 := Aside0.mk (blk_below (g := gb336) (o := .cells #[.int .i64 t333, .int .i64 t334] 40 (0, 0)) (by (with_reducible repeat (first | refine blk_drewN ?_ _ | refine blk_drew ?_ | refine blk_alloc ?_ _)); refine blk_put (cs := #[.int .i64 t333, .int .i64 0]) ?_ 1 _ rfl; (with_reducible repeat (first | refine blk_drewN ?_ _ | refine blk_drew ?_ | refine blk_alloc ?_ _)); refine blk_put (cs := #[.int .i64 0, .int .i64 0]) ?_ 0 _ rfl; (with_reducible repeat (first | refine blk_drewN ?_ _ | refine blk_drew ?_ | refine blk_alloc ?_ _)); exact BK336.out) hb); replace HB := Aside0.mk (below_step (by repeat (first | (with_reducible first | exact HB.out | apply below_alloc | apply pw_below_drewN | apply below_drew1 | refine below_set ?_ GE315.out | refine below_set ?_ GE316.out | refine below_set ?_ GE332.out | refine below_set ?_ GE336.out) | exact HB.out)) hb); (try clear hb)) | ((with_reducible refine gate_dst (N := 24) rfl ?_); refine box_event ?hg (N := 24) ?hd (cs := #[.int .i64 0, .int .i64 0]) (t := 40) ?hr ?_; (case hd => rfl); (case hg => rfl); (case hr => first | (go_simp; done) | (go_simp; rfl)); intro gb340 hg w79 hbox hb; have BK340 := Aside0.mk (hbox); have GW340 := Aside0.mk ((by rw [hg]; exact (below_size (by repeat (first | (with_reducible first | exact HB.out | apply below_alloc | apply pw_below_drewN | apply below_drew1 | refine below_set ?_ GE315.out | refine below_set ?_ GE316.out | refine below_set ?_ GE332.out | refine below_set ?_ GE336.out) | exact HB.out))) : w.heap.size ≤ gb340)); have GE340 := Aside0.mk ((by rw [hg]; exact (below_size (by repeat (first | (with_reducible first | exact HB.out | apply below_alloc | apply pw_below_drewN | apply below_drew1 | refine below_set ?_ GE315.out | refine below_set ?_ GE316.out | refine below_set ?_ GE332.out | refine below_set ?_ GE336.out) | exact HB.out))) : w.heap.size ≤ gb340)); have NB315_340 := Aside0.mk ((by rw [hg]; exact Nat.ne_of_lt (blk_lt (g := gb315) (o := .cells #[.int .i64 t311, .int .i64 t312] 38 (0, 0)) (by (with_reducible repeat (first | refine blk_drewN ?_ _ | refine blk_drew ?_ | refine blk_alloc ?_ _)); exact BK315.out)) : gb315 ≠ gb340)); have NB340_315 := Aside0.mk ((by rw [hg]; exact Nat.ne_of_gt (blk_lt (g := gb315) (o := .cells #[.int .i64 t311, .int .i64 t312] 38 (0, 0)) (by (with_reducible repeat (first | refine blk_drewN ?_ _ | refine blk_drew ?_ | refine blk_alloc ?_ _)); exact BK315.out)) : gb340 ≠ gb315)); have NB316_340 := Aside0.mk ((by rw [hg]; exact Nat.ne_of_lt (blk_lt (g := gb316) (o := .cells #[.int .i64 t313, .int .i64 t314] 40 (0, 0)) (by (with_reducible repeat (first | refine blk_drewN ?_ _ | refine blk_drew ?_ | refine blk_alloc ?_ _)); exact BK316.out)) : gb316 ≠ gb340)); have NB340_316 := Aside0.mk ((by rw [hg]; exact Nat.ne_of_gt (blk_lt (g := gb316) (o := .cells #[.int .i64 t313, .int .i64 t314] 40 (0, 0)) (by (with_reducible repeat (first | refine blk_drewN ?_ _ | refine blk_drew ?_ | refine blk_alloc ?_ _)); exact BK316.out)) : gb340 ≠ gb316)); have NB332_340 := Aside0.mk ((by rw [hg]; exact Nat.ne_of_lt (blk_lt (g := gb332) (o := .cells #[.int .i64 t329, .int .i64 t330] 40 (0, 0)) (by (with_reducible repeat (first | refine blk_drewN ?_ _ | refine blk_drew ?_ | refine blk_alloc ?_ _)); exact BK332.out)) : gb332 ≠ gb340)); have NB340_332 := Aside0.mk ((by rw [hg]; exact Nat.ne_of_gt (blk_lt (g := gb332) (o := .cells #[.int .i64 t329, .int .i64 t330] 40 (0, 0)) (by (with_reducible repeat (first | refine blk_drewN ?_ _ | refine blk_drew ?_ | refine blk_alloc ?_ _)); exact BK332.out)) : gb340 ≠ gb332)); have NB336_340 := Aside0.mk ((by rw [hg]; exact Nat.ne_of_lt (blk_lt (g := gb336) (o := .cells #[.int .i64 t333, .int .i64 t334] 40 (0, 0)) (by (with_reducible repeat (first | refine blk_drewN ?_ _ | refine blk_drew ?_ | refine blk_alloc ?_ _)); exact BK336.out)) : gb336 ≠ gb340)); have NB340_336 := Aside0.mk ((by rw [hg]; exact Nat.ne_of_gt (blk_lt (g := gb336) (o := .cells #[.int .i64 t333, .int .i64 t334] 40 (0, 0)) (by (with_reducible repeat (first | refine blk_drewN ?_ _ | refine blk_drew ?_ | refine blk_alloc ?_ _)); exact BK336.out)) : gb340 ≠ gb336)); replace BK315 := Aside0.mk (blk_below (g := gb315) (o := .cells #[.int .i64 t311, .int .i64 t312] 38 (0, 0)) (by (with_reducible repeat (first | refine blk_drewN ?_ _ | refine blk_drew ?_ | refine blk_alloc ?_ _)); exact BK315.out) hb); replace BK316 := Aside0.mk (blk_below (g := gb316) (o := .cells #[.int .i64 t313, .int .i64 t314] 40 (0, 0)) (by (with_reducible repeat (first | refine blk_drewN ?_ _ | refine blk_drew ?_ | refine blk_alloc ?_ _)); exact BK316.out) hb); replace BK332 := Aside0.mk (blk_below (g := gb332) (o := .cells #[.int .i64 t329, .int .i64 t330] 40 (0, 0)) (by (with_reducible repeat (first | refine blk_drewN ?_ _ | refine blk_drew ?_ | refine blk_alloc ?_ _)); exact BK332.out) hb); replace BK336 := Aside0.mk (blk_below (g := gb336) (o := .cells #[.int .i64 t333, .int .i64 t334] 40 (0, 0)) (by (with_reducible repeat (first | refine blk_drewN ?_ _ | refine blk_drew ?_ | refine blk_alloc ?_ _)); exact BK336.out) hb); replace HB := Aside0.mk (below_step (by repeat (first | (with_reducible first | exact HB.out | apply below_alloc | apply pw_below_drewN | apply below_drew1 | refine below_set ?_ GE315.out | refine below_set ?_ GE316.out | refine below_set ?_ GE332.out | refine below_set ?_ GE336.out) | exact HB.out)) hb); clear hb hbox hg; have hnb80 := NB340_315.out; have hnc80 := NB315_340.out; have hnb81 := NB340_316.out; have hnc81 := NB316_340.out; have hnb82 := NB340_332.out; have hnc82 := NB332_340.out; have hnb83 := NB340_336.out; have hnc83 := NB336_340.out; have hcz84_0 : w79.cell? ⟨gb340, 0, none⟩ = some (.int .i64 0) := (blk_cell BK340.out 0).trans rfl; have hcz84_1 : w79.cell? ⟨gb340, 1, none⟩ = some (.int .i64 0) := (blk_cell BK340.out 1).trans rfl; have hfz84_0 := blk_frozen BK340.out 0; have hfz84_1 := blk_frozen BK340.out 1; have hcz85_0 : w79.cell? ⟨gb315, 0, none⟩ = some (.int .i64 t311) := (blk_cell BK315.out 0).trans rfl; have hcz85_1 : w79.cell? ⟨gb315, 1, none⟩ = some (.int .i64 t312) := (blk_cell BK315.out 1).trans rfl; have hfz85_0 := blk_frozen BK315.out 0; have hfz85_1 := blk_frozen BK315.out 1) | ((with_reducible refine gate_callee (f := 50) rfl ?_); refine goesL_ (some 159) rfl rfl Try.func50 (by kernel_rfl) rfl #[.agg #[.int .i64 t311, .int .i64 t312], .int .i64 t325] rfl (by (try simp only [List.map_toArray, List.map_cons, List.map_nil]); first | done | rfl | (simp only [List.length_drop, List.length_take]; rfl)) ?_; (with_reducible refine (impl_OfShort.calls kj37 t311 t312 t325 t341 t342 true _ A49.out).mono ?_); rintro e w86 ⟨rfl, hb⟩; refine ⟨_, rfl, ?_⟩; replace BK315 := Aside0.mk (blk_below (g := gb315) (o := .cells #[.int .i64 t311, .int .i64 t312] 38 (0, 0)) (by (with_reducible repeat (first | refine blk_drewN ?_ _ | refine blk_drew ?_ | refine blk_alloc ?_ _)); refine blk_far ?_ NB315_340.out _; (with_reducible repeat (first | refine blk_drewN ?_ _ | refine blk_drew ?_ | refine blk_alloc ?_ _)); refine blk_far ?_ NB315_340.out _; (with_reducible repeat (first | refine blk_drewN ?_ _ | refine blk_drew ?_ | refine blk_alloc ?_ _)); exact BK315.out) hb); replace BK316 := Aside0.mk (blk_below (g := gb316) (o := .cells #[.int .i64 t313, .int .i64 t314] 40 (0, 0)) (by (with_reducible repeat (first | refine blk_drewN ?_ _ | refine blk_drew ?_ | refine blk_alloc ?_ _)); refine blk_far ?_ NB316_340.out _; (with_reducible repeat (first | refine blk_drewN ?_ _ | refine blk_drew ?_ | refine blk_alloc ?_ _)); refine blk_far ?_ NB316_340.out _; (with_reducible repeat (first | refine blk_drewN ?_ _ | refine blk_drew ?_ | refine blk_alloc ?_ _)); exact BK316.out) hb); replace BK332 := Aside0.mk (blk_below (g := gb332) (o := .cells #[.int .i64 t329, .int .i64 t330] 40 (0, 0)) (by (with_reducible repeat (first | refine blk_drewN ?_ _ | refine blk_drew ?_ | refine blk_alloc ?_ _)); refine blk_far ?_ NB332_340.out _; (with_reducible repeat (first | refine blk_drewN ?_ _ | refine blk_drew ?_ | refine blk_alloc ?_ _)); refine blk_far ?_ NB332_340.out _; (with_reducible repeat (first | refine blk_drewN ?_ _ | refine blk_drew ?_ | refine blk_alloc ?_ _)); exact BK332.out) hb); replace BK336 := Aside0.mk (blk_below (g := gb336) (o := .cells #[.int .i64 t333, .int .i64 t334] 40 (0, 0)) (by (with_reducible repeat (first | refine blk_drewN ?_ _ | refine blk_drew ?_ | refine blk_alloc ?_ _)); refine blk_far ?_ NB336_340.out _; (with_reducible repeat (first | refine blk_drewN ?_ _ | refine blk_drew ?_ | refine blk_alloc ?_ _)); refine blk_far ?_ NB336_340.out _; (with_reducible repeat (first | refine blk_drewN ?_ _ | refine blk_drew ?_ | refine blk_alloc ?_ _)); exact BK336.out) hb); replace BK340 := Aside0.mk (blk_below (g := gb340) (o := .cells #[.int .i64 t337, .int .i64 t338] 40 (0, 0)) (by (with_reducible repeat (first | refine blk_drewN ?_ _ | refine blk_drew ?_ | refine blk_alloc ?_ _)); refine blk_put (cs := #[.int .i64 t337, .int .i64 0]) ?_ 1 _ rfl; (with_reducible repeat (first | refine blk_drewN ?_ _ | refine blk_drew ?_ | refine blk_alloc ?_ _)); refine blk_put (cs := #[.int .i64 0, .int .i64 0]) ?_ 0 _ rfl; (with_reducible repeat (first | refine blk_drewN ?_ _ | refine blk_drew ?_ | refine blk_alloc ?_ _)); exact BK340.out) hb); replace HB := Aside0.mk (below_step (by repeat (first | (with_reducible first | exact HB.out | apply below_alloc | apply pw_below_drewN | apply below_drew1 | refine below_set ?_ GE315.out | refine below_set ?_ GE316.out | refine below_set ?_ GE332.out | refine below_set ?_ GE336.out | refine below_set ?_ GE340.out) | exact HB.out)) hb); (try clear hb)) | ((with_reducible refine gate_dst (N := 26) rfl ?_); refine box_event ?hg (N := 26) ?hd (cs := #[.int .i64 0, .int .i64 0]) (t := 40) ?hr ?_; (case hd => rfl); (case hg => rfl); (case hr => first | (go_simp; done) | (go_simp; rfl)); intro gb344 hg w87 hbox hb; have BK344 := Aside0.mk (hbox); have GW344 := Aside0.mk ((by rw [hg]; exact (below_size (by repeat (first | (with_reducible first | exact HB.out | apply below_alloc | apply pw_below_drewN | apply below_drew1 | refine below_set ?_ GE315.out | refine below_set ?_ GE316.out | refine below_set ?_ GE332.out | refine below_set ?_ GE336.out | refine below_set ?_ GE340.out) | exact HB.out))) : w.heap.size ≤ gb344)); have GE344 := Aside0.mk ((by rw [hg]; exact (below_size (by repeat (first | (with_reducible first | exact HB.out | apply below_alloc | apply pw_below_drewN | apply below_drew1 | refine below_set ?_ GE315.out | refine below_set ?_ GE316.out | refine below_set ?_ GE332.out | refine below_set ?_ GE336.out | refine below_set ?_ GE340.out) | exact HB.out))) : w.heap.size ≤ gb344)); have NB315_344 := Aside0.mk ((by rw [hg]; exact Nat.ne_of_lt (blk_lt (g := gb315) (o := .cells #[.int .i64 t311, .int .i64 t312] 38 (0, 0)) (by (with_reducible repeat (first | refine blk_drewN ?_ _ | refine blk_drew ?_ | refine blk_alloc ?_ _)); exact BK315.out)) : gb315 ≠ gb344)); have NB344_315 := Aside0.mk ((by rw [hg]; exact Nat.ne_of_gt (blk_lt (g := gb315) (o := .cells #[.int .i64 t311, .int .i64 t312] 38 (0, 0)) (by (with_reducible repeat (first | refine blk_drewN ?_ _ | refine blk_drew ?_ | refine blk_alloc ?_ _)); exact BK315.out)) : gb344 ≠ gb315)); have NB316_344 := Aside0.mk ((by rw [hg]; exact Nat.ne_of_lt (blk_lt (g := gb316) (o := .cells #[.int .i64 t313, .int .i64 t314] 40 (0, 0)) (by (with_reducible repeat (first | refine blk_drewN ?_ _ | refine blk_drew ?_ | refine blk_alloc ?_ _)); exact BK316.out)) : gb316 ≠ gb344)); have NB344_316 := Aside0.mk ((by rw [hg]; exact Nat.ne_of_gt (blk_lt (g := gb316) (o := .cells #[.int .i64 t313, .int .i64 t314] 40 (0, 0)) (by (with_reducible repeat (first | refine blk_drewN ?_ _ | refine blk_drew ?_ | refine blk_alloc ?_ _)); exact BK316.out)) : gb344 ≠ gb316)); have NB332_344 := Aside0.mk ((by rw [hg]; exact Nat.ne_of_lt (blk_lt (g := gb332) (o := .cells #[.int .i64 t329, .int .i64 t330] 40 (0, 0)) (by (with_reducible repeat (first | refine blk_drewN ?_ _ | refine blk_drew ?_ | refine blk_alloc ?_ _)); exact BK332.out)) : gb332 ≠ gb344)); have NB344_332 := Aside0.mk ((by rw [hg]; exact Nat.ne_of_gt (blk_lt (g := gb332) (o := .cells #[.int .i64 t329, .int .i64 t330] 40 (0, 0)) (by (with_reducible repeat (first | refine blk_drewN ?_ _ | refine blk_drew ?_ | refine blk_alloc ?_ _)); exact BK332.out)) : gb344 ≠ gb332)); have NB336_344 := Aside0.mk ((by rw [hg]; exact Nat.ne_of_lt (blk_lt (g := gb336) (o := .cells #[.int .i64 t333, .int .i64 t334] 40 (0, 0)) (by (with_reducible repeat (first | refine blk_drewN ?_ _ | refine blk_drew ?_ | refine blk_alloc ?_ _)); exact BK336.out)) : gb336 ≠ gb344)); have NB344_336 := Aside0.mk ((by rw [hg]; exact Nat.ne_of_gt (blk_lt (g := gb336) (o := .cells #[.int .i64 t333, .int .i64 t334] 40 (0, 0)) (by (with_reducible repeat (first | refine blk_drewN ?_ _ | refine blk_drew ?_ | refine blk_alloc ?_ _)); exact BK336.out)) : gb344 ≠ gb336)); have NB340_344 := Aside0.mk ((by rw [hg]; exact Nat.ne_of_lt (blk_lt (g := gb340) (o := .cells #[.int .i64 t337, .int .i64 t338] 40 (0, 0)) (by (with_reducible repeat (first | refine blk_drewN ?_ _ | refine blk_drew ?_ | refine blk_alloc ?_ _)); exact BK340.out)) : gb340 ≠ gb344)); have NB344_340 := Aside0.mk ((by rw [hg]; exact Nat.ne_of_gt (blk_lt (g := gb340) (o := .cells #[.int .i64 t337, .int .i64 t338] 40 (0, 0)) (by (with_reducible repeat (first | refine blk_drewN ?_ _ | refine blk_drew ?_ | refine blk_alloc ?_ _)); exact BK340.out)) : gb344 ≠ gb340)); replace BK315 := Aside0.mk (blk_below (g := gb315) (o := .cells #[.int .i64 t311, .int .i64 t312] 38 (0, 0)) (by (with_reducible repeat (first | refine blk_drewN ?_ _ | refine blk_drew ?_ | refine blk_alloc ?_ _)); exact BK315.out) hb); replace BK316 := Aside0.mk (blk_below (g := gb316) (o := .cells #[.int .i64 t313, .int .i64 t314] 40 (0, 0)) (by (with_reducible repeat (first | refine blk_drewN ?_ _ | refine blk_drew ?_ | refine blk_alloc ?_ _)); exact BK316.out) hb); replace BK332 := Aside0.mk (blk_below (g := gb332) (o := .cells #[.int .i64 t329, .int .i64 t330] 40 (0, 0)) (by (with_reducible repeat (first | refine blk_drewN ?_ _ | refine blk_drew ?_ | refine blk_alloc ?_ _)); exact BK332.out) hb); replace BK336 := Aside0.mk (blk_below (g := gb336) (o := .cells #[.int .i64 t333, .int .i64 t334] 40 (0, 0)) (by (with_reducible repeat (first | refine blk_drewN ?_ _ | refine blk_drew ?_ | refine blk_alloc ?_ _)); exact BK336.out) hb); replace BK340 := Aside0.mk (blk_below (g := gb340) (o := .cells #[.int .i64 t337, .int .i64 t338] 40 (0, 0)) (by (with_reducible repeat (first | refine blk_drewN ?_ _ | refine blk_drew ?_ | refine blk_alloc ?_ _)); exact BK340.out) hb); replace HB := Aside0.mk (below_step (by repeat (first | (with_reducible first | exact HB.out | apply below_alloc | apply pw_below_drewN | apply below_drew1 | refine below_set ?_ GE315.out | refine below_set ?_ GE316.out | refine below_set ?_ GE332.out | refine below_set ?_ GE336.out | refine below_set ?_ GE340.out) | exact HB.out)) hb); clear hb hbox hg; have hnb88 := NB344_315.out; have hnc88 := NB315_344.out; have hnb89 := NB344_316.out; have hnc89 := NB316_344.out; have hnb90 := NB344_332.out; have hnc90 := NB332_344.out; have hnb91 := NB344_336.out; have hnc91 := NB336_344.out; have hnb92 := NB344_340.out; have hnc92 := NB340_344.out; have hcz93_0 : w87.cell? ⟨gb344, 0, none⟩ = some (.int .i64 0) := (blk_cell BK344.out 0).trans rfl; have hcz93_1 : w87.cell? ⟨gb344, 1, none⟩ = some (.int .i64 0) := (blk_cell BK344.out 1).trans rfl; have hfz93_0 := blk_frozen BK344.out 0; have hfz93_1 := blk_frozen BK344.out 1; have hcz94_0 : w87.cell? ⟨gb336, 0, none⟩ = some (.int .i64 t333) := (blk_cell BK336.out 0).trans rfl; have hcz94_1 : w87.cell? ⟨gb336, 1, none⟩ = some (.int .i64 t334) := (blk_cell BK336.out 1).trans rfl; have hfz94_0 := blk_frozen BK336.out 0; have hfz94_1 := blk_frozen BK336.out 1; have hcz95_0 : w87.cell? ⟨gb332, 0, none⟩ = some (.int .i64 t329) := (blk_cell BK332.out 0).trans rfl; have hcz95_1 : w87.cell? ⟨gb332, 1, none⟩ = some (.int .i64 t330) := (blk_cell BK332.out 1).trans rfl; have hfz95_0 := blk_frozen BK332.out 0; have hfz95_1 := blk_frozen BK332.out 1; have hcz96_0 : w87.cell? ⟨gb340, 0, none⟩ = some (.int .i64 t337) := (blk_cell BK340.out 0).trans rfl; have hcz96_1 : w87.cell? ⟨gb340, 1, none⟩ = some (.int .i64 t338) := (blk_cell BK340.out 1).trans rfl; have hfz96_0 := blk_frozen BK340.out 0; have hfz96_1 := blk_frozen BK340.out 1; have hcz97_0 : w87.cell? ⟨gb316, 0, none⟩ = some (.int .i64 t313) := (blk_cell BK316.out 0).trans rfl; have hcz97_1 : w87.cell? ⟨gb316, 1, none⟩ = some (.int .i64 t314) := (blk_cell BK316.out 1).trans rfl; have hfz97_0 := blk_frozen BK316.out 0; have hfz97_1 := blk_frozen BK316.out 1))
                        all_goals (try exact absurd ‹some undef = some (Value.bool _)› (by simp [undef]))
                        go_meet
                        case rel => exact ⟨_, H', ⟨by have := HJ10.out; have := HJ37.out; first | omega | exact Nat.le_refl _⟩, ⟨by repeat (first | (with_reducible first | exact HB.out | apply below_alloc | apply pw_below_drewN | apply below_drew1 | refine below_set ?_ GE315.out | refine below_set ?_ GE316.out | refine below_set ?_ GE332.out | refine below_set ?_ GE336.out | refine below_set ?_ GE340.out | refine below_set ?_ GE344.out) | exact HB.out)⟩⟩
                     ·replace c59 := Bool.eq_false_iff.mpr c59
                      subst c59
                      have H1 : (some false) = some r := by rw [if_neg (show ¬ (false = true) by decide)] at H; exact H
                      clear H
                      have H := H1
                      clear H1
                      exact absurd ((Option.some.inj H).trans HR_.out) (by decide)
                    ·replace c58 := Bool.eq_false_iff.mpr c58
                     subst c58
                     have H1 : (some false) = some r := by rw [if_neg (show ¬ (false = true) by decide)] at H; exact H
                     clear H
                     have H := H1
                     clear H1
                     exact absurd ((Option.some.inj H).trans HR_.out) (by decide)
                  ·replace c56 := Bool.eq_false_iff.mpr c56
                   subst c56
                   have H1 : (some false) = some r := by rw [if_neg (show ¬ (false = true) by decide)] at H; exact H
                   clear H
                   have H := H1
                   clear H1
                   exact absurd ((Option.some.inj H).trans HR_.out) (by decide)
                ·replace c54 := Bool.eq_false_iff.mpr c54
                 subst c54
                 have H1 : (some false) = some r := by rw [if_neg (show ¬ (false = true) by decide)] at H; exact H
                 clear H
                 have H := H1
                 clear H1
                 exact absurd ((Option.some.inj H).trans HR_.out) (by decide)
               ·replace c53 := Bool.eq_false_iff.mpr c53
                subst c53
                have H1 : (some false) = some r := by rw [if_neg (show ¬ (false = true) by decide)] at H; exact H
                clear H
                have H := H1
                clear H1
                exact absurd ((Option.some.inj H).trans HR_.out) (by decide)
              ·rw [if_neg c52] at H
               have c52b0 : ((Int.tmod t321 t317) == 0) = false := beq_eq_false_iff_ne.mpr c52
               have c52b1 : ((Int.tmod t321 t317) != 0) = true := bne_iff_ne.mpr c52
               exact absurd ((Option.some.inj H).trans HR_.out) (by decide)
            ·replace c50 := Bool.eq_false_iff.mpr c50
             subst c50
             have H1 : (some false) = some r := by rw [if_neg (show ¬ (false = true) by decide)] at H; exact H
             clear H
             have H := H1
             clear H1
             exact absurd ((Option.some.inj H).trans HR_.out) (by decide)
           ·replace c45 := Bool.eq_false_iff.mpr c45
            subst c45
            have H1 : (laws_FnPoints.j2 kj37 l1) = some r := by rw [if_neg (show ¬ (false = true) by decide)] at H; exact H
            clear H
            have H := H1
            clear H1
            as_aux_lemma =>
             have H' := Aside0.mk H
             clear H
             go_wp2
             all_goals (try exact absurd ‹some undef = some (Value.bool _)› (by simp [undef]))
             go_meet
             case rel => exact ⟨_, H', ⟨by have := HJ10.out; have := HJ37.out; first | omega | exact Nat.le_refl _⟩, ⟨by repeat (first | (with_reducible first | exact HB.out | apply below_alloc | apply pw_below_drewN | apply below_drew1 | refine below_set ?_ GE315.out | refine below_set ?_ GE316.out) | exact HB.out)⟩⟩
         case rest =>
          as_aux_lemma =>
           clear HC44
           try clear c1
           try clear p2
           try clear c3
           try clear c3b0
           try clear c4
           try clear c5
           try clear c6
           try clear p6
           try clear c7
           try clear c8
           try clear c9
           try clear c15
           try clear c32
           try clear c32b0
           try clear c32b1
           try clear c32b2
           try clear c33
           try clear c33b0
           try clear c33b1
           try clear c34
           try clear c34b0
           try clear c34b1
           try clear c34b2
           try clear c35
           try clear c35b0
           try clear c35b1
           try clear c36
           try clear c36b0
           try clear c36b1
           try clear c36b2
           try clear c37
           try clear c38
           try clear c39
           try clear c40
           try clear c40b0
           try clear c41
           try clear c41b0
           try clear c41b1
           try clear c42
           try clear c43
           try clear c44
           try clear c45
           try clear c46
           try clear c47
           try clear c48
           try clear c49
           try clear c50
           try clear c51
           try clear c51b0
           try clear c51b1
           try clear c52
           try clear c52b0
           try clear c52b1
           try clear c53
           try clear c54
           try clear c55
           try clear c55b0
           try clear c56
           try clear c57
           try clear c57b0
           try clear c58
           try clear c59
           try clear c60
           try clear c60b0
           try clear c61
           try clear p64
           try clear c65
           try clear c66
           try clear c72
           try clear c73
           try clear c74
           try clear c80
           try clear c81
           try clear c82
           try clear c83
           try clear c88
           try clear c89
           try clear c90
           try clear c91
           try clear c92
           try clear hcz16_0
           try clear hcz16_1
           try clear hcz17_0
           try clear hcz17_1
           try clear hcz19_0
           try clear hcz19_1
           try clear hcz20_0
           try clear hcz20_1
           try clear hcz22_0
           try clear hcz22_1
           try clear hcz24_0
           try clear hcz24_1
           try clear hcz26_0
           try clear hcz26_1
           try clear hcz27_0
           try clear hcz27_1
           try clear hcz29_0
           try clear hcz29_1
           try clear hcz30_0
           try clear hcz30_1
           try clear hcz43_0
           try clear hcz43_1
           try clear hcz62_0
           try clear hcz62_1
           try clear hcz67_0
           try clear hcz67_1
           try clear hcz68_0
           try clear hcz68_1
           try clear hcz69_0
           try clear hcz69_1
           try clear hcz75_0
           try clear hcz75_1
           try clear hcz76_0
           try clear hcz76_1
           try clear hcz77_0
           try clear hcz77_1
           try clear hcz84_0
           try clear hcz84_1
           try clear hcz85_0
           try clear hcz85_1
           try clear hcz93_0
           try clear hcz93_1
           try clear hcz94_0
           try clear hcz94_1
           try clear hcz95_0
           try clear hcz95_1
           try clear hcz96_0
           try clear hcz96_1
           try clear hcz97_0
           try clear hcz97_1
           try clear hfz16_0
           try clear hfz16_1
           try clear hfz17_0
           try clear hfz17_1
           try clear hfz19_0
           try clear hfz19_1
           try clear hfz20_0
           try clear hfz20_1
           try clear hfz22_0
           try clear hfz22_1
           try clear hfz24_0
           try clear hfz24_1
           try clear hfz26_0
           try clear hfz26_1
           try clear hfz27_0
           try clear hfz27_1
           try clear hfz29_0
           try clear hfz29_1
           try clear hfz30_0
           try clear hfz30_1
           try clear hfz43_0
           try clear hfz43_1
           try clear hfz62_0
           try clear hfz62_1
           try clear hfz67_0
           try clear hfz67_1
           try clear hfz68_0
           try clear hfz68_1
           try clear hfz69_0
           try clear hfz69_1
           try clear hfz75_0
           try clear hfz75_1
           try clear hfz76_0
           try clear hfz76_1
           try clear hfz77_0
           try clear hfz77_1
           try clear hfz84_0
           try clear hfz84_1
           try clear hfz85_0
           try clear hfz85_1
           try clear hfz93_0
           try clear hfz93_1
           try clear hfz94_0
           try clear hfz94_1
           try clear hfz95_0
           try clear hfz95_1
           try clear hfz96_0
           try clear hfz96_1
           try clear hfz97_0
           try clear hfz97_1
           try clear p2
           try clear p6
           obtain ⟨kq, HA, HJ43, HB⟩ := hcut
           cases kq with
           | zero => exact absurd HA.out (by simp [laws_FnPoints.j2])
           | succ kj43 =>
            have H := HA.out
            clear HA
            simp only [laws_FnPoints.j2] at H
            replace H := Option.bind_eq_some_iff.mp H
            obtain ⟨⟨t345, t346, t347, t348, t349⟩, A980, H⟩ := H
            replace H : ((impl_TimesPoint.f kj43 t345 t346 t347 t348 t349).bind fun bt352 => ((spec_TimesPoint.f kj43 t345 t346 t347 t348 t349).bind fun bt356 => (if (bt352.2.2 != bt356.2.2) = true then (laws_FnPoints.j3 kj43 l1 t347 bt352.2.2 true t345 t346 t348 t349 bt352.1 bt352.2.1) else (laws_FnPoints.j3 kj43 l1 t347 bt352.2.2 (!(bt352.1 == bt356.1) || (!(bt352.2.1 == bt356.2.1))) t345 t346 t348 t349 bt352.1 bt352.2.1)))) = some r := H
            have A98 := Aside0.mk A980
            clear A980
            replace H := Option.bind_eq_some_iff.mp H
            obtain ⟨⟨t352, t353, t354⟩, A990, H⟩ := H
            replace H : ((spec_TimesPoint.f kj43 t345 t346 t347 t348 t349).bind fun bt356 => (if (t354 != bt356.2.2) = true then (laws_FnPoints.j3 kj43 l1 t347 t354 true t345 t346 t348 t349 t352 t353) else (laws_FnPoints.j3 kj43 l1 t347 t354 (!(t352 == bt356.1) || (!(t353 == bt356.2.1))) t345 t346 t348 t349 t352 t353))) = some r := H
            have A99 := Aside0.mk A990
            clear A990
            replace H := Option.bind_eq_some_iff.mp H
            obtain ⟨⟨t356, t357, t358⟩, A1000, H⟩ := H
            replace H : (if (t354 != t358) = true then (laws_FnPoints.j3 kj43 l1 t347 t354 true t345 t346 t348 t349 t352 t353) else (laws_FnPoints.j3 kj43 l1 t347 t354 (!(t352 == t356) || (!(t353 == t357))) t345 t346 t348 t349 t352 t353)) = some r := H
            have A100 := Aside0.mk A1000
            clear A1000
            have HC101 := Aside0.mk H
            clear H
            go_upto_region 26 with (first | ((with_reducible refine gate_callee (f := 51) rfl ?_); refine goesL_ (some 207) rfl rfl Try.func51 (by kernel_rfl) rfl #[.slice A1 l1.length c1] rfl (by (try simp only [List.map_toArray, List.map_cons, List.map_nil]); first | done | rfl | (simp only [List.length_drop, List.length_take]; rfl)) ?_; (with_reducible refine (spec_DrawTimesPoint.calls kj43 _ _ l1 t345 t346 t347 t348 t349 _ ?side1 ?side2 A98.out).mono ?_); (case side1 => repeat (first | exact (Kd.C_below HR1.out HB.out) | (with_reducible refine Kd.C_alloc ?_ _) | (with_reducible refine Kd.C_drewN ?_ _) | (with_reducible refine Kd.C_drew ?_))); (case side2 => exact HC1.out); rintro e w102 ⟨rfl, hb⟩; refine ⟨_, rfl, ?_⟩; replace HB := bS_ HB hb; (try clear hb)) | ((with_reducible refine gate_dst (N := 28) rfl ?_); refine box_event ?hg (N := 28) ?hd (cs := #[.int .i64 0, .int .i64 0]) (t := 38) ?hr ?_; (case hd => rfl); (case hg => rfl); (case hr => first | (go_simp; done) | (go_simp; rfl)); intro gb350 hg w103 hbox hb; have BK350 := Aside0.mk (hbox); have GW350 := Aside0.mk ((by rw [hg]; exact (below_size (bU_ HB)) : w.heap.size ≤ gb350)); have GE350 := Aside0.mk ((by rw [hg]; exact (below_size (bU_ HB)) : w.heap.size ≤ gb350)); replace HB := bS_ HB hb; clear hb hbox hg) | ((with_reducible refine gate_dst (N := 30) rfl ?_); refine box_event ?hg (N := 30) ?hd (cs := #[.int .i64 0, .int .i64 0]) (t := 40) ?hr ?_; (case hd => rfl); (case hg => rfl); (case hr => first | (go_simp; done) | (go_simp; rfl)); intro gb351 hg w104 hbox hb; have BK351 := Aside0.mk (hbox); have GW351 := Aside0.mk ((by rw [hg]; exact (below_size (by repeat (first | (with_reducible first | exact HB.out | apply below_alloc | apply pw_below_drewN | apply below_drew1 | refine below_set ?_ GE350.out) | exact HB.out))) : w.heap.size ≤ gb351)); have GE351 := Aside0.mk ((by rw [hg]; exact (below_size (by repeat (first | (with_reducible first | exact HB.out | apply below_alloc | apply pw_below_drewN | apply below_drew1 | refine below_set ?_ GE350.out) | exact HB.out))) : w.heap.size ≤ gb351)); have NB350_351 := Aside0.mk ((by rw [hg]; exact Nat.ne_of_lt (blk_lt (g := gb350) (o := .cells #[.int .i64 0, .int .i64 0] 38 (0, 0)) (by (with_reducible repeat (first | refine blk_drewN ?_ _ | refine blk_drew ?_ | refine blk_alloc ?_ _)); exact BK350.out)) : gb350 ≠ gb351)); have NB351_350 := Aside0.mk ((by rw [hg]; exact Nat.ne_of_gt (blk_lt (g := gb350) (o := .cells #[.int .i64 0, .int .i64 0] 38 (0, 0)) (by (with_reducible repeat (first | refine blk_drewN ?_ _ | refine blk_drew ?_ | refine blk_alloc ?_ _)); exact BK350.out)) : gb351 ≠ gb350)); replace BK350 := Aside0.mk (blk_below (g := gb350) (o := .cells #[.int .i64 0, .int .i64 0] 38 (0, 0)) (by (with_reducible repeat (first | refine blk_drewN ?_ _ | refine blk_drew ?_ | refine blk_alloc ?_ _)); exact BK350.out) hb); replace HB := Aside0.mk (below_step (by repeat (first | (with_reducible first | exact HB.out | apply below_alloc | apply pw_below_drewN | apply below_drew1 | refine below_set ?_ GE350.out) | exact HB.out)) hb); clear hb hbox hg; have hnb105 := NB350_351.out; have hnc105 := NB351_350.out; have hcz106_0 : w104.cell? ⟨gb350, 0, none⟩ = some (.int .i64 0) := (blk_cell BK350.out 0).trans rfl; have hcz106_1 : w104.cell? ⟨gb350, 1, none⟩ = some (.int .i64 0) := (blk_cell BK350.out 1).trans rfl; have hfz106_0 := blk_frozen BK350.out 0; have hfz106_1 := blk_frozen BK350.out 1; have hcz107_0 : w104.cell? ⟨gb351, 0, none⟩ = some (.int .i64 0) := (blk_cell BK351.out 0).trans rfl; have hcz107_1 : w104.cell? ⟨gb351, 1, none⟩ = some (.int .i64 0) := (blk_cell BK351.out 1).trans rfl; have hfz107_0 := blk_frozen BK351.out 0; have hfz107_1 := blk_frozen BK351.out 1) | ((with_reducible refine gate_callee (f := 38) rfl ?_); refine goesL_ (some 215) rfl rfl Try.func38 (by kernel_rfl) rfl #[.agg #[.int .i64 t345, .int .i64 t346], .int .i64 t347, .agg #[.int .i64 t348, .int .i64 t349]] rfl (by (try simp only [List.map_toArray, List.map_cons, List.map_nil]); first | done | rfl | (simp only [List.length_drop, List.length_take]; rfl)) ?_; (with_reducible refine (impl_TimesPoint.calls kj43 t345 t346 t347 t348 t349 t352 t353 t354 _ A99.out).mono ?_); rintro e w108 ⟨rfl, hb⟩; refine ⟨_, rfl, ?_⟩; replace BK350 := Aside0.mk (blk_below (g := gb350) (o := .cells #[.int .i64 t345, .int .i64 t346] 38 (0, 0)) (by (with_reducible repeat (first | refine blk_drewN ?_ _ | refine blk_drew ?_ | refine blk_alloc ?_ _)); refine blk_far ?_ NB350_351.out _; (with_reducible repeat (first | refine blk_drewN ?_ _ | refine blk_drew ?_ | refine blk_alloc ?_ _)); refine blk_far ?_ NB350_351.out _; (with_reducible repeat (first | refine blk_drewN ?_ _ | refine blk_drew ?_ | refine blk_alloc ?_ _)); refine blk_put (cs := #[.int .i64 t345, .int .i64 0]) ?_ 1 _ rfl; (with_reducible repeat (first | refine blk_drewN ?_ _ | refine blk_drew ?_ | refine blk_alloc ?_ _)); refine blk_put (cs := #[.int .i64 0, .int .i64 0]) ?_ 0 _ rfl; (with_reducible repeat (first | refine blk_drewN ?_ _ | refine blk_drew ?_ | refine blk_alloc ?_ _)); exact BK350.out) hb); replace BK351 := Aside0.mk (blk_below (g := gb351) (o := .cells #[.int .i64 t348, .int .i64 t349] 40 (0, 0)) (by (with_reducible repeat (first | refine blk_drewN ?_ _ | refine blk_drew ?_ | refine blk_alloc ?_ _)); refine blk_put (cs := #[.int .i64 t348, .int .i64 0]) ?_ 1 _ rfl; (with_reducible repeat (first | refine blk_drewN ?_ _ | refine blk_drew ?_ | refine blk_alloc ?_ _)); refine blk_put (cs := #[.int .i64 0, .int .i64 0]) ?_ 0 _ rfl; (with_reducible repeat (first | refine blk_drewN ?_ _ | refine blk_drew ?_ | refine blk_alloc ?_ _)); refine blk_far ?_ NB351_350.out _; (with_reducible repeat (first | refine blk_drewN ?_ _ | refine blk_drew ?_ | refine blk_alloc ?_ _)); refine blk_far ?_ NB351_350.out _; (with_reducible repeat (first | refine blk_drewN ?_ _ | refine blk_drew ?_ | refine blk_alloc ?_ _)); exact BK351.out) hb); replace HB := Aside0.mk (below_step (by repeat (first | (with_reducible first | exact HB.out | apply below_alloc | apply pw_below_drewN | apply below_drew1 | refine below_set ?_ GE350.out | refine below_set ?_ GE351.out) | exact HB.out)) hb); (try clear hb)) | ((with_reducible refine gate_dst (N := 31) rfl ?_); refine box_event ?hg (N := 31) ?hd (cs := #[.int .i64 0, .int .i64 0]) (t := 40) ?hr ?_; (case hd => rfl); (case hg => rfl); (case hr => first | (go_simp; done) | (go_simp; rfl)); intro gb355 hg w109 hbox hb; have BK355 := Aside0.mk (hbox); have GW355 := Aside0.mk ((by rw [hg]; exact (below_size (by repeat (first | (with_reducible first | exact HB.out | apply below_alloc | apply pw_below_drewN | apply below_drew1 | refine below_set ?_ GE350.out | refine below_set ?_ GE351.out) | exact HB.out))) : w.heap.size ≤ gb355)); have GE355 := Aside0.mk ((by rw [hg]; exact (below_size (by repeat (first | (with_reducible first | exact HB.out | apply below_alloc | apply pw_below_drewN | apply below_drew1 | refine below_set ?_ GE350.out | refine below_set ?_ GE351.out) | exact HB.out))) : w.heap.size ≤ gb355)); have NB350_355 := Aside0.mk ((by rw [hg]; exact Nat.ne_of_lt (blk_lt (g := gb350) (o := .cells #[.int .i64 t345, .int .i64 t346] 38 (0, 0)) (by (with_reducible repeat (first | refine blk_drewN ?_ _ | refine blk_drew ?_ | refine blk_alloc ?_ _)); exact BK350.out)) : gb350 ≠ gb355)); have NB355_350 := Aside0.mk ((by rw [hg]; exact Nat.ne_of_gt (blk_lt (g := gb350) (o := .cells #[.int .i64 t345, .int .i64 t346] 38 (0, 0)) (by (with_reducible repeat (first | refine blk_drewN ?_ _ | refine blk_drew ?_ | refine blk_alloc ?_ _)); exact BK350.out)) : gb355 ≠ gb350)); have NB351_355 := Aside0.mk ((by rw [hg]; exact Nat.ne_of_lt (blk_lt (g := gb351) (o := .cells #[.int .i64 t348, .int .i64 t349] 40 (0, 0)) (by (with_reducible repeat (first | refine blk_drewN ?_ _ | refine blk_drew ?_ | refine blk_alloc ?_ _)); exact BK351.out)) : gb351 ≠ gb355)); have NB355_351 := Aside0.mk ((by rw [hg]; exact Nat.ne_of_gt (blk_lt (g := gb351) (o := .cells #[.int .i64 t348, .int .i64 t349] 40 (0, 0)) (by (with_reducible repeat (first | refine blk_drewN ?_ _ | refine blk_drew ?_ | refine blk_alloc ?_ _)); exact BK351.out)) : gb355 ≠ gb351)); replace BK350 := Aside0.mk (blk_below (g := gb350) (o := .cells #[.int .i64 t345, .int .i64 t346] 38 (0, 0)) (by (with_reducible repeat (first | refine blk_drewN ?_ _ | refine blk_drew ?_ | refine blk_alloc ?_ _)); exact BK350.out) hb); replace BK351 := Aside0.mk (blk_below (g := gb351) (o := .cells #[.int .i64 t348, .int .i64 t349] 40 (0, 0)) (by (with_reducible repeat (first | refine blk_drewN ?_ _ | refine blk_drew ?_ | refine blk_alloc ?_ _)); exact BK351.out) hb); replace HB := Aside0.mk (below_step (by repeat (first | (with_reducible first | exact HB.out | apply below_alloc | apply pw_below_drewN | apply below_drew1 | refine below_set ?_ GE350.out | refine below_set ?_ GE351.out) | exact HB.out)) hb); clear hb hbox hg; have hnb110 := NB355_350.out; have hnc110 := NB350_355.out; have hnb111 := NB355_351.out; have hnc111 := NB351_355.out; have hcz112_0 : w109.cell? ⟨gb355, 0, none⟩ = some (.int .i64 0) := (blk_cell BK355.out 0).trans rfl; have hcz112_1 : w109.cell? ⟨gb355, 1, none⟩ = some (.int .i64 0) := (blk_cell BK355.out 1).trans rfl; have hfz112_0 := blk_frozen BK355.out 0; have hfz112_1 := blk_frozen BK355.out 1; have hcz113_0 : w109.cell? ⟨gb350, 0, none⟩ = some (.int .i64 t345) := (blk_cell BK350.out 0).trans rfl; have hcz113_1 : w109.cell? ⟨gb350, 1, none⟩ = some (.int .i64 t346) := (blk_cell BK350.out 1).trans rfl; have hfz113_0 := blk_frozen BK350.out 0; have hfz113_1 := blk_frozen BK350.out 1; have hcz114_0 : w109.cell? ⟨gb351, 0, none⟩ = some (.int .i64 t348) := (blk_cell BK351.out 0).trans rfl; have hcz114_1 : w109.cell? ⟨gb351, 1, none⟩ = some (.int .i64 t349) := (blk_cell BK351.out 1).trans rfl; have hfz114_0 := blk_frozen BK351.out 0; have hfz114_1 := blk_frozen BK351.out 1) | ((with_reducible refine gate_callee (f := 52) rfl ?_); refine goesL_ (some 222) rfl rfl Try.func52 (by kernel_rfl) rfl #[.agg #[.int .i64 t345, .int .i64 t346], .int .i64 t347, .agg #[.int .i64 t348, .int .i64 t349]] rfl (by (try simp only [List.map_toArray, List.map_cons, List.map_nil]); first | done | rfl | (simp only [List.length_drop, List.length_take]; rfl)) ?_; (with_reducible refine (spec_TimesPoint.calls kj43 t345 t346 t347 t348 t349 t356 t357 t358 _ A100.out).mono ?_); rintro e w115 ⟨rfl, hb⟩; refine ⟨_, rfl, ?_⟩; replace BK350 := Aside0.mk (blk_below (g := gb350) (o := .cells #[.int .i64 t345, .int .i64 t346] 38 (0, 0)) (by (with_reducible repeat (first | refine blk_drewN ?_ _ | refine blk_drew ?_ | refine blk_alloc ?_ _)); refine blk_far ?_ NB350_355.out _; (with_reducible repeat (first | refine blk_drewN ?_ _ | refine blk_drew ?_ | refine blk_alloc ?_ _)); refine blk_far ?_ NB350_355.out _; (with_reducible repeat (first | refine blk_drewN ?_ _ | refine blk_drew ?_ | refine blk_alloc ?_ _)); exact BK350.out) hb); replace BK351 := Aside0.mk (blk_below (g := gb351) (o := .cells #[.int .i64 t348, .int .i64 t349] 40 (0, 0)) (by (with_reducible repeat (first | refine blk_drewN ?_ _ | refine blk_drew ?_ | refine blk_alloc ?_ _)); refine blk_far ?_ NB351_355.out _; (with_reducible repeat (first | refine blk_drewN ?_ _ | refine blk_drew ?_ | refine blk_alloc ?_ _)); refine blk_far ?_ NB351_355.out _; (with_reducible repeat (first | refine blk_drewN ?_ _ | refine blk_drew ?_ | refine blk_alloc ?_ _)); exact BK351.out) hb); replace BK355 := Aside0.mk (blk_below (g := gb355) (o := .cells #[.int .i64 t352, .int .i64 t353] 40 (0, 0)) (by (with_reducible repeat (first | refine blk_drewN ?_ _ | refine blk_drew ?_ | refine blk_alloc ?_ _)); refine blk_put (cs := #[.int .i64 t352, .int .i64 0]) ?_ 1 _ rfl; (with_reducible repeat (first | refine blk_drewN ?_ _ | refine blk_drew ?_ | refine blk_alloc ?_ _)); refine blk_put (cs := #[.int .i64 0, .int .i64 0]) ?_ 0 _ rfl; (with_reducible repeat (first | refine blk_drewN ?_ _ | refine blk_drew ?_ | refine blk_alloc ?_ _)); exact BK355.out) hb); replace HB := Aside0.mk (below_step (by repeat (first | (with_reducible first | exact HB.out | apply below_alloc | apply pw_below_drewN | apply below_drew1 | refine below_set ?_ GE350.out | refine below_set ?_ GE351.out | refine below_set ?_ GE355.out) | exact HB.out)) hb); (try clear hb)) | ((with_reducible refine gate_dst (N := 33) rfl ?_); refine box_event ?hg (N := 33) ?hd (cs := #[.int .i64 0, .int .i64 0]) (t := 40) ?hr ?_; (case hd => rfl); (case hg => rfl); (case hr => first | (go_simp; done) | (go_simp; rfl)); intro gb359 hg w116 hbox hb; have BK359 := Aside0.mk (hbox); have GW359 := Aside0.mk ((by rw [hg]; exact (below_size (by repeat (first | (with_reducible first | exact HB.out | apply below_alloc | apply pw_below_drewN | apply below_drew1 | refine below_set ?_ GE350.out | refine below_set ?_ GE351.out | refine below_set ?_ GE355.out) | exact HB.out))) : w.heap.size ≤ gb359)); have GE359 := Aside0.mk ((by rw [hg]; exact (below_size (by repeat (first | (with_reducible first | exact HB.out | apply below_alloc | apply pw_below_drewN | apply below_drew1 | refine below_set ?_ GE350.out | refine below_set ?_ GE351.out | refine below_set ?_ GE355.out) | exact HB.out))) : w.heap.size ≤ gb359)); have NB350_359 := Aside0.mk ((by rw [hg]; exact Nat.ne_of_lt (blk_lt (g := gb350) (o := .cells #[.int .i64 t345, .int .i64 t346] 38 (0, 0)) (by (with_reducible repeat (first | refine blk_drewN ?_ _ | refine blk_drew ?_ | refine blk_alloc ?_ _)); exact BK350.out)) : gb350 ≠ gb359)); have NB359_350 := Aside0.mk ((by rw [hg]; exact Nat.ne_of_gt (blk_lt (g := gb350) (o := .cells #[.int .i64 t345, .int .i64 t346] 38 (0, 0)) (by (with_reducible repeat (first | refine blk_drewN ?_ _ | refine blk_drew ?_ | refine blk_alloc ?_ _)); exact BK350.out)) : gb359 ≠ gb350)); have NB351_359 := Aside0.mk ((by rw [hg]; exact Nat.ne_of_lt (blk_lt (g := gb351) (o := .cells #[.int .i64 t348, .int .i64 t349] 40 (0, 0)) (by (with_reducible repeat (first | refine blk_drewN ?_ _ | refine blk_drew ?_ | refine blk_alloc ?_ _)); exact BK351.out)) : gb351 ≠ gb359)); have NB359_351 := Aside0.mk ((by rw [hg]; exact Nat.ne_of_gt (blk_lt (g := gb351) (o := .cells #[.int .i64 t348, .int .i64 t349] 40 (0, 0)) (by (with_reducible repeat (first | refine blk_drewN ?_ _ | refine blk_drew ?_ | refine blk_alloc ?_ _)); exact BK351.out)) : gb359 ≠ gb351)); have NB355_359 := Aside0.mk ((by rw [hg]; exact Nat.ne_of_lt (blk_lt (g := gb355) (o := .cells #[.int .i64 t352, .int .i64 t353] 40 (0, 0)) (by (with_reducible repeat (first | refine blk_drewN ?_ _ | refine blk_drew ?_ | refine blk_alloc ?_ _)); exact BK355.out)) : gb355 ≠ gb359)); have NB359_355 := Aside0.mk ((by rw [hg]; exact Nat.ne_of_gt (blk_lt (g := gb355) (o := .cells #[.int .i64 t352, .int .i64 t353] 40 (0, 0)) (by (with_reducible repeat (first | refine blk_drewN ?_ _ | refine blk_drew ?_ | refine blk_alloc ?_ _)); exact BK355.out)) : gb359 ≠ gb355)); replace BK350 := Aside0.mk (blk_below (g := gb350) (o := .cells #[.int .i64 t345, .int .i64 t346] 38 (0, 0)) (by (with_reducible repeat (first | refine blk_drewN ?_ _ | refine blk_drew ?_ | refine blk_alloc ?_ _)); exact BK350.out) hb); replace BK351 := Aside0.mk (blk_below (g := gb351) (o := .cells #[.int .i64 t348, .int .i64 t349] 40 (0, 0)) (by (with_reducible repeat (first | refine blk_drewN ?_ _ | refine blk_drew ?_ | refine blk_alloc ?_ _)); exact BK351.out) hb); replace BK355 := Aside0.mk (blk_below (g := gb355) (o := .cells #[.int .i64 t352, .int .i64 t353] 40 (0, 0)) (by (with_reducible repeat (first | refine blk_drewN ?_ _ | refine blk_drew ?_ | refine blk_alloc ?_ _)); exact BK355.out) hb); replace HB := Aside0.mk (below_step (by repeat (first | (with_reducible first | exact HB.out | apply below_alloc | apply pw_below_drewN | apply below_drew1 | refine below_set ?_ GE350.out | refine below_set ?_ GE351.out | refine below_set ?_ GE355.out) | exact HB.out)) hb); clear hb hbox hg; have hnb117 := NB359_350.out; have hnc117 := NB350_359.out; have hnb118 := NB359_351.out; have hnc118 := NB351_359.out; have hnb119 := NB359_355.out; have hnc119 := NB355_359.out; have hcz120_0 : w116.cell? ⟨gb359, 0, none⟩ = some (.int .i64 0) := (blk_cell BK359.out 0).trans rfl; have hcz120_1 : w116.cell? ⟨gb359, 1, none⟩ = some (.int .i64 0) := (blk_cell BK359.out 1).trans rfl; have hfz120_0 := blk_frozen BK359.out 0; have hfz120_1 := blk_frozen BK359.out 1))
            (try simp only [Act.put, List.setIfInBounds_toArray, List.set_cons_zero, List.set_cons_succ])
            go_cut [232] (fun v232 wc => ∃ (kq : Nat) (x232_100 : Bool), v232 = .bool x232_100 ∧ Aside0 (laws_FnPoints.j3 kq l1 t347 t354 x232_100 t345 t346 t348 t349 t352 t353 = some r) ∧ Aside0 (kq ≤ kj43) ∧ Aside0 (wc.heap[gb350]? = some (.cells #[.int .i64 t345, .int .i64 t346] 38 (0, 0))) ∧ Aside0 (wc.heap[gb351]? = some (.cells #[.int .i64 t348, .int .i64 t349] 40 (0, 0))) ∧ Aside0 (wc.heap[gb355]? = some (.cells #[.int .i64 t352, .int .i64 t353] 40 (0, 0))) ∧ Aside0 (Below w.heap.size w wc))
            case first =>
             as_aux_lemma =>
              have H := HC101.out
              clear HC101
              by_cases c121 : (t354 != t358) = true
              ·rw [if_pos c121] at H
               have c121b0 : (t354 != t358) = true := c121
               (try (have c121b1 : decide (t354 = t358) = false := by simpa using c121))
               (try (have c121b2 : (t354 == t358) = false := by simpa using c121))
               (try (have c121b3 : ¬ (t354 = t358) := by simpa using c121))
               clear c121
               (first | rw [c121b0] | (simp only [i64_w, i32_w]; rw [c121b0]) | skip)
               exfalso
               cases kj43 with
               | zero => exact absurd H (by simp [laws_FnPoints.j3])
               | succ kz_ => rw [laws_FnPoints.j3, if_pos rfl] at H; exact absurd ((Option.some.inj H).trans HR_.out) (by decide)
              ·rw [if_neg c121] at H
               have c121b0 : (t354 != t358) = false := by simpa using c121
               (try (have c121b1 : decide (t354 = t358) = true := by simpa using c121))
               (try (have c121b2 : (t354 == t358) = true := by simpa using c121))
               clear c121
               (first | rw [c121b0] | (simp only [i64_w, i32_w]; rw [c121b0]) | skip)
               as_aux_lemma =>
                have H' := Aside0.mk H
                clear H
                have hnb124 := NB355_359.out
                have hnc124 := NB359_355.out
                have hcz125_0 : w116.cell? ⟨gb355, 0, none⟩ = some (.int .i64 t352) := (blk_cell BK355.out 0).trans rfl
                have hcz125_1 : w116.cell? ⟨gb355, 1, none⟩ = some (.int .i64 t353) := (blk_cell BK355.out 1).trans rfl
                have hfz125_0 := blk_frozen BK355.out 0
                have hfz125_1 := blk_frozen BK355.out 1
                have hnb126 := NB359_350.out
                have hnc126 := NB350_359.out
                have hnb127 := NB359_351.out
                have hnc127 := NB351_359.out
                have hcz128_0 : w116.cell? ⟨gb359, 0, none⟩ = some (.int .i64 0) := (blk_cell BK359.out 0).trans rfl
                have hcz128_1 : w116.cell? ⟨gb359, 1, none⟩ = some (.int .i64 0) := (blk_cell BK359.out 1).trans rfl
                have hfz128_0 := blk_frozen BK359.out 0
                have hfz128_1 := blk_frozen BK359.out 1
                go_wp2
                all_goals (try exact absurd ‹some undef = some (Value.bool _)› (by simp [undef]))
                go_meet
                case rel => exact ⟨_, ((!(t352 == t356) || (!(t353 == t357)))), (by first | rfl | (simp; done) | (simp [*]; done)), H', ⟨by have := HJ10.out; have := HJ37.out; have := HJ43.out; first | omega | exact Nat.le_refl _⟩, ⟨by (with_reducible repeat (first | refine blk_drewN ?_ _ | refine blk_drew ?_ | refine blk_alloc ?_ _)); refine blk_far ?_ NB350_359.out _; (with_reducible repeat (first | refine blk_drewN ?_ _ | refine blk_drew ?_ | refine blk_alloc ?_ _)); refine blk_far ?_ NB350_359.out _; (with_reducible repeat (first | refine blk_drewN ?_ _ | refine blk_drew ?_ | refine blk_alloc ?_ _)); exact BK350.out⟩, ⟨by (with_reducible repeat (first | refine blk_drewN ?_ _ | refine blk_drew ?_ | refine blk_alloc ?_ _)); refine blk_far ?_ NB351_359.out _; (with_reducible repeat (first | refine blk_drewN ?_ _ | refine blk_drew ?_ | refine blk_alloc ?_ _)); refine blk_far ?_ NB351_359.out _; (with_reducible repeat (first | refine blk_drewN ?_ _ | refine blk_drew ?_ | refine blk_alloc ?_ _)); exact BK351.out⟩, ⟨by (with_reducible repeat (first | refine blk_drewN ?_ _ | refine blk_drew ?_ | refine blk_alloc ?_ _)); refine blk_far ?_ NB355_359.out _; (with_reducible repeat (first | refine blk_drewN ?_ _ | refine blk_drew ?_ | refine blk_alloc ?_ _)); refine blk_far ?_ NB355_359.out _; (with_reducible repeat (first | refine blk_drewN ?_ _ | refine blk_drew ?_ | refine blk_alloc ?_ _)); exact BK355.out⟩, ⟨by repeat (first | (with_reducible first | exact HB.out | apply below_alloc | apply pw_below_drewN | apply below_drew1 | refine below_set ?_ GE350.out | refine below_set ?_ GE351.out | refine below_set ?_ GE355.out | refine below_set ?_ GE359.out) | exact HB.out)⟩⟩
            case rest =>
             as_aux_lemma =>
              clear HC101
              try clear c1
              try clear p2
              try clear c3
              try clear c3b0
              try clear c4
              try clear c5
              try clear c6
              try clear p6
              try clear c7
              try clear c8
              try clear c9
              try clear c10
              try clear c11
              try clear c12
              try clear c15
              try clear c32
              try clear c32b0
              try clear c32b1
              try clear c32b2
              try clear c33
              try clear c33b0
              try clear c33b1
              try clear c34
              try clear c34b0
              try clear c34b1
              try clear c34b2
              try clear c35
              try clear c35b0
              try clear c35b1
              try clear c36
              try clear c36b0
              try clear c36b1
              try clear c36b2
              try clear c37
              try clear c38
              try clear c39
              try clear c40
              try clear c40b0
              try clear c41
              try clear c41b0
              try clear c41b1
              try clear c42
              try clear c43
              try clear c44
              try clear c45
              try clear c46
              try clear c47
              try clear c48
              try clear c49
              try clear c50
              try clear c51
              try clear c51b0
              try clear c51b1
              try clear c52
              try clear c52b0
              try clear c52b1
              try clear c53
              try clear c54
              try clear c55
              try clear c55b0
              try clear c56
              try clear c57
              try clear c57b0
              try clear c58
              try clear c59
              try clear c60
              try clear c60b0
              try clear c61
              try clear p64
              try clear c65
              try clear c66
              try clear c72
              try clear c73
              try clear c74
              try clear c80
              try clear c81
              try clear c82
              try clear c83
              try clear c88
              try clear c89
              try clear c90
              try clear c91
              try clear c92
              try clear c105
              try clear c110
              try clear c111
              try clear c117
              try clear c118
              try clear c119
              try clear c121
              try clear c121b0
              try clear c121b1
              try clear c121b2
              try clear c122
              try clear c123
              try clear c124
              try clear c126
              try clear c127
              try clear hcz106_0
              try clear hcz106_1
              try clear hcz107_0
              try clear hcz107_1
              try clear hcz112_0
              try clear hcz112_1
              try clear hcz113_0
              try clear hcz113_1
              try clear hcz114_0
              try clear hcz114_1
              try clear hcz120_0
              try clear hcz120_1
              try clear hcz125_0
              try clear hcz125_1
              try clear hcz128_0
              try clear hcz128_1
              try clear hcz16_0
              try clear hcz16_1
              try clear hcz17_0
              try clear hcz17_1
              try clear hcz19_0
              try clear hcz19_1
              try clear hcz20_0
              try clear hcz20_1
              try clear hcz22_0
              try clear hcz22_1
              try clear hcz24_0
              try clear hcz24_1
              try clear hcz26_0
              try clear hcz26_1
              try clear hcz27_0
              try clear hcz27_1
              try clear hcz29_0
              try clear hcz29_1
              try clear hcz30_0
              try clear hcz30_1
              try clear hcz43_0
              try clear hcz43_1
              try clear hcz62_0
              try clear hcz62_1
              try clear hcz67_0
              try clear hcz67_1
              try clear hcz68_0
              try clear hcz68_1
              try clear hcz69_0
              try clear hcz69_1
              try clear hcz75_0
              try clear hcz75_1
              try clear hcz76_0
              try clear hcz76_1
              try clear hcz77_0
              try clear hcz77_1
              try clear hcz84_0
              try clear hcz84_1
              try clear hcz85_0
              try clear hcz85_1
              try clear hcz93_0
              try clear hcz93_1
              try clear hcz94_0
              try clear hcz94_1
              try clear hcz95_0
              try clear hcz95_1
              try clear hcz96_0
              try clear hcz96_1
              try clear hcz97_0
              try clear hcz97_1
              try clear hfz106_0
              try clear hfz106_1
              try clear hfz107_0
              try clear hfz107_1
              try clear hfz112_0
              try clear hfz112_1
              try clear hfz113_0
              try clear hfz113_1
              try clear hfz114_0
              try clear hfz114_1
              try clear hfz120_0
              try clear hfz120_1
              try clear hfz125_0
              try clear hfz125_1
              try clear hfz128_0
              try clear hfz128_1
              try clear hfz16_0
              try clear hfz16_1
              try clear hfz17_0
              try clear hfz17_1
              try clear hfz19_0
              try clear hfz19_1
              try clear hfz20_0
              try clear hfz20_1
              try clear hfz22_0
              try clear hfz22_1
              try clear hfz24_0
              try clear hfz24_1
              try clear hfz26_0
              try clear hfz26_1
              try clear hfz27_0
              try clear hfz27_1
              try clear hfz29_0
              try clear hfz29_1
              try clear hfz30_0
              try clear hfz30_1
              try clear hfz43_0
              try clear hfz43_1
              try clear hfz62_0
              try clear hfz62_1
              try clear hfz67_0
              try clear hfz67_1
              try clear hfz68_0
              try clear hfz68_1
              try clear hfz69_0
              try clear hfz69_1
              try clear hfz75_0
              try clear hfz75_1
              try clear hfz76_0
              try clear hfz76_1
              try clear hfz77_0
              try clear hfz77_1
              try clear hfz84_0
              try clear hfz84_1
              try clear hfz85_0
              try clear hfz85_1
              try clear hfz93_0
              try clear hfz93_1
              try clear hfz94_0
              try clear hfz94_1
              try clear hfz95_0
              try clear hfz95_1
              try clear hfz96_0
              try clear hfz96_1
              try clear hfz97_0
              try clear hfz97_1
              try clear p2
              try clear p6
              try clear p64
              obtain ⟨kq, x232_100, rfl, HA, HJ100, BK350, BK351, BK355, HB⟩ := hcut
              cases kq with
              | zero => exact absurd HA.out (by simp [laws_FnPoints.j3])
              | succ kj100 =>
               have H := HA.out
               clear HA
               simp only [laws_FnPoints.j3] at H
               by_cases c129 : x232_100 = true
               ·subst c129
                have H1 : (some false) = some r := by rw [if_pos rfl] at H; exact H
                clear H
                have H := H1
                clear H1
                exact absurd ((Option.some.inj H).trans HR_.out) (by decide)
               ·replace c129 := Bool.eq_false_iff.mpr c129
                subst c129
                have H1 : (if t354 = true then (laws_FnPoints.j4 kj100 l1 t347 (decide (t347 < 100000)) t345 t346 t348 t349 t352 t353) else (laws_FnPoints.j4 kj100 l1 t347 false t345 t346 t348 t349 t352 t353)) = some r := by rw [if_neg (show ¬ (false = true) by decide)] at H; exact H
                clear H
                have H := H1
                clear H1
                have HC130 := Aside0.mk H
                clear H
                go_upto_region 28 with (fail)
                go_cut [237] (fun v237 wc => ∃ (kq : Nat) (x237_129 : Bool), v237 = .bool x237_129 ∧ Aside0 (laws_FnPoints.j4 kq l1 t347 x237_129 t345 t346 t348 t349 t352 t353 = some r) ∧ Aside0 (kq ≤ kj100) ∧ Aside0 (wc.heap[gb350]? = some (.cells #[.int .i64 t345, .int .i64 t346] 38 (0, 0))) ∧ Aside0 (wc.heap[gb351]? = some (.cells #[.int .i64 t348, .int .i64 t349] 40 (0, 0))) ∧ Aside0 (wc.heap[gb355]? = some (.cells #[.int .i64 t352, .int .i64 t353] 40 (0, 0))) ∧ Aside0 (Below w.heap.size w wc))
                case first =>
                 as_aux_lemma =>
                  have H := HC130.out
                  clear HC130
                  by_cases c131 : t354 = true
                  ·subst c131
                   have H1 : (laws_FnPoints.j4 kj100 l1 t347 (decide (t347 < 100000)) t345 t346 t348 t349 t352 t353) = some r := by rw [if_pos rfl] at H; exact H
                   clear H
                   have H := H1
                   clear H1
                   as_aux_lemma =>
                    have H' := Aside0.mk H
                    clear H
                    go_wp2
                    all_goals (try exact absurd ‹some undef = some (Value.bool _)› (by simp [undef]))
                    go_meet
                    case rel => exact ⟨_, (decide (t347 < 100000)), (by first | rfl | (simp; done) | (simp [*]; done)), H', ⟨by have := HJ10.out; have := HJ37.out; have := HJ43.out; have := HJ100.out; first | omega | exact Nat.le_refl _⟩, ⟨by (with_reducible repeat (first | refine blk_drewN ?_ _ | refine blk_drew ?_ | refine blk_alloc ?_ _)); exact BK350.out⟩, ⟨by (with_reducible repeat (first | refine blk_drewN ?_ _ | refine blk_drew ?_ | refine blk_alloc ?_ _)); exact BK351.out⟩, ⟨by (with_reducible repeat (first | refine blk_drewN ?_ _ | refine blk_drew ?_ | refine blk_alloc ?_ _)); exact BK355.out⟩, ⟨by repeat (first | (with_reducible first | exact HB.out | apply below_alloc | apply pw_below_drewN | apply below_drew1 | refine below_set ?_ GE350.out | refine below_set ?_ GE351.out | refine below_set ?_ GE355.out) | exact HB.out)⟩⟩
                  ·replace c131 := Bool.eq_false_iff.mpr c131
                   subst c131
                   have H1 : (laws_FnPoints.j4 kj100 l1 t347 false t345 t346 t348 t349 t352 t353) = some r := by rw [if_neg (show ¬ (false = true) by decide)] at H; exact H
                   clear H
                   have H := H1
                   clear H1
                   as_aux_lemma =>
                    have H' := Aside0.mk H
                    clear H
                    go_wp2
                    all_goals (try exact absurd ‹some undef = some (Value.bool _)› (by simp [undef]))
                    go_meet
                    case rel => exact ⟨_, (false), (by first | rfl | (simp; done) | (simp [*]; done)), H', ⟨by have := HJ10.out; have := HJ37.out; have := HJ43.out; have := HJ100.out; first | omega | exact Nat.le_refl _⟩, ⟨by (with_reducible repeat (first | refine blk_drewN ?_ _ | refine blk_drew ?_ | refine blk_alloc ?_ _)); exact BK350.out⟩, ⟨by (with_reducible repeat (first | refine blk_drewN ?_ _ | refine blk_drew ?_ | refine blk_alloc ?_ _)); exact BK351.out⟩, ⟨by (with_reducible repeat (first | refine blk_drewN ?_ _ | refine blk_drew ?_ | refine blk_alloc ?_ _)); exact BK355.out⟩, ⟨by repeat (first | (with_reducible first | exact HB.out | apply below_alloc | apply pw_below_drewN | apply below_drew1 | refine below_set ?_ GE350.out | refine below_set ?_ GE351.out | refine below_set ?_ GE355.out) | exact HB.out)⟩⟩
                case rest =>
                 as_aux_lemma =>
                  clear HC130
                  try clear c1
                  try clear p2
                  try clear c3
                  try clear c3b0
                  try clear c4
                  try clear c5
                  try clear c6
                  try clear p6
                  try clear c7
                  try clear c8
                  try clear c9
                  try clear c10
                  try clear c11
                  try clear c12
                  try clear c13
                  try clear c15
                  try clear c32
                  try clear c32b0
                  try clear c32b1
                  try clear c32b2
                  try clear c33
                  try clear c33b0
                  try clear c33b1
                  try clear c34
                  try clear c34b0
                  try clear c34b1
                  try clear c34b2
                  try clear c35
                  try clear c35b0
                  try clear c35b1
                  try clear c36
                  try clear c36b0
                  try clear c36b1
                  try clear c36b2
                  try clear c37
                  try clear c38
                  try clear c39
                  try clear c40
                  try clear c40b0
                  try clear c41
                  try clear c41b0
                  try clear c41b1
                  try clear c42
                  try clear c43
                  try clear c44
                  try clear c45
                  try clear c46
                  try clear c47
                  try clear c48
                  try clear c49
                  try clear c50
                  try clear c51
                  try clear c51b0
                  try clear c51b1
                  try clear c52
                  try clear c52b0
                  try clear c52b1
                  try clear c53
                  try clear c54
                  try clear c55
                  try clear c55b0
                  try clear c56
                  try clear c57
                  try clear c57b0
                  try clear c58
                  try clear c59
                  try clear c60
                  try clear c60b0
                  try clear c61
                  try clear p64
                  try clear c65
                  try clear c66
                  try clear c72
                  try clear c73
                  try clear c74
                  try clear c80
                  try clear c81
                  try clear c82
                  try clear c83
                  try clear c88
                  try clear c89
                  try clear c90
                  try clear c91
                  try clear c92
                  try clear c105
                  try clear c110
                  try clear c111
                  try clear c117
                  try clear c118
                  try clear c119
                  try clear c121
                  try clear c121b0
                  try clear c121b1
                  try clear c121b2
                  try clear c122
                  try clear c123
                  try clear c124
                  try clear c126
                  try clear c127
                  try clear c129
                  try clear c131
                  try clear hcz106_0
                  try clear hcz106_1
                  try clear hcz107_0
                  try clear hcz107_1
                  try clear hcz112_0
                  try clear hcz112_1
                  try clear hcz113_0
                  try clear hcz113_1
                  try clear hcz114_0
                  try clear hcz114_1
                  try clear hcz120_0
                  try clear hcz120_1
                  try clear hcz125_0
                  try clear hcz125_1
                  try clear hcz128_0
                  try clear hcz128_1
                  try clear hcz16_0
                  try clear hcz16_1
                  try clear hcz17_0
                  try clear hcz17_1
                  try clear hcz19_0
                  try clear hcz19_1
                  try clear hcz20_0
                  try clear hcz20_1
                  try clear hcz22_0
                  try clear hcz22_1
                  try clear hcz24_0
                  try clear hcz24_1
                  try clear hcz26_0
                  try clear hcz26_1
                  try clear hcz27_0
                  try clear hcz27_1
                  try clear hcz29_0
                  try clear hcz29_1
                  try clear hcz30_0
                  try clear hcz30_1
                  try clear hcz43_0
                  try clear hcz43_1
                  try clear hcz62_0
                  try clear hcz62_1
                  try clear hcz67_0
                  try clear hcz67_1
                  try clear hcz68_0
                  try clear hcz68_1
                  try clear hcz69_0
                  try clear hcz69_1
                  try clear hcz75_0
                  try clear hcz75_1
                  try clear hcz76_0
                  try clear hcz76_1
                  try clear hcz77_0
                  try clear hcz77_1
                  try clear hcz84_0
                  try clear hcz84_1
                  try clear hcz85_0
                  try clear hcz85_1
                  try clear hcz93_0
                  try clear hcz93_1
                  try clear hcz94_0
                  try clear hcz94_1
                  try clear hcz95_0
                  try clear hcz95_1
                  try clear hcz96_0
                  try clear hcz96_1
                  try clear hcz97_0
                  try clear hcz97_1
                  try clear hfz106_0
                  try clear hfz106_1
                  try clear hfz107_0
                  try clear hfz107_1
                  try clear hfz112_0
                  try clear hfz112_1
                  try clear hfz113_0
                  try clear hfz113_1
                  try clear hfz114_0
                  try clear hfz114_1
                  try clear hfz120_0
                  try clear hfz120_1
                  try clear hfz125_0
                  try clear hfz125_1
                  try clear hfz128_0
                  try clear hfz128_1
                  try clear hfz16_0
                  try clear hfz16_1
                  try clear hfz17_0
                  try clear hfz17_1
                  try clear hfz19_0
                  try clear hfz19_1
                  try clear hfz20_0
                  try clear hfz20_1
                  try clear hfz22_0
                  try clear hfz22_1
                  try clear hfz24_0
                  try clear hfz24_1
                  try clear hfz26_0
                  try clear hfz26_1
                  try clear hfz27_0
                  try clear hfz27_1
                  try clear hfz29_0
                  try clear hfz29_1
                  try clear hfz30_0
                  try clear hfz30_1
                  try clear hfz43_0
                  try clear hfz43_1
                  try clear hfz62_0
                  try clear hfz62_1
                  try clear hfz67_0
                  try clear hfz67_1
                  try clear hfz68_0
                  try clear hfz68_1
                  try clear hfz69_0
                  try clear hfz69_1
                  try clear hfz75_0
                  try clear hfz75_1
                  try clear hfz76_0
                  try clear hfz76_1
                  try clear hfz77_0
                  try clear hfz77_1
                  try clear hfz84_0
                  try clear hfz84_1
                  try clear hfz85_0
                  try clear hfz85_1
                  try clear hfz93_0
                  try clear hfz93_1
                  try clear hfz94_0
                  try clear hfz94_1
                  try clear hfz95_0
                  try clear hfz95_1
                  try clear hfz96_0
                  try clear hfz96_1
                  try clear hfz97_0
                  try clear hfz97_1
                  try clear p2
                  try clear p6
                  try clear p64
                  obtain ⟨kq, x237_129, rfl, HA, HJ129, BK350, BK351, BK355, HB⟩ := hcut
                  cases kq with
                  | zero => exact absurd HA.out (by simp [laws_FnPoints.j4])
                  | succ kj129 =>
                   have H := HA.out
                   clear HA
                   simp only [laws_FnPoints.j4] at H
                   by_cases c132 : x237_129 = true
                   ·subst c132
                    have H1 : ((impl_TimesPoint.f kj129 t345 t346 (wrap64 (t347 + 1)) t348 t349).bind fun bt360 => ((impl_AddPoints.f kj129 t345 t346 t352 t353 t348 t349).bind fun bt364 => (if bt360.2.2 = true then (if bt364.2.2 = true then (laws_FnPoints.j5 kj129 l1 (!(bt360.1 == bt364.1) || (!(bt360.2.1 == bt364.2.1)))) else (laws_FnPoints.j5 kj129 l1 true)) else (laws_FnPoints.j5 kj129 l1 true)))) = some r := by rw [if_pos rfl] at H; exact H
                    clear H
                    have H := H1
                    clear H1
                    replace H := Option.bind_eq_some_iff.mp H
                    obtain ⟨⟨t360, t361, t362⟩, A1330, H⟩ := H
                    replace H : ((impl_AddPoints.f kj129 t345 t346 t352 t353 t348 t349).bind fun bt364 => (if t362 = true then (if bt364.2.2 = true then (laws_FnPoints.j5 kj129 l1 (!(t360 == bt364.1) || (!(t361 == bt364.2.1)))) else (laws_FnPoints.j5 kj129 l1 true)) else (laws_FnPoints.j5 kj129 l1 true))) = some r := H
                    have A133 := Aside0.mk A1330
                    clear A1330
                    replace H := Option.bind_eq_some_iff.mp H
                    obtain ⟨⟨t364, t365, t366⟩, A1340, H⟩ := H
                    replace H : (if t362 = true then (if t366 = true then (laws_FnPoints.j5 kj129 l1 (!(t360 == t364) || (!(t361 == t365)))) else (laws_FnPoints.j5 kj129 l1 true)) else (laws_FnPoints.j5 kj129 l1 true)) = some r := H
                    have A134 := Aside0.mk A1340
                    clear A1340
                    have HC135 := Aside0.mk H
                    clear H
                    have hcz138_0 : wc.cell? ⟨gb350, 0, none⟩ = some (.int .i64 t345) := (blk_cell BK350.out 0).trans rfl
                    have hcz138_1 : wc.cell? ⟨gb350, 1, none⟩ = some (.int .i64 t346) := (blk_cell BK350.out 1).trans rfl
                    have hfz138_0 := blk_frozen BK350.out 0
                    have hfz138_1 := blk_frozen BK350.out 1
                    have hcz140_0 : wc.cell? ⟨gb351, 0, none⟩ = some (.int .i64 t348) := (blk_cell BK351.out 0).trans rfl
                    have hcz140_1 : wc.cell? ⟨gb351, 1, none⟩ = some (.int .i64 t349) := (blk_cell BK351.out 1).trans rfl
                    have hfz140_0 := blk_frozen BK351.out 0
                    have hfz140_1 := blk_frozen BK351.out 1
                    go_upto_region 31 with (first | ((with_reducible refine gate_callee (f := 38) rfl ?_); refine goesL_ (some 243) rfl rfl Try.func38 (by kernel_rfl) rfl #[.agg #[.int .i64 t345, .int .i64 t346], .int .i64 (wrap64 (t347 + 1)), .agg #[.int .i64 t348, .int .i64 t349]] rfl (by (try simp only [List.map_toArray, List.map_cons, List.map_nil]); first | done | rfl | (simp only [List.length_drop, List.length_take]; rfl)) ?_; (with_reducible refine (impl_TimesPoint.calls kj129 t345 t346 (wrap64 (t347 + 1)) t348 t349 t360 t361 t362 _ A133.out).mono ?_); rintro e w141 ⟨rfl, hb⟩; refine ⟨_, rfl, ?_⟩; replace BK350 := Aside0.mk (blk_below (g := gb350) (o := .cells #[.int .i64 t345, .int .i64 t346] 38 (0, 0)) (by (with_reducible repeat (first | refine blk_drewN ?_ _ | refine blk_drew ?_ | refine blk_alloc ?_ _)); exact BK350.out) hb); replace BK351 := Aside0.mk (blk_below (g := gb351) (o := .cells #[.int .i64 t348, .int .i64 t349] 40 (0, 0)) (by (with_reducible repeat (first | refine blk_drewN ?_ _ | refine blk_drew ?_ | refine blk_alloc ?_ _)); exact BK351.out) hb); replace BK355 := Aside0.mk (blk_below (g := gb355) (o := .cells #[.int .i64 t352, .int .i64 t353] 40 (0, 0)) (by (with_reducible repeat (first | refine blk_drewN ?_ _ | refine blk_drew ?_ | refine blk_alloc ?_ _)); exact BK355.out) hb); replace HB := Aside0.mk (below_step (by repeat (first | (with_reducible first | exact HB.out | apply below_alloc | apply pw_below_drewN | apply below_drew1 | refine below_set ?_ GE350.out | refine below_set ?_ GE351.out | refine below_set ?_ GE355.out) | exact HB.out)) hb); (try clear hb)) | ((with_reducible refine gate_dst (N := 35) rfl ?_); refine box_event ?hg (N := 35) ?hd (cs := #[.int .i64 0, .int .i64 0]) (t := 40) ?hr ?_; (case hd => rfl); (case hg => rfl); (case hr => first | (go_simp; done) | (go_simp; rfl)); intro gb363 hg w142 hbox hb; have BK363 := Aside0.mk (hbox); have GW363 := Aside0.mk ((by rw [hg]; exact (below_size (by repeat (first | (with_reducible first | exact HB.out | apply below_alloc | apply pw_below_drewN | apply below_drew1 | refine below_set ?_ GE350.out | refine below_set ?_ GE351.out | refine below_set ?_ GE355.out) | exact HB.out))) : w.heap.size ≤ gb363)); have GE363 := Aside0.mk ((by rw [hg]; exact (below_size (by repeat (first | (with_reducible first | exact HB.out | apply below_alloc | apply pw_below_drewN | apply below_drew1 | refine below_set ?_ GE350.out | refine below_set ?_ GE351.out | refine below_set ?_ GE355.out) | exact HB.out))) : w.heap.size ≤ gb363)); have NB350_363 := Aside0.mk ((by rw [hg]; exact Nat.ne_of_lt (blk_lt (g := gb350) (o := .cells #[.int .i64 t345, .int .i64 t346] 38 (0, 0)) (by (with_reducible repeat (first | refine blk_drewN ?_ _ | refine blk_drew ?_ | refine blk_alloc ?_ _)); exact BK350.out)) : gb350 ≠ gb363)); have NB363_350 := Aside0.mk ((by rw [hg]; exact Nat.ne_of_gt (blk_lt (g := gb350) (o := .cells #[.int .i64 t345, .int .i64 t346] 38 (0, 0)) (by (with_reducible repeat (first | refine blk_drewN ?_ _ | refine blk_drew ?_ | refine blk_alloc ?_ _)); exact BK350.out)) : gb363 ≠ gb350)); have NB351_363 := Aside0.mk ((by rw [hg]; exact Nat.ne_of_lt (blk_lt (g := gb351) (o := .cells #[.int .i64 t348, .int .i64 t349] 40 (0, 0)) (by (with_reducible repeat (first | refine blk_drewN ?_ _ | refine blk_drew ?_ | refine blk_alloc ?_ _)); exact BK351.out)) : gb351 ≠ gb363)); have NB363_351 := Aside0.mk ((by rw [hg]; exact Nat.ne_of_gt (blk_lt (g := gb351) (o := .cells #[.int .i64 t348, .int .i64 t349] 40 (0, 0)) (by (with_reducible repeat (first | refine blk_drewN ?_ _ | refine blk_drew ?_ | refine blk_alloc ?_ _)); exact BK351.out)) : gb363 ≠ gb351)); have NB355_363 := Aside0.mk ((by rw [hg]; exact Nat.ne_of_lt (blk_lt (g := gb355) (o := .cells #[.int .i64 t352, .int .i64 t353] 40 (0, 0)) (by (with_reducible repeat (first | refine blk_drewN ?_ _ | refine blk_drew ?_ | refine blk_alloc ?_ _)); exact BK355.out)) : gb355 ≠ gb363)); have NB363_355 := Aside0.mk ((by rw [hg]; exact Nat.ne_of_gt (blk_lt (g := gb355) (o := .cells #[.int .i64 t352, .int .i64 t353] 40 (0, 0)) (by (with_reducible repeat (first | refine blk_drewN ?_ _ | refine blk_drew ?_ | refine blk_alloc ?_ _)); exact BK355.out)) : gb363 ≠ gb355)); replace BK350 := Aside0.mk (blk_below (g := gb350) (o := .cells #[.int .i64 t345, .int .i64 t346] 38 (0, 0)) (by (with_reducible repeat (first | refine blk_drewN ?_ _ | refine blk_drew ?_ | refine blk_alloc ?_ _)); exact BK350.out) hb); replace BK351 := Aside0.mk (blk_below (g := gb351) (o := .cells #[.int .i64 t348, .int .i64 t349] 40 (0, 0)) (by (with_reducible repeat (first | refine blk_drewN ?_ _ | refine blk_drew ?_ | refine blk_alloc ?_ _)); exact BK351.out) hb); replace BK355 := Aside0.mk (blk_below (g := gb355) (o := .cells #[.int .i64 t352, .int .i64 t353] 40 (0, 0)) (by (with_reducible repeat (first | refine blk_drewN ?_ _ | refine blk_drew ?_ | refine blk_alloc ?_ _)); exact BK355.out) hb); replace HB := Aside0.mk (below_step (by repeat (first | (with_reducible first | exact HB.out | apply below_alloc | apply pw_below_drewN | apply below_drew1 | refine below_set ?_ GE350.out | refine below_set ?_ GE351.out | refine below_set ?_ GE355.out) | exact HB.out)) hb); clear hb hbox hg; have hnb143 := NB363_350.out; have hnc143 := NB350_363.out; have hnb144 := NB363_351.out; have hnc144 := NB351_363.out; have hnb145 := NB363_355.out; have hnc145 := NB355_363.out; have hcz146_0 : w142.cell? ⟨gb363, 0, none⟩ = some (.int .i64 0) := (blk_cell BK363.out 0).trans rfl; have hcz146_1 : w142.cell? ⟨gb363, 1, none⟩ = some (.int .i64 0) := (blk_cell BK363.out 1).trans rfl; have hfz146_0 := blk_frozen BK363.out 0; have hfz146_1 := blk_frozen BK363.out 1; have hcz147_0 : w142.cell? ⟨gb350, 0, none⟩ = some (.int .i64 t345) := (blk_cell BK350.out 0).trans rfl; have hcz147_1 : w142.cell? ⟨gb350, 1, none⟩ = some (.int .i64 t346) := (blk_cell BK350.out 1).trans rfl; have hfz147_0 := blk_frozen BK350.out 0; have hfz147_1 := blk_frozen BK350.out 1; have hcz148_0 : w142.cell? ⟨gb355, 0, none⟩ = some (.int .i64 t352) := (blk_cell BK355.out 0).trans rfl; have hcz148_1 : w142.cell? ⟨gb355, 1, none⟩ = some (.int .i64 t353) := (blk_cell BK355.out 1).trans rfl; have hfz148_0 := blk_frozen BK355.out 0; have hfz148_1 := blk_frozen BK355.out 1; have hcz149_0 : w142.cell? ⟨gb351, 0, none⟩ = some (.int .i64 t348) := (blk_cell BK351.out 0).trans rfl; have hcz149_1 : w142.cell? ⟨gb351, 1, none⟩ = some (.int .i64 t349) := (blk_cell BK351.out 1).trans rfl; have hfz149_0 := blk_frozen BK351.out 0; have hfz149_1 := blk_frozen BK351.out 1) | ((with_reducible refine gate_callee (f := 31) rfl ?_); refine goesL_ (some 250) rfl rfl Try.func31 (by kernel_rfl) rfl #[.agg #[.int .i64 t345, .int .i64 t346], .agg #[.int .i64 t352, .int .i64 t353], .agg #[.int .i64 t348, .int .i64 t349]] rfl (by (try simp only [List.map_toArray, List.map_cons, List.map_nil]); first | done | rfl | (simp only [List.length_drop, List.length_take]; rfl)) ?_; (with_reducible refine (impl_AddPoints.calls kj129 t345 t346 t352 t353 t348 t349 t364 t365 t366 _ A134.out).mono ?_); rintro e w150 ⟨rfl, hb⟩; refine ⟨_, rfl, ?_⟩; replace BK350 := Aside0.mk (blk_below (g := gb350) (o := .cells #[.int .i64 t345, .int .i64 t346] 38 (0, 0)) (by (with_reducible repeat (first | refine blk_drewN ?_ _ | refine blk_drew ?_ | refine blk_alloc ?_ _)); refine blk_far ?_ NB350_363.out _; (with_reducible repeat (first | refine blk_drewN ?_ _ | refine blk_drew ?_ | refine blk_alloc ?_ _)); refine blk_far ?_ NB350_363.out _; (with_reducible repeat (first | refine blk_drewN ?_ _ | refine blk_drew ?_ | refine blk_alloc ?_ _)); exact BK350.out) hb); replace BK351 := Aside0.mk (blk_below (g := gb351) (o := .cells #[.int .i64 t348, .int .i64 t349] 40 (0, 0)) (by (with_reducible repeat (first | refine blk_drewN ?_ _ | refine blk_drew ?_ | refine blk_alloc ?_ _)); refine blk_far ?_ NB351_363.out _; (with_reducible repeat (first | refine blk_drewN ?_ _ | refine blk_drew ?_ | refine blk_alloc ?_ _)); refine blk_far ?_ NB351_363.out _; (with_reducible repeat (first | refine blk_drewN ?_ _ | refine blk_drew ?_ | refine blk_alloc ?_ _)); exact BK351.out) hb); replace BK355 := Aside0.mk (blk_below (g := gb355) (o := .cells #[.int .i64 t352, .int .i64 t353] 40 (0, 0)) (by (with_reducible repeat (first | refine blk_drewN ?_ _ | refine blk_drew ?_ | refine blk_alloc ?_ _)); refine blk_far ?_ NB355_363.out _; (with_reducible repeat (first | refine blk_drewN ?_ _ | refine blk_drew ?_ | refine blk_alloc ?_ _)); refine blk_far ?_ NB355_363.out _; (with_reducible repeat (first | refine blk_drewN ?_ _ | refine blk_drew ?_ | refine blk_alloc ?_ _)); exact BK355.out) hb); replace BK363 := Aside0.mk (blk_below (g := gb363) (o := .cells #[.int .i64 t360, .int .i64 t361] 40 (0, 0)) (by (with_reducible repeat (first | refine blk_drewN ?_ _ | refine blk_drew ?_ | refine blk_alloc ?_ _)); refine blk_put (cs := #[.int .i64 t360, .int .i64 0]) ?_ 1 _ rfl; (with_reducible repeat (first | refine blk_drewN ?_ _ | refine blk_drew ?_ | refine blk_alloc ?_ _)); refine blk_put (cs := #[.int .i64 0, .int .i64 0]) ?_ 0 _ rfl; (with_reducible repeat (first | refine blk_drewN ?_ _ | refine blk_drew ?_ | refine blk_alloc ?_ _)); exact BK363.out) hb); replace HB := Aside0.mk (below_step (by repeat (first | (with_reducible first | exact HB.out | apply below_alloc | apply pw_below_drewN | apply below_drew1 | refine below_set ?_ GE350.out | refine below_set ?_ GE351.out | refine below_set ?_ GE355.out | refine below_set ?_ GE363.out) | exact HB.out)) hb); (try clear hb)) | ((with_reducible refine gate_dst (N := 37) rfl ?_); refine box_event ?hg (N := 37) ?hd (cs := #[.int .i64 0, .int .i64 0]) (t := 40) ?hr ?_; (case hd => rfl); (case hg => rfl); (case hr => first | (go_simp; done) | (go_simp; rfl)); intro gb367 hg w151 hbox hb; have BK367 := Aside0.mk (hbox); have GW367 := Aside0.mk ((by rw [hg]; exact (below_size (by repeat (first | (with_reducible first | exact HB.out | apply below_alloc | apply pw_below_drewN | apply below_drew1 | refine below_set ?_ GE350.out | refine below_set ?_ GE351.out | refine below_set ?_ GE355.out | refine below_set ?_ GE363.out) | exact HB.out))) : w.heap.size ≤ gb367)); have GE367 := Aside0.mk ((by rw [hg]; exact (below_size (by repeat (first | (with_reducible first | exact HB.out | apply below_alloc | apply pw_below_drewN | apply below_drew1 | refine below_set ?_ GE350.out | refine below_set ?_ GE351.out | refine below_set ?_ GE355.out | refine below_set ?_ GE363.out) | exact HB.out))) : w.heap.size ≤ gb367)); have NB350_367 := Aside0.mk ((by rw [hg]; exact Nat.ne_of_lt (blk_lt (g := gb350) (o := .cells #[.int .i64 t345, .int .i64 t346] 38 (0, 0)) (by (with_reducible repeat (first | refine blk_drewN ?_ _ | refine blk_drew ?_ | refine blk_alloc ?_ _)); exact BK350.out)) : gb350 ≠ gb367)); have NB367_350 := Aside0.mk ((by rw [hg]; exact Nat.ne_of_gt (blk_lt (g := gb350) (o := .cells #[.int .i64 t345, .int .i64 t346] 38 (0, 0)) (by (with_reducible repeat (first | refine blk_drewN ?_ _ | refine blk_drew ?_ | refine blk_alloc ?_ _)); exact BK350.out)) : gb367 ≠ gb350)); have NB351_367 := Aside0.mk ((by rw [hg]; exact Nat.ne_of_lt (blk_lt (g := gb351) (o := .cells #[.int .i64 t348, .int .i64 t349] 40 (0, 0)) (by (with_reducible repeat (first | refine blk_drewN ?_ _ | refine blk_drew ?_ | refine blk_alloc ?_ _)); exact BK351.out)) : gb351 ≠ gb367)); have NB367_351 := Aside0.mk ((by rw [hg]; exact Nat.ne_of_gt (blk_lt (g := gb351) (o := .cells #[.int .i64 t348, .int .i64 t349] 40 (0, 0)) (by (with_reducible repeat (first | refine blk_drewN ?_ _ | refine blk_drew ?_ | refine blk_alloc ?_ _)); exact BK351.out)) : gb367 ≠ gb351)); have NB355_367 := Aside0.mk ((by rw [hg]; exact Nat.ne_of_lt (blk_lt (g := gb355) (o := .cells #[.int .i64 t352, .int .i64 t353] 40 (0, 0)) (by (with_reducible repeat (first | refine blk_drewN ?_ _ | refine blk_drew ?_ | refine blk_alloc ?_ _)); exact BK355.out)) : gb355 ≠ gb367)); have NB367_355 := Aside0.mk ((by rw [hg]; exact Nat.ne_of_gt (blk_lt (g := gb355) (o := .cells #[.int .i64 t352, .int .i64 t353] 40 (0, 0)) (by (with_reducible repeat (first | refine blk_drewN ?_ _ | refine blk_drew ?_ | refine blk_alloc ?_ _)); exact BK355.out)) : gb367 ≠ gb355)); have NB363_367 := Aside0.mk ((by rw [hg]; exact Nat.ne_of_lt (blk_lt (g := gb363) (o := .cells #[.int .i64 t360, .int .i64 t361] 40 (0, 0)) (by (with_reducible repeat (first | refine blk_drewN ?_ _ | refine blk_drew ?_ | refine blk_alloc ?_ _)); exact BK363.out)) : gb363 ≠ gb367)); have NB367_363 := Aside0.mk ((by rw [hg]; exact Nat.ne_of_gt (blk_lt (g := gb363) (o := .cells #[.int .i64 t360, .int .i64 t361] 40 (0, 0)) (by (with_reducible repeat (first | refine blk_drewN ?_ _ | refine blk_drew ?_ | refine blk_alloc ?_ _)); exact BK363.out)) : gb367 ≠ gb363)); replace BK350 := Aside0.mk (blk_below (g := gb350) (o := .cells #[.int .i64 t345, .int .i64 t346] 38 (0, 0)) (by (with_reducible repeat (first | refine blk_drewN ?_ _ | refine blk_drew ?_ | refine blk_alloc ?_ _)); exact BK350.out) hb); replace BK351 := Aside0.mk (blk_below (g := gb351) (o := .cells #[.int .i64 t348, .int .i64 t349] 40 (0, 0)) (by (with_reducible repeat (first | refine blk_drewN ?_ _ | refine blk_drew ?_ | refine blk_alloc ?_ _)); exact BK351.out) hb); replace BK355 := Aside0.mk (blk_below (g := gb355) (o := .cells #[.int .i64 t352, .int .i64 t353] 40 (0, 0)) (by (with_reducible repeat (first | refine blk_drewN ?_ _ | refine blk_drew ?_ | refine blk_alloc ?_ _)); exact BK355.out) hb); replace BK363 := Aside0.mk (blk_below (g := gb363) (o := .cells #[.int .i64 t360, .int .i64 t361] 40 (0, 0)) (by (with_reducible repeat (first | refine blk_drewN ?_ _ | refine blk_drew ?_ | refine blk_alloc ?_ _)); exact BK363.out) hb); replace HB := Aside0.mk (below_step (by repeat (first | (with_reducible first | exact HB.out | apply below_alloc | apply pw_below_drewN | apply below_drew1 | refine below_set ?_ GE350.out | refine below_set ?_ GE351.out | refine below_set ?_ GE355.out | refine below_set ?_ GE363.out) | exact HB.out)) hb); clear hb hbox hg; have hnb152 := NB367_350.out; have hnc152 := NB350_367.out; have hnb153 := NB367_351.out; have hnc153 := NB351_367.out; have hnb154 := NB367_355.out; have hnc154 := NB355_367.out; have hnb155 := NB367_363.out; have hnc155 := NB363_367.out; have hcz156_0 : w151.cell? ⟨gb367, 0, none⟩ = some (.int .i64 0) := (blk_cell BK367.out 0).trans rfl; have hcz156_1 : w151.cell? ⟨gb367, 1, none⟩ = some (.int .i64 0) := (blk_cell BK367.out 1).trans rfl; have hfz156_0 := blk_frozen BK367.out 0; have hfz156_1 := blk_frozen BK367.out 1))
                    (try simp only [Act.put, List.setIfInBounds_toArray, List.set_cons_zero, List.set_cons_succ])
                    go_cut [263] (fun v263 wc => ∃ (kq : Nat) (x263_134 : Bool), v263 = .bool x263_134 ∧ Aside0 (laws_FnPoints.j5 kq l1 x263_134 = some r) ∧ Aside0 (kq ≤ kj129) ∧ Aside0 (Below w.heap.size w wc))
                    case first =>
                     as_aux_lemma =>
                      have H := HC135.out
                      clear HC135
                      by_cases c157 : t362 = true
                      ·subst c157
                       have H1 : (if t366 = true then (laws_FnPoints.j5 kj129 l1 (!(t360 == t364) || (!(t361 == t365)))) else (laws_FnPoints.j5 kj129 l1 true)) = some r := by rw [if_pos rfl] at H; exact H
                       clear H
                       have H := H1
                       clear H1
                       by_cases c158 : t366 = true
                       ·subst c158
                        have H1 : (laws_FnPoints.j5 kj129 l1 (!(t360 == t364) || (!(t361 == t365)))) = some r := by rw [if_pos rfl] at H; exact H
                        clear H
                        have H := H1
                        clear H1
                        as_aux_lemma =>
                         have H' := Aside0.mk H
                         clear H
                         have hcz163_0 : w151.cell? ⟨gb363, 0, none⟩ = some (.int .i64 t360) := (blk_cell BK363.out 0).trans rfl
                         have hcz163_1 : w151.cell? ⟨gb363, 1, none⟩ = some (.int .i64 t361) := (blk_cell BK363.out 1).trans rfl
                         have hfz163_0 := blk_frozen BK363.out 0
                         have hfz163_1 := blk_frozen BK363.out 1
                         have hcz167_0 : w151.cell? ⟨gb367, 0, none⟩ = some (.int .i64 0) := (blk_cell BK367.out 0).trans rfl
                         have hcz167_1 : w151.cell? ⟨gb367, 1, none⟩ = some (.int .i64 0) := (blk_cell BK367.out 1).trans rfl
                         have hfz167_0 := blk_frozen BK367.out 0
                         have hfz167_1 := blk_frozen BK367.out 1
                         go_wp2
                         all_goals (try exact absurd ‹some undef = some (Value.bool _)› (by simp [undef]))
                         go_meet
                         case rel => exact ⟨_, ((!(t360 == t364) || (!(t361 == t365)))), (by first | rfl | (simp; done) | (simp [*]; done)), H', ⟨by have := HJ10.out; have := HJ37.out; have := HJ43.out; have := HJ100.out; have := HJ129.out; first | omega | exact Nat.le_refl _⟩, ⟨by repeat (first | (with_reducible first | exact HB.out | apply below_alloc | apply pw_below_drewN | apply below_drew1 | refine below_set ?_ GE350.out | refine below_set ?_ GE351.out | refine below_set ?_ GE355.out | refine below_set ?_ GE363.out | refine below_set ?_ GE367.out) | exact HB.out)⟩⟩
                       ·replace c158 := Bool.eq_false_iff.mpr c158
                        subst c158
                        have H1 : (laws_FnPoints.j5 kj129 l1 true) = some r := by rw [if_neg (show ¬ (false = true) by decide)] at H; exact H
                        clear H
                        have H := H1
                        clear H1
                        exfalso
                        cases kj129 with
                        | zero => exact absurd H (by simp [laws_FnPoints.j5])
                        | succ kz_ => rw [laws_FnPoints.j5, if_pos rfl] at H; exact absurd ((Option.some.inj H).trans HR_.out) (by decide)
                      ·replace c157 := Bool.eq_false_iff.mpr c157
                       subst c157
                       have H1 : (laws_FnPoints.j5 kj129 l1 true) = some r := by rw [if_neg (show ¬ (false = true) by decide)] at H; exact H
                       clear H
                       have H := H1
                       clear H1
                       exfalso
                       cases kj129 with
                       | zero => exact absurd H (by simp [laws_FnPoints.j5])
                       | succ kz_ => rw [laws_FnPoints.j5, if_pos rfl] at H; exact absurd ((Option.some.inj H).trans HR_.out) (by decide)
                    case rest =>
                     as_aux_lemma =>
                      clear HC135
                      try clear c1
                      try clear p2
                      try clear c3
                      try clear c3b0
                      try clear c4
                      try clear c5
                      try clear c6
                      try clear p6
                      try clear c7
                      try clear c8
                      try clear c9
                      try clear c10
                      try clear c11
                      try clear c12
                      try clear c13
                      try clear c14
                      try clear c15
                      try clear c16
                      try clear c31
                      try clear c32
                      try clear c32b0
                      try clear c32b1
                      try clear c32b2
                      try clear c33
                      try clear c33b0
                      try clear c33b1
                      try clear c34
                      try clear c34b0
                      try clear c34b1
                      try clear c34b2
                      try clear c35
                      try clear c35b0
                      try clear c35b1
                      try clear c36
                      try clear c36b0
                      try clear c36b1
                      try clear c36b2
                      try clear c37
                      try clear c38
                      try clear c39
                      try clear c40
                      try clear c40b0
                      try clear c41
                      try clear c41b0
                      try clear c41b1
                      try clear c42
                      try clear c43
                      try clear c44
                      try clear c45
                      try clear c46
                      try clear c47
                      try clear c48
                      try clear c49
                      try clear c50
                      try clear c51
                      try clear c51b0
                      try clear c51b1
                      try clear c52
                      try clear c52b0
                      try clear c52b1
                      try clear c53
                      try clear c54
                      try clear c55
                      try clear c55b0
                      try clear c56
                      try clear c57
                      try clear c57b0
                      try clear c58
                      try clear c59
                      try clear c60
                      try clear c60b0
                      try clear c61
                      try clear p64
                      try clear c65
                      try clear c66
                      try clear c72
                      try clear c73
                      try clear c74
                      try clear c80
                      try clear c81
                      try clear c82
                      try clear c83
                      try clear c88
                      try clear c89
                      try clear c90
                      try clear c91
                      try clear c92
                      try clear c105
                      try clear c110
                      try clear c111
                      try clear c117
                      try clear c118
                      try clear c119
                      try clear c121
                      try clear c121b0
                      try clear c121b1
                      try clear c121b2
                      try clear c122
                      try clear c123
                      try clear c124
                      try clear c126
                      try clear c127
                      try clear c129
                      try clear c131
                      try clear c132
                      try clear c136
                      try clear c137
                      try clear c139
                      try clear c143
                      try clear c144
                      try clear c145
                      try clear c152
                      try clear c153
                      try clear c154
                      try clear c155
                      try clear c157
                      try clear c158
                      try clear c159
                      try clear c160
                      try clear c161
                      try clear c162
                      try clear c164
                      try clear c165
                      try clear c166
                      try clear hcz106_0
                      try clear hcz106_1
                      try clear hcz107_0
                      try clear hcz107_1
                      try clear hcz112_0
                      try clear hcz112_1
                      try clear hcz113_0
                      try clear hcz113_1
                      try clear hcz114_0
                      try clear hcz114_1
                      try clear hcz120_0
                      try clear hcz120_1
                      try clear hcz125_0
                      try clear hcz125_1
                      try clear hcz128_0
                      try clear hcz128_1
                      try clear hcz138_0
                      try clear hcz138_1
                      try clear hcz140_0
                      try clear hcz140_1
                      try clear hcz146_0
                      try clear hcz146_1
                      try clear hcz147_0
                      try clear hcz147_1
                      try clear hcz148_0
                      try clear hcz148_1
                      try clear hcz149_0
                      try clear hcz149_1
                      try clear hcz156_0
                      try clear hcz156_1
                      try clear hcz163_0
                      try clear hcz163_1
                      try clear hcz167_0
                      try clear hcz167_1
                      try clear hcz16_0
                      try clear hcz16_1
                      try clear hcz17_0
                      try clear hcz17_1
                      try clear hcz19_0
                      try clear hcz19_1
                      try clear hcz20_0
                      try clear hcz20_1
                      try clear hcz22_0
                      try clear hcz22_1
                      try clear hcz24_0
                      try clear hcz24_1
                      try clear hcz26_0
                      try clear hcz26_1
                      try clear hcz27_0
                      try clear hcz27_1
                      try clear hcz29_0
                      try clear hcz29_1
                      try clear hcz30_0
                      try clear hcz30_1
                      try clear hcz43_0
                      try clear hcz43_1
                      try clear hcz62_0
                      try clear hcz62_1
                      try clear hcz67_0
                      try clear hcz67_1
                      try clear hcz68_0
                      try clear hcz68_1
                      try clear hcz69_0
                      try clear hcz69_1
                      try clear hcz75_0
                      try clear hcz75_1
                      try clear hcz76_0
                      try clear hcz76_1
                      try clear hcz77_0
                      try clear hcz77_1
                      try clear hcz84_0
                      try clear hcz84_1
                      try clear hcz85_0
                      try clear hcz85_1
                      try clear hcz93_0
                      try clear hcz93_1
                      try clear hcz94_0
                      try clear hcz94_1
                      try clear hcz95_0
                      try clear hcz95_1
                      try clear hcz96_0
                      try clear hcz96_1
                      try clear hcz97_0
                      try clear hcz97_1
                      try clear hfz106_0
                      try clear hfz106_1
                      try clear hfz107_0
                      try clear hfz107_1
                      try clear hfz112_0
                      try clear hfz112_1
                      try clear hfz113_0
                      try clear hfz113_1
                      try clear hfz114_0
                      try clear hfz114_1
                      try clear hfz120_0
                      try clear hfz120_1
                      try clear hfz125_0
                      try clear hfz125_1
                      try clear hfz128_0
                      try clear hfz128_1
                      try clear hfz138_0
                      try clear hfz138_1
                      try clear hfz140_0
                      try clear hfz140_1
                      try clear hfz146_0
                      try clear hfz146_1
                      try clear hfz147_0
                      try clear hfz147_1
                      try clear hfz148_0
                      try clear hfz148_1
                      try clear hfz149_0
                      try clear hfz149_1
                      try clear hfz156_0
                      try clear hfz156_1
                      try clear hfz163_0
                      try clear hfz163_1
                      try clear hfz167_0
                      try clear hfz167_1
                      try clear hfz16_0
                      try clear hfz16_1
                      try clear hfz17_0
                      try clear hfz17_1
                      try clear hfz19_0
                      try clear hfz19_1
                      try clear hfz20_0
                      try clear hfz20_1
                      try clear hfz22_0
                      try clear hfz22_1
                      try clear hfz24_0
                      try clear hfz24_1
                      try clear hfz26_0
                      try clear hfz26_1
                      try clear hfz27_0
                      try clear hfz27_1
                      try clear hfz29_0
                      try clear hfz29_1
                      try clear hfz30_0
                      try clear hfz30_1
                      try clear hfz43_0
                      try clear hfz43_1
                      try clear hfz62_0
                      try clear hfz62_1
                      try clear hfz67_0
                      try clear hfz67_1
                      try clear hfz68_0
                      try clear hfz68_1
                      try clear hfz69_0
                      try clear hfz69_1
                      try clear hfz75_0
                      try clear hfz75_1
                      try clear hfz76_0
                      try clear hfz76_1
                      try clear hfz77_0
                      try clear hfz77_1
                      try clear hfz84_0
                      try clear hfz84_1
                      try clear hfz85_0
                      try clear hfz85_1
                      try clear hfz93_0
                      try clear hfz93_1
                      try clear hfz94_0
                      try clear hfz94_1
                      try clear hfz95_0
                      try clear hfz95_1
                      try clear hfz96_0
                      try clear hfz96_1
                      try clear hfz97_0
                      try clear hfz97_1
                      try clear p2
                      try clear p6
                      try clear p64
                      obtain ⟨kq, x263_134, rfl, HA, HJ134, HB⟩ := hcut
                      cases kq with
                      | zero => exact absurd HA.out (by simp [laws_FnPoints.j5])
                      | succ kj134 =>
                       have H := HA.out
                       clear HA
                       simp only [laws_FnPoints.j5] at H
                       by_cases c168 : x263_134 = true
                       ·subst c168
                        have H1 : (some false) = some r := by rw [if_pos rfl] at H; exact H
                        clear H
                        have H := H1
                        clear H1
                        exact absurd ((Option.some.inj H).trans HR_.out) (by decide)
                       ·replace c168 := Bool.eq_false_iff.mpr c168
                        subst c168
                        have H1 : ((spec_DrawOfShort.f kj134 l1).bind fun bt368 => ((impl_OfShort.f kj134 bt368.1 bt368.2.1 bt368.2.2).bind fun bt372 => ((spec_OfShort.f kj134 bt368.1 bt368.2.1 bt368.2.2).bind fun bt376 => (if (bt372.2.2 == bt376.2.2) = true then (some (bt372.1 == bt376.1 && (bt372.2.1 == bt376.2.1))) else (some false))))) = some r := by rw [if_neg (show ¬ (false = true) by decide)] at H; exact H
                        clear H
                        have H := H1
                        clear H1
                        replace H := Option.bind_eq_some_iff.mp H
                        obtain ⟨⟨t368, t369, t370⟩, A1690, H⟩ := H
                        replace H : ((impl_OfShort.f kj134 t368 t369 t370).bind fun bt372 => ((spec_OfShort.f kj134 t368 t369 t370).bind fun bt376 => (if (bt372.2.2 == bt376.2.2) = true then (some (bt372.1 == bt376.1 && (bt372.2.1 == bt376.2.1))) else (some false)))) = some r := H
                        have A169 := Aside0.mk A1690
                        clear A1690
                        replace H := Option.bind_eq_some_iff.mp H
                        obtain ⟨⟨t372, t373, t374⟩, A1700, H⟩ := H
                        replace H : ((spec_OfShort.f kj134 t368 t369 t370).bind fun bt376 => (if (t374 == bt376.2.2) = true then (some (t372 == bt376.1 && (t373 == bt376.2.1))) else (some false))) = some r := H
                        have A170 := Aside0.mk A1700
                        clear A1700
                        replace H := Option.bind_eq_some_iff.mp H
                        obtain ⟨⟨t376, t377, t378⟩, A1710, H⟩ := H
                        replace H : (if (t374 == t378) = true then (some (t372 == t376 && (t373 == t377))) else (some false)) = some r := H
                        have A171 := Aside0.mk A1710
                        clear A1710
                        by_cases c172 : (t374 == t378) = true
                        ·rw [if_pos c172] at H
                         have c172b0 : (t374 == t378) = true := c172
                         (try (have c172b1 : decide (t374 = t378) = true := by simpa using c172))
                         (try (have c172b2 : (t374 == t378) = true := by simpa using c172))
                         clear c172
                         as_aux_lemma =>
                          obtain rfl := Option.some.inj H
                          go_wp2_with (first | ((with_reducible refine gate_callee (f := 53) rfl ?_); refine goesL_ (some 266) rfl rfl Try.func53 (by kernel_rfl) rfl #[.slice A1 l1.length c1] rfl (by (try simp only [List.map_toArray, List.map_cons, List.map_nil]); first | done | rfl | (simp only [List.length_drop, List.length_take]; rfl)) ?_; (with_reducible refine (spec_DrawOfShort.calls kj134 _ _ l1 t368 t369 t370 _ ?side1 ?side2 A169.out).mono ?_); (case side1 => repeat (first | exact (Kd.C_below HR1.out HB.out) | (with_reducible refine Kd.C_alloc ?_ _) | (with_reducible refine Kd.C_drewN ?_ _) | (with_reducible refine Kd.C_drew ?_))); (case side2 => exact HC1.out); rintro e w173 ⟨rfl, hb⟩; refine ⟨_, rfl, ?_⟩; replace HB := bS_ HB hb; (try clear hb)) | ((with_reducible refine gate_dst (N := 39) rfl ?_); refine box_event ?hg (N := 39) ?hd (cs := #[.int .i64 0, .int .i64 0]) (t := 38) ?hr ?_; (case hd => rfl); (case hg => rfl); (case hr => first | (go_simp; done) | (go_simp; rfl)); intro gb371 hg w174 hbox hb; have BK371 := Aside0.mk (hbox); have GW371 := Aside0.mk ((by rw [hg]; exact (below_size (bU_ HB)) : w.heap.size ≤ gb371)); have GE371 := Aside0.mk ((by rw [hg]; exact (below_size (bU_ HB)) : w.heap.size ≤ gb371)); replace HB := bS_ HB hb; clear hb hbox hg; have hcz175_0 : w174.cell? ⟨gb371, 0, none⟩ = some (.int .i64 0) := (blk_cell BK371.out 0).trans rfl; have hcz175_1 : w174.cell? ⟨gb371, 1, none⟩ = some (.int .i64 0) := (blk_cell BK371.out 1).trans rfl; have hfz175_0 := blk_frozen BK371.out 0; have hfz175_1 := blk_frozen BK371.out 1) | ((with_reducible refine gate_callee (f := 50) rfl ?_); refine goesL_ (some 272) rfl rfl Try.func50 (by kernel_rfl) rfl #[.agg #[.int .i64 t368, .int .i64 t369], .int .i64 t370] rfl (by (try simp only [List.map_toArray, List.map_cons, List.map_nil]); first | done | rfl | (simp only [List.length_drop, List.length_take]; rfl)) ?_; (with_reducible refine (impl_OfShort.calls kj134 t368 t369 t370 t372 t373 t374 _ A170.out).mono ?_); rintro e w176 ⟨rfl, hb⟩; refine ⟨_, rfl, ?_⟩; replace BK371 := Aside0.mk (blk_below (g := gb371) (o := .cells #[.int .i64 t368, .int .i64 t369] 38 (0, 0)) (by (with_reducible repeat (first | refine blk_drewN ?_ _ | refine blk_drew ?_ | refine blk_alloc ?_ _)); refine blk_put (cs := #[.int .i64 t368, .int .i64 0]) ?_ 1 _ rfl; (with_reducible repeat (first | refine blk_drewN ?_ _ | refine blk_drew ?_ | refine blk_alloc ?_ _)); refine blk_put (cs := #[.int .i64 0, .int .i64 0]) ?_ 0 _ rfl; (with_reducible repeat (first | refine blk_drewN ?_ _ | refine blk_drew ?_ | refine blk_alloc ?_ _)); exact BK371.out) hb); replace HB := Aside0.mk (below_step (by repeat (first | (with_reducible first | exact HB.out | apply below_alloc | apply pw_below_drewN | apply below_drew1 | refine below_set ?_ GE371.out) | exact HB.out)) hb); (try clear hb)) | ((with_reducible refine gate_dst (N := 41) rfl ?_); refine box_event ?hg (N := 41) ?hd (cs := #[.int .i64 0, .int .i64 0]) (t := 40) ?hr ?_; (case hd => rfl); (case hg => rfl); (case hr => first | (go_simp; done) | (go_simp; rfl)); intro gb375 hg w177 hbox hb; have BK375 := Aside0.mk (hbox); have GW375 := Aside0.mk ((by rw [hg]; exact (below_size (by repeat (first | (with_reducible first | exact HB.out | apply below_alloc | apply pw_below_drewN | apply below_drew1 | refine below_set ?_ GE371.out) | exact HB.out))) : w.heap.size ≤ gb375)); have GE375 := Aside0.mk ((by rw [hg]; exact (below_size (by repeat (first | (with_reducible first | exact HB.out | apply below_alloc | apply pw_below_drewN | apply below_drew1 | refine below_set ?_ GE371.out) | exact HB.out))) : w.heap.size ≤ gb375)); have NB371_375 := Aside0.mk ((by rw [hg]; exact Nat.ne_of_lt (blk_lt (g := gb371) (o := .cells #[.int .i64 t368, .int .i64 t369] 38 (0, 0)) (by (with_reducible repeat (first | refine blk_drewN ?_ _ | refine blk_drew ?_ | refine blk_alloc ?_ _)); exact BK371.out)) : gb371 ≠ gb375)); have NB375_371 := Aside0.mk ((by rw [hg]; exact Nat.ne_of_gt (blk_lt (g := gb371) (o := .cells #[.int .i64 t368, .int .i64 t369] 38 (0, 0)) (by (with_reducible repeat (first | refine blk_drewN ?_ _ | refine blk_drew ?_ | refine blk_alloc ?_ _)); exact BK371.out)) : gb375 ≠ gb371)); replace BK371 := Aside0.mk (blk_below (g := gb371) (o := .cells #[.int .i64 t368, .int .i64 t369] 38 (0, 0)) (by (with_reducible repeat (first | refine blk_drewN ?_ _ | refine blk_drew ?_ | refine blk_alloc ?_ _)); exact BK371.out) hb); replace HB := Aside0.mk (below_step (by repeat (first | (with_reducible first | exact HB.out | apply below_alloc | apply pw_below_drewN | apply below_drew1 | refine below_set ?_ GE371.out) | exact HB.out)) hb); clear hb hbox hg; have hnb178 := NB375_371.out; have hnc178 := NB371_375.out; have hcz179_0 : w177.cell? ⟨gb375, 0, none⟩ = some (.int .i64 0) := (blk_cell BK375.out 0).trans rfl; have hcz179_1 : w177.cell? ⟨gb375, 1, none⟩ = some (.int .i64 0) := (blk_cell BK375.out 1).trans rfl; have hfz179_0 := blk_frozen BK375.out 0; have hfz179_1 := blk_frozen BK375.out 1; have hcz180_0 : w177.cell? ⟨gb371, 0, none⟩ = some (.int .i64 t368) := (blk_cell BK371.out 0).trans rfl; have hcz180_1 : w177.cell? ⟨gb371, 1, none⟩ = some (.int .i64 t369) := (blk_cell BK371.out 1).trans rfl; have hfz180_0 := blk_frozen BK371.out 0; have hfz180_1 := blk_frozen BK371.out 1) | ((with_reducible refine gate_callee (f := 54) rfl ?_); refine goesL_ (some 278) rfl rfl Try.func54 (by kernel_rfl) rfl #[.agg #[.int .i64 t368, .int .i64 t369], .int .i64 t370] rfl (by (try simp only [List.map_toArray, List.map_cons, List.map_nil]); first | done | rfl | (simp only [List.length_drop, List.length_take]; rfl)) ?_; (with_reducible refine (spec_OfShort.calls kj134 t368 t369 t370 t376 t377 t378 _ A171.out).mono ?_); rintro e w181 ⟨rfl, hb⟩; refine ⟨_, rfl, ?_⟩; replace BK371 := Aside0.mk (blk_below (g := gb371) (o := .cells #[.int .i64 t368, .int .i64 t369] 38 (0, 0)) (by (with_reducible repeat (first | refine blk_drewN ?_ _ | refine blk_drew ?_ | refine blk_alloc ?_ _)); refine blk_far ?_ NB371_375.out _; (with_reducible repeat (first | refine blk_drewN ?_ _ | refine blk_drew ?_ | refine blk_alloc ?_ _)); refine blk_far ?_ NB371_375.out _; (with_reducible repeat (first | refine blk_drewN ?_ _ | refine blk_drew ?_ | refine blk_alloc ?_ _)); exact BK371.out) hb); replace BK375 := Aside0.mk (blk_below (g := gb375) (o := .cells #[.int .i64 t372, .int .i64 t373] 40 (0, 0)) (by (with_reducible repeat (first | refine blk_drewN ?_ _ | refine blk_drew ?_ | refine blk_alloc ?_ _)); refine blk_put (cs := #[.int .i64 t372, .int .i64 0]) ?_ 1 _ rfl; (with_reducible repeat (first | refine blk_drewN ?_ _ | refine blk_drew ?_ | refine blk_alloc ?_ _)); refine blk_put (cs := #[.int .i64 0, .int .i64 0]) ?_ 0 _ rfl; (with_reducible repeat (first | refine blk_drewN ?_ _ | refine blk_drew ?_ | refine blk_alloc ?_ _)); exact BK375.out) hb); replace HB := Aside0.mk (below_step (by repeat (first | (with_reducible first | exact HB.out | apply below_alloc | apply pw_below_drewN | apply below_drew1 | refine below_set ?_ GE371.out | refine below_set ?_ GE375.out) | exact HB.out)) hb); (try clear hb)) | ((with_reducible refine gate_dst (N := 43) rfl ?_); refine box_event ?hg (N := 43) ?hd (cs := #[.int .i64 0, .int .i64 0]) (t := 40) ?hr ?_; (case hd => rfl); (case hg => rfl); (case hr => first | (go_simp; done) | (go_simp; rfl)); intro gb379 hg w182 hbox hb; have BK379 := Aside0.mk (hbox); have GW379 := Aside0.mk ((by rw [hg]; exact (below_size (by repeat (first | (with_reducible first | exact HB.out | apply below_alloc | apply pw_below_drewN | apply below_drew1 | refine below_set ?_ GE371.out | refine below_set ?_ GE375.out) | exact HB.out))) : w.heap.size ≤ gb379)); have GE379 := Aside0.mk ((by rw [hg]; exact (below_size (by repeat (first | (with_reducible first | exact HB.out | apply below_alloc | apply pw_below_drewN | apply below_drew1 | refine below_set ?_ GE371.out | refine below_set ?_ GE375.out) | exact HB.out))) : w.heap.size ≤ gb379)); have NB371_379 := Aside0.mk ((by rw [hg]; exact Nat.ne_of_lt (blk_lt (g := gb371) (o := .cells #[.int .i64 t368, .int .i64 t369] 38 (0, 0)) (by (with_reducible repeat (first | refine blk_drewN ?_ _ | refine blk_drew ?_ | refine blk_alloc ?_ _)); exact BK371.out)) : gb371 ≠ gb379)); have NB379_371 := Aside0.mk ((by rw [hg]; exact Nat.ne_of_gt (blk_lt (g := gb371) (o := .cells #[.int .i64 t368, .int .i64 t369] 38 (0, 0)) (by (with_reducible repeat (first | refine blk_drewN ?_ _ | refine blk_drew ?_ | refine blk_alloc ?_ _)); exact BK371.out)) : gb379 ≠ gb371)); have NB375_379 := Aside0.mk ((by rw [hg]; exact Nat.ne_of_lt (blk_lt (g := gb375) (o := .cells #[.int .i64 t372, .int .i64 t373] 40 (0, 0)) (by (with_reducible repeat (first | refine blk_drewN ?_ _ | refine blk_drew ?_ | refine blk_alloc ?_ _)); exact BK375.out)) : gb375 ≠ gb379)); have NB379_375 := Aside0.mk ((by rw [hg]; exact Nat.ne_of_gt (blk_lt (g := gb375) (o := .cells #[.int .i64 t372, .int .i64 t373] 40 (0, 0)) (by (with_reducible repeat (first | refine blk_drewN ?_ _ | refine blk_drew ?_ | refine blk_alloc ?_ _)); exact BK375.out)) : gb379 ≠ gb375)); replace BK371 := Aside0.mk (blk_below (g := gb371) (o := .cells #[.int .i64 t368, .int .i64 t369] 38 (0, 0)) (by (with_reducible repeat (first | refine blk_drewN ?_ _ | refine blk_drew ?_ | refine blk_alloc ?_ _)); exact BK371.out) hb); replace BK375 := Aside0.mk (blk_below (g := gb375) (o := .cells #[.int .i64 t372, .int .i64 t373] 40 (0, 0)) (by (with_reducible repeat (first | refine blk_drewN ?_ _ | refine blk_drew ?_ | refine blk_alloc ?_ _)); exact BK375.out) hb); replace HB := Aside0.mk (below_step (by repeat (first | (with_reducible first | exact HB.out | apply below_alloc | apply pw_below_drewN | apply below_drew1 | refine below_set ?_ GE371.out | refine below_set ?_ GE375.out) | exact HB.out)) hb); clear hb hbox hg; have hnb183 := NB379_371.out; have hnc183 := NB371_379.out; have hnb184 := NB379_375.out; have hnc184 := NB375_379.out; have hcz185_0 : w182.cell? ⟨gb379, 0, none⟩ = some (.int .i64 0) := (blk_cell BK379.out 0).trans rfl; have hcz185_1 : w182.cell? ⟨gb379, 1, none⟩ = some (.int .i64 0) := (blk_cell BK379.out 1).trans rfl; have hfz185_0 := blk_frozen BK379.out 0; have hfz185_1 := blk_frozen BK379.out 1; have hcz186_0 : w182.cell? ⟨gb375, 0, none⟩ = some (.int .i64 t372) := (blk_cell BK375.out 0).trans rfl; have hcz186_1 : w182.cell? ⟨gb375, 1, none⟩ = some (.int .i64 t373) := (blk_cell BK375.out 1).trans rfl; have hfz186_0 := blk_frozen BK375.out 0; have hfz186_1 := blk_frozen BK375.out 1))
                          all_goals (try exact absurd ‹some undef = some (Value.bool _)› (by simp [undef]))
                          go_ret
                          exact ⟨by first | rfl | (simp [errW_none, errW_some] <;> rfl) | (simp [*, errW_none, errW_some] <;> rfl), by repeat (first | (with_reducible first | exact HB.out | apply below_alloc | apply pw_below_drewN | apply below_drew1 | refine below_set ?_ GE371.out | refine below_set ?_ GE375.out | refine below_set ?_ GE379.out) | exact HB.out)⟩
                        ·rw [if_neg c172] at H
                         have c172b0 : (t374 == t378) = false := by simpa using c172
                         (try (have c172b1 : decide (t374 = t378) = false := by simpa using c172))
                         (try (have c172b2 : (t374 == t378) = false := by simpa using c172))
                         (try (have c172b3 : ¬ (t374 = t378) := by simpa using c172))
                         clear c172
                         exact absurd ((Option.some.inj H).trans HR_.out) (by decide)
                   ·replace c132 := Bool.eq_false_iff.mpr c132
                    subst c132
                    have H1 : ((spec_DrawOfShort.f kj129 l1).bind fun bt380 => ((impl_OfShort.f kj129 bt380.1 bt380.2.1 bt380.2.2).bind fun bt384 => ((spec_OfShort.f kj129 bt380.1 bt380.2.1 bt380.2.2).bind fun bt388 => (if (bt384.2.2 == bt388.2.2) = true then (some (bt384.1 == bt388.1 && (bt384.2.1 == bt388.2.1))) else (some false))))) = some r := by rw [if_neg (show ¬ (false = true) by decide)] at H; exact H
                    clear H
                    have H := H1
                    clear H1
                    replace H := Option.bind_eq_some_iff.mp H
                    obtain ⟨⟨t380, t381, t382⟩, A1870, H⟩ := H
                    replace H : ((impl_OfShort.f kj129 t380 t381 t382).bind fun bt384 => ((spec_OfShort.f kj129 t380 t381 t382).bind fun bt388 => (if (bt384.2.2 == bt388.2.2) = true then (some (bt384.1 == bt388.1 && (bt384.2.1 == bt388.2.1))) else (some false)))) = some r := H
                    have A187 := Aside0.mk A1870
                    clear A1870
                    replace H := Option.bind_eq_some_iff.mp H
                    obtain ⟨⟨t384, t385, t386⟩, A1880, H⟩ := H
                    replace H : ((spec_OfShort.f kj129 t380 t381 t382).bind fun bt388 => (if (t386 == bt388.2.2) = true then (some (t384 == bt388.1 && (t385 == bt388.2.1))) else (some false))) = some r := H
                    have A188 := Aside0.mk A1880
                    clear A1880
                    replace H := Option.bind_eq_some_iff.mp H
                    obtain ⟨⟨t388, t389, t390⟩, A1890, H⟩ := H
                    replace H : (if (t386 == t390) = true then (some (t384 == t388 && (t385 == t389))) else (some false)) = some r := H
                    have A189 := Aside0.mk A1890
                    clear A1890
                    by_cases c190 : (t386 == t390) = true
                    ·rw [if_pos c190] at H
                     have c190b0 : (t386 == t390) = true := c190
                     (try (have c190b1 : decide (t386 = t390) = true := by simpa using c190))
                     (try (have c190b2 : (t386 == t390) = true := by simpa using c190))
                     clear c190
                     as_aux_lemma =>
                      obtain rfl := Option.some.inj H
                      go_wp2_with (first | ((with_reducible refine gate_callee (f := 53) rfl ?_); refine goesL_ (some 266) rfl rfl Try.func53 (by kernel_rfl) rfl #[.slice A1 l1.length c1] rfl (by (try simp only [List.map_toArray, List.map_cons, List.map_nil]); first | done | rfl | (simp only [List.length_drop, List.length_take]; rfl)) ?_; (with_reducible refine (spec_DrawOfShort.calls kj129 _ _ l1 t380 t381 t382 _ ?side1 ?side2 A187.out).mono ?_); (case side1 => repeat (first | exact (Kd.C_below HR1.out HB.out) | (with_reducible refine Kd.C_alloc ?_ _) | (with_reducible refine Kd.C_drewN ?_ _) | (with_reducible refine Kd.C_drew ?_))); (case side2 => exact HC1.out); rintro e w191 ⟨rfl, hb⟩; refine ⟨_, rfl, ?_⟩; replace BK350 := Aside0.mk (blk_below (g := gb350) (o := .cells #[.int .i64 t345, .int .i64 t346] 38 (0, 0)) (by (with_reducible repeat (first | refine blk_drewN ?_ _ | refine blk_drew ?_ | refine blk_alloc ?_ _)); exact BK350.out) hb); replace BK351 := Aside0.mk (blk_below (g := gb351) (o := .cells #[.int .i64 t348, .int .i64 t349] 40 (0, 0)) (by (with_reducible repeat (first | refine blk_drewN ?_ _ | refine blk_drew ?_ | refine blk_alloc ?_ _)); exact BK351.out) hb); replace BK355 := Aside0.mk (blk_below (g := gb355) (o := .cells #[.int .i64 t352, .int .i64 t353] 40 (0, 0)) (by (with_reducible repeat (first | refine blk_drewN ?_ _ | refine blk_drew ?_ | refine blk_alloc ?_ _)); exact BK355.out) hb); replace HB := Aside0.mk (below_step (by repeat (first | (with_reducible first | exact HB.out | apply below_alloc | apply pw_below_drewN | apply below_drew1 | refine below_set ?_ GE350.out | refine below_set ?_ GE351.out | refine below_set ?_ GE355.out) | exact HB.out)) hb); (try clear hb)) | ((with_reducible refine gate_dst (N := 39) rfl ?_); refine box_event ?hg (N := 39) ?hd (cs := #[.int .i64 0, .int .i64 0]) (t := 38) ?hr ?_; (case hd => rfl); (case hg => rfl); (case hr => first | (go_simp; done) | (go_simp; rfl)); intro gb383 hg w192 hbox hb; have BK383 := Aside0.mk (hbox); have GW383 := Aside0.mk ((by rw [hg]; exact (below_size (by repeat (first | (with_reducible first | exact HB.out | apply below_alloc | apply pw_below_drewN | apply below_drew1 | refine below_set ?_ GE350.out | refine below_set ?_ GE351.out | refine below_set ?_ GE355.out) | exact HB.out))) : w.heap.size ≤ gb383)); have GE383 := Aside0.mk ((by rw [hg]; exact (below_size (by repeat (first | (with_reducible first | exact HB.out | apply below_alloc | apply pw_below_drewN | apply below_drew1 | refine below_set ?_ GE350.out | refine below_set ?_ GE351.out | refine below_set ?_ GE355.out) | exact HB.out))) : w.heap.size ≤ gb383)); have NB350_383 := Aside0.mk ((by rw [hg]; exact Nat.ne_of_lt (blk_lt (g := gb350) (o := .cells #[.int .i64 t345, .int .i64 t346] 38 (0, 0)) (by (with_reducible repeat (first | refine blk_drewN ?_ _ | refine blk_drew ?_ | refine blk_alloc ?_ _)); exact BK350.out)) : gb350 ≠ gb383)); have NB383_350 := Aside0.mk ((by rw [hg]; exact Nat.ne_of_gt (blk_lt (g := gb350) (o := .cells #[.int .i64 t345, .int .i64 t346] 38 (0, 0)) (by (with_reducible repeat (first | refine blk_drewN ?_ _ | refine blk_drew ?_ | refine blk_alloc ?_ _)); exact BK350.out)) : gb383 ≠ gb350)); have NB351_383 := Aside0.mk ((by rw [hg]; exact Nat.ne_of_lt (blk_lt (g := gb351) (o := .cells #[.int .i64 t348, .int .i64 t349] 40 (0, 0)) (by (with_reducible repeat (first | refine blk_drewN ?_ _ | refine blk_drew ?_ | refine blk_alloc ?_ _)); exact BK351.out)) : gb351 ≠ gb383)); have NB383_351 := Aside0.mk ((by rw [hg]; exact Nat.ne_of_gt (blk_lt (g := gb351) (o := .cells #[.int .i64 t348, .int .i64 t349] 40 (0, 0)) (by (with_reducible repeat (first | refine blk_drewN ?_ _ | refine blk_drew ?_ | refine blk_alloc ?_ _)); exact BK351.out)) : gb383 ≠ gb351)); have NB355_383 := Aside0.mk ((by rw [hg]; exact Nat.ne_of_lt (blk_lt (g := gb355) (o := .cells #[.int .i64 t352, .int .i64 t353] 40 (0, 0)) (by (with_reducible repeat (first | refine blk_drewN ?_ _ | refine blk_drew ?_ | refine blk_alloc ?_ _)); exact BK355.out)) : gb355 ≠ gb383)); have NB383_355 := Aside0.mk ((by rw [hg]; exact Nat.ne_of_gt (blk_lt (g := gb355) (o := .cells #[.int .i64 t352, .int .i64 t353] 40 (0, 0)) (by (with_reducible repeat (first | refine blk_drewN ?_ _ | refine blk_drew ?_ | refine blk_alloc ?_ _)); exact BK355.out)) : gb383 ≠ gb355)); replace BK350 := Aside0.mk (blk_below (g := gb350) (o := .cells #[.int .i64 t345, .int .i64 t346] 38 (0, 0)) (by (with_reducible repeat (first | refine blk_drewN ?_ _ | refine blk_drew ?_ | refine blk_alloc ?_ _)); exact BK350.out) hb); replace BK351 := Aside0.mk (blk_below (g := gb351) (o := .cells #[.int .i64 t348, .int .i64 t349] 40 (0, 0)) (by (with_reducible repeat (first | refine blk_drewN ?_ _ | refine blk_drew ?_ | refine blk_alloc ?_ _)); exact BK351.out) hb); replace BK355 := Aside0.mk (blk_below (g := gb355) (o := .cells #[.int .i64 t352, .int .i64 t353] 40 (0, 0)) (by (with_reducible repeat (first | refine blk_drewN ?_ _ | refine blk_drew ?_ | refine blk_alloc ?_ _)); exact BK355.out) hb); replace HB := Aside0.mk (below_step (by repeat (first | (with_reducible first | exact HB.out | apply below_alloc | apply pw_below_drewN | apply below_drew1 | refine below_set ?_ GE350.out | refine below_set ?_ GE351.out | refine below_set ?_ GE355.out) | exact HB.out)) hb); clear hb hbox hg; have hnb193 := NB383_350.out; have hnc193 := NB350_383.out; have hnb194 := NB383_351.out; have hnc194 := NB351_383.out; have hnb195 := NB383_355.out; have hnc195 := NB355_383.out; have hcz196_0 : w192.cell? ⟨gb383, 0, none⟩ = some (.int .i64 0) := (blk_cell BK383.out 0).trans rfl; have hcz196_1 : w192.cell? ⟨gb383, 1, none⟩ = some (.int .i64 0) := (blk_cell BK383.out 1).trans rfl; have hfz196_0 := blk_frozen BK383.out 0; have hfz196_1 := blk_frozen BK383.out 1) | ((with_reducible refine gate_callee (f := 50) rfl ?_); refine goesL_ (some 272) rfl rfl Try.func50 (by kernel_rfl) rfl #[.agg #[.int .i64 t380, .int .i64 t381], .int .i64 t382] rfl (by (try simp only [List.map_toArray, List.map_cons, List.map_nil]); first | done | rfl | (simp only [List.length_drop, List.length_take]; rfl)) ?_; (with_reducible refine (impl_OfShort.calls kj129 t380 t381 t382 t384 t385 t386 _ A188.out).mono ?_); rintro e w197 ⟨rfl, hb⟩; refine ⟨_, rfl, ?_⟩; replace BK350 := Aside0.mk (blk_below (g := gb350) (o := .cells #[.int .i64 t345, .int .i64 t346] 38 (0, 0)) (by (with_reducible repeat (first | refine blk_drewN ?_ _ | refine blk_drew ?_ | refine blk_alloc ?_ _)); refine blk_far ?_ NB350_383.out _; (with_reducible repeat (first | refine blk_drewN ?_ _ | refine blk_drew ?_ | refine blk_alloc ?_ _)); refine blk_far ?_ NB350_383.out _; (with_reducible repeat (first | refine blk_drewN ?_ _ | refine blk_drew ?_ | refine blk_alloc ?_ _)); exact BK350.out) hb); replace BK351 := Aside0.mk (blk_below (g := gb351) (o := .cells #[.int .i64 t348, .int .i64 t349] 40 (0, 0)) (by (with_reducible repeat (first | refine blk_drewN ?_ _ | refine blk_drew ?_ | refine blk_alloc ?_ _)); refine blk_far ?_ NB351_383.out _; (with_reducible repeat (first | refine blk_drewN ?_ _ | refine blk_drew ?_ | refine blk_alloc ?_ _)); refine blk_far ?_ NB351_383.out _; (with_reducible repeat (first | refine blk_drewN ?_ _ | refine blk_drew ?_ | refine blk_alloc ?_ _)); exact BK351.out) hb); replace BK355 := Aside0.mk (blk_below (g := gb355) (o := .cells #[.int .i64 t352, .int .i64 t353] 40 (0, 0)) (by (with_reducible repeat (first | refine blk_drewN ?_ _ | refine blk_drew ?_ | refine blk_alloc ?_ _)); refine blk_far ?_ NB355_383.out _; (with_reducible repeat (first | refine blk_drewN ?_ _ | refine blk_drew ?_ | refine blk_alloc ?_ _)); refine blk_far ?_ NB355_383.out _; (with_reducible repeat (first | refine blk_drewN ?_ _ | refine blk_drew ?_ | refine blk_alloc ?_ _)); exact BK355.out) hb); replace BK383 := Aside0.mk (blk_below (g := gb383) (o := .cells #[.int .i64 t380, .int .i64 t381] 38 (0, 0)) (by (with_reducible repeat (first | refine blk_drewN ?_ _ | refine blk_drew ?_ | refine blk_alloc ?_ _)); refine blk_put (cs := #[.int .i64 t380, .int .i64 0]) ?_ 1 _ rfl; (with_reducible repeat (first | refine blk_drewN ?_ _ | refine blk_drew ?_ | refine blk_alloc ?_ _)); refine blk_put (cs := #[.int .i64 0, .int .i64 0]) ?_ 0 _ rfl; (with_reducible repeat (first | refine blk_drewN ?_ _ | refine blk_drew ?_ | refine blk_alloc ?_ _)); exact BK383.out) hb); replace HB := Aside0.mk (below_step (by repeat (first | (with_reducible first | exact HB.out | apply below_alloc | apply pw_below_drewN | apply below_drew1 | refine below_set ?_ GE350.out | refine below_set ?_ GE351.out | refine below_set ?_ GE355.out | refine below_set ?_ GE383.out) | exact HB.out)) hb); (try clear hb)) | ((with_reducible refine gate_dst (N := 41) rfl ?_); refine box_event ?hg (N := 41) ?hd (cs := #[.int .i64 0, .int .i64 0]) (t := 40) ?hr ?_; (case hd => rfl); (case hg => rfl); (case hr => first | (go_simp; done) | (go_simp; rfl)); intro gb387 hg w198 hbox hb; have BK387 := Aside0.mk (hbox); have GW387 := Aside0.mk ((by rw [hg]; exact (below_size (by repeat (first | (with_reducible first | exact HB.out | apply below_alloc | apply pw_below_drewN | apply below_drew1 | refine below_set ?_ GE350.out | refine below_set ?_ GE351.out | refine below_set ?_ GE355.out | refine below_set ?_ GE383.out) | exact HB.out))) : w.heap.size ≤ gb387)); have GE387 := Aside0.mk ((by rw [hg]; exact (below_size (by repeat (first | (with_reducible first | exact HB.out | apply below_alloc | apply pw_below_drewN | apply below_drew1 | refine below_set ?_ GE350.out | refine below_set ?_ GE351.out | refine below_set ?_ GE355.out | refine below_set ?_ GE383.out) | exact HB.out))) : w.heap.size ≤ gb387)); have NB350_387 := Aside0.mk ((by rw [hg]; exact Nat.ne_of_lt (blk_lt (g := gb350) (o := .cells #[.int .i64 t345, .int .i64 t346] 38 (0, 0)) (by (with_reducible repeat (first | refine blk_drewN ?_ _ | refine blk_drew ?_ | refine blk_alloc ?_ _)); exact BK350.out)) : gb350 ≠ gb387)); have NB387_350 := Aside0.mk ((by rw [hg]; exact Nat.ne_of_gt (blk_lt (g := gb350) (o := .cells #[.int .i64 t345, .int .i64 t346] 38 (0, 0)) (by (with_reducible repeat (first | refine blk_drewN ?_ _ | refine blk_drew ?_ | refine blk_alloc ?_ _)); exact BK350.out)) : gb387 ≠ gb350)); have NB351_387 := Aside0.mk ((by rw [hg]; exact Nat.ne_of_lt (blk_lt (g := gb351) (o := .cells #[.int .i64 t348, .int .i64 t349] 40 (0, 0)) (by (with_reducible repeat (first | refine blk_drewN ?_ _ | refine blk_drew ?_ | refine blk_alloc ?_ _)); exact BK351.out)) : gb351 ≠ gb387)); have NB387_351 := Aside0.mk ((by rw [hg]; exact Nat.ne_of_gt (blk_lt (g := gb351) (o := .cells #[.int .i64 t348, .int .i64 t349] 40 (0, 0)) (by (with_reducible repeat (first | refine blk_drewN ?_ _ | refine blk_drew ?_ | refine blk_alloc ?_ _)); exact BK351.out)) : gb387 ≠ gb351)); have NB355_387 := Aside0.mk ((by rw [hg]; exact Nat.ne_of_lt (blk_lt (g := gb355) (o := .cells #[.int .i64 t352, .int .i64 t353] 40 (0, 0)) (by (with_reducible repeat (first | refine blk_drewN ?_ _ | refine blk_drew ?_ | refine blk_alloc ?_ _)); exact BK355.out)) : gb355 ≠ gb387)); have NB387_355 := Aside0.mk ((by rw [hg]; exact Nat.ne_of_gt (blk_lt (g := gb355) (o := .cells #[.int .i64 t352, .int .i64 t353] 40 (0, 0)) (by (with_reducible repeat (first | refine blk_drewN ?_ _ | refine blk_drew ?_ | refine blk_alloc ?_ _)); exact BK355.out)) : gb387 ≠ gb355)); have NB383_387 := Aside0.mk ((by rw [hg]; exact Nat.ne_of_lt (blk_lt (g := gb383) (o := .cells #[.int .i64 t380, .int .i64 t381] 38 (0, 0)) (by (with_reducible repeat (first | refine blk_drewN ?_ _ | refine blk_drew ?_ | refine blk_alloc ?_ _)); exact BK383.out)) : gb383 ≠ gb387)); have NB387_383 := Aside0.mk ((by rw [hg]; exact Nat.ne_of_gt (blk_lt (g := gb383) (o := .cells #[.int .i64 t380, .int .i64 t381] 38 (0, 0)) (by (with_reducible repeat (first | refine blk_drewN ?_ _ | refine blk_drew ?_ | refine blk_alloc ?_ _)); exact BK383.out)) : gb387 ≠ gb383)); replace BK350 := Aside0.mk (blk_below (g := gb350) (o := .cells #[.int .i64 t345, .int .i64 t346] 38 (0, 0)) (by (with_reducible repeat (first | refine blk_drewN ?_ _ | refine blk_drew ?_ | refine blk_alloc ?_ _)); exact BK350.out) hb); replace BK351 := Aside0.mk (blk_below (g := gb351) (o := .cells #[.int .i64 t348, .int .i64 t349] 40 (0, 0)) (by (with_reducible repeat (first | refine blk_drewN ?_ _ | refine blk_drew ?_ | refine blk_alloc ?_ _)); exact BK351.out) hb); replace BK355 := Aside0.mk (blk_below (g := gb355) (o := .cells #[.int .i64 t352, .int .i64 t353] 40 (0, 0)) (by (with_reducible repeat (first | refine blk_drewN ?_ _ | refine blk_drew ?_ | refine blk_alloc ?_ _)); exact BK355.out) hb); replace BK383 := Aside0.mk (blk_below (g := gb383) (o := .cells #[.int .i64 t380, .int .i64 t381] 38 (0, 0)) (by (with_reducible repeat (first | refine blk_drewN ?_ _ | refine blk_drew ?_ | refine blk_alloc ?_ _)); exact BK383.out) hb); replace HB := Aside0.mk (below_step (by repeat (first | (with_reducible first | exact HB.out | apply below_alloc | apply pw_below_drewN | apply below_drew1 | refine below_set ?_ GE350.out | refine below_set ?_ GE351.out | refine below_set ?_ GE355.out | refine below_set ?_ GE383.out) | exact HB.out)) hb); clear hb hbox hg; have hnb199 := NB387_350.out; have hnc199 := NB350_387.out; have hnb200 := NB387_351.out; have hnc200 := NB351_387.out; have hnb201 := NB387_355.out; have hnc201 := NB355_387.out; have hnb202 := NB387_383.out; have hnc202 := NB383_387.out; have hcz203_0 : w198.cell? ⟨gb387, 0, none⟩ = some (.int .i64 0) := (blk_cell BK387.out 0).trans rfl; have hcz203_1 : w198.cell? ⟨gb387, 1, none⟩ = some (.int .i64 0) := (blk_cell BK387.out 1).trans rfl; have hfz203_0 := blk_frozen BK387.out 0; have hfz203_1 := blk_frozen BK387.out 1; have hcz204_0 : w198.cell? ⟨gb383, 0, none⟩ = some (.int .i64 t380) := (blk_cell BK383.out 0).trans rfl; have hcz204_1 : w198.cell? ⟨gb383, 1, none⟩ = some (.int .i64 t381) := (blk_cell BK383.out 1).trans rfl; have hfz204_0 := blk_frozen BK383.out 0; have hfz204_1 := blk_frozen BK383.out 1) | ((with_reducible refine gate_callee (f := 54) rfl ?_); refine goesL_ (some 278) rfl rfl Try.func54 (by kernel_rfl) rfl #[.agg #[.int .i64 t380, .int .i64 t381], .int .i64 t382] rfl (by (try simp only [List.map_toArray, List.map_cons, List.map_nil]); first | done | rfl | (simp only [List.length_drop, List.length_take]; rfl)) ?_; (with_reducible refine (spec_OfShort.calls kj129 t380 t381 t382 t388 t389 t390 _ A189.out).mono ?_); rintro e w205 ⟨rfl, hb⟩; refine ⟨_, rfl, ?_⟩; replace BK350 := Aside0.mk (blk_below (g := gb350) (o := .cells #[.int .i64 t345, .int .i64 t346] 38 (0, 0)) (by (with_reducible repeat (first | refine blk_drewN ?_ _ | refine blk_drew ?_ | refine blk_alloc ?_ _)); refine blk_far ?_ NB350_387.out _; (with_reducible repeat (first | refine blk_drewN ?_ _ | refine blk_drew ?_ | refine blk_alloc ?_ _)); refine blk_far ?_ NB350_387.out _; (with_reducible repeat (first | refine blk_drewN ?_ _ | refine blk_drew ?_ | refine blk_alloc ?_ _)); exact BK350.out) hb); replace BK351 := Aside0.mk (blk_below (g := gb351) (o := .cells #[.int .i64 t348, .int .i64 t349] 40 (0, 0)) (by (with_reducible repeat (first | refine blk_drewN ?_ _ | refine blk_drew ?_ | refine blk_alloc ?_ _)); refine blk_far ?_ NB351_387.out _; (with_reducible repeat (first | refine blk_drewN ?_ _ | refine blk_drew ?_ | refine blk_alloc ?_ _)); refine blk_far ?_ NB351_387.out _; (with_reducible repeat (first | refine blk_drewN ?_ _ | refine blk_drew ?_ | refine blk_alloc ?_ _)); exact BK351.out) hb); replace BK355 := Aside0.mk (blk_below (g := gb355) (o := .cells #[.int .i64 t352, .int .i64 t353] 40 (0, 0)) (by (with_reducible repeat (first | refine blk_drewN ?_ _ | refine blk_drew ?_ | refine blk_alloc ?_ _)); refine blk_far ?_ NB355_387.out _; (with_reducible repeat (first | refine blk_drewN ?_ _ | refine blk_drew ?_ | refine blk_alloc ?_ _)); refine blk_far ?_ NB355_387.out _; (with_reducible repeat (first | refine blk_drewN ?_ _ | refine blk_drew ?_ | refine blk_alloc ?_ _)); exact BK355.out) hb); replace BK383 := Aside0.mk (blk_below (g := gb383) (o := .cells #[.int .i64 t380, .int .i64 t381] 38 (0, 0)) (by (with_reducible repeat (first | refine blk_drewN ?_ _ | refine blk_drew ?_ | refine blk_alloc ?_ _)); refine blk_far ?_ NB383_387.out _; (with_reducible repeat (first | refine blk_drewN ?_ _ | refine blk_drew ?_ | refine blk_alloc ?_ _)); refine blk_far ?_ NB383_387.out _; (with_reducible repeat (first | refine blk_drewN ?_ _ | refine blk_drew ?_ | refine blk_alloc ?_ _)); exact BK383.out) hb); replace BK387 := Aside0.mk (blk_below (g := gb387) (o := .cells #[.int .i64 t384, .int .i64 t385] 40 (0, 0)) (by (with_reducible repeat (first | refine blk_drewN ?_ _ | refine blk_drew ?_ | refine blk_alloc ?_ _)); refine blk_put (cs := #[.int .i64 t384, .int .i64 0]) ?_ 1 _ rfl; (with_reducible repeat (first | refine blk_drewN ?_ _ | refine blk_drew ?_ | refine blk_alloc ?_ _)); refine blk_put (cs := #[.int .i64 0, .int .i64 0]) ?_ 0 _ rfl; (with_reducible repeat (first | refine blk_drewN ?_ _ | refine blk_drew ?_ | refine blk_alloc ?_ _)); exact BK387.out) hb); replace HB := Aside0.mk (below_step (by repeat (first | (with_reducible first | exact HB.out | apply below_alloc | apply pw_below_drewN | apply below_drew1 | refine below_set ?_ GE350.out | refine below_set ?_ GE351.out | refine below_set ?_ GE355.out | refine below_set ?_ GE383.out | refine below_set ?_ GE387.out) | exact HB.out)) hb); (try clear hb)) | ((with_reducible refine gate_dst (N := 43) rfl ?_); refine box_event ?hg (N := 43) ?hd (cs := #[.int .i64 0, .int .i64 0]) (t := 40) ?hr ?_; (case hd => rfl); (case hg => rfl); (case hr => first | (go_simp; done) | (go_simp; rfl)); intro gb391 hg w206 hbox hb; have BK391 := Aside0.mk (hbox); have GW391 := Aside0.mk ((by rw [hg]; exact (below_size (by repeat (first | (with_reducible first | exact HB.out | apply below_alloc | apply pw_below_drewN | apply below_drew1 | refine below_set ?_ GE350.out | refine below_set ?_ GE351.out | refine below_set ?_ GE355.out | refine below_set ?_ GE383.out | refine below_set ?_ GE387.out) | exact HB.out))) : w.heap.size ≤ gb391)); have GE391 := Aside0.mk ((by rw [hg]; exact (below_size (by repeat (first | (with_reducible first | exact HB.out | apply below_alloc | apply pw_below_drewN | apply below_drew1 | refine below_set ?_ GE350.out | refine below_set ?_ GE351.out | refine below_set ?_ GE355.out | refine below_set ?_ GE383.out | refine below_set ?_ GE387.out) | exact HB.out))) : w.heap.size ≤ gb391)); have NB350_391 := Aside0.mk ((by rw [hg]; exact Nat.ne_of_lt (blk_lt (g := gb350) (o := .cells #[.int .i64 t345, .int .i64 t346] 38 (0, 0)) (by (with_reducible repeat (first | refine blk_drewN ?_ _ | refine blk_drew ?_ | refine blk_alloc ?_ _)); exact BK350.out)) : gb350 ≠ gb391)); have NB391_350 := Aside0.mk ((by rw [hg]; exact Nat.ne_of_gt (blk_lt (g := gb350) (o := .cells #[.int .i64 t345, .int .i64 t346] 38 (0, 0)) (by (with_reducible repeat (first | refine blk_drewN ?_ _ | refine blk_drew ?_ | refine blk_alloc ?_ _)); exact BK350.out)) : gb391 ≠ gb350)); have NB351_391 := Aside0.mk ((by rw [hg]; exact Nat.ne_of_lt (blk_lt (g := gb351) (o := .cells #[.int .i64 t348, .int .i64 t349] 40 (0, 0)) (by (with_reducible repeat (first | refine blk_drewN ?_ _ | refine blk_drew ?_ | refine blk_alloc ?_ _)); exact BK351.out)) : gb351 ≠ gb391)); have NB391_351 := Aside0.mk ((by rw [hg]; exact Nat.ne_of_gt (blk_lt (g := gb351) (o := .cells #[.int .i64 t348, .int .i64 t349] 40 (0, 0)) (by (with_reducible repeat (first | refine blk_drewN ?_ _ | refine blk_drew ?_ | refine blk_alloc ?_ _)); exact BK351.out)) : gb391 ≠ gb351)); have NB355_391 := Aside0.mk ((by rw [hg]; exact Nat.ne_of_lt (blk_lt (g := gb355) (o := .cells #[.int .i64 t352, .int .i64 t353] 40 (0, 0)) (by (with_reducible repeat (first | refine blk_drewN ?_ _ | refine blk_drew ?_ | refine blk_alloc ?_ _)); exact BK355.out)) : gb355 ≠ gb391)); have NB391_355 := Aside0.mk ((by rw [hg]; exact Nat.ne_of_gt (blk_lt (g := gb355) (o := .cells #[.int .i64 t352, .int .i64 t353] 40 (0, 0)) (by (with_reducible repeat (first | refine blk_drewN ?_ _ | refine blk_drew ?_ | refine blk_alloc ?_ _)); exact BK355.out)) : gb391 ≠ gb355)); have NB383_391 := Aside0.mk ((by rw [hg]; exact Nat.ne_of_lt (blk_lt (g := gb383) (o := .cells #[.int .i64 t380, .int .i64 t381] 38 (0, 0)) (by (with_reducible repeat (first | refine blk_drewN ?_ _ | refine blk_drew ?_ | refine blk_alloc ?_ _)); exact BK383.out)) : gb383 ≠ gb391)); have NB391_383 := Aside0.mk ((by rw [hg]; exact Nat.ne_of_gt (blk_lt (g := gb383) (o := .cells #[.int .i64 t380, .int .i64 t381] 38 (0, 0)) (by (with_reducible repeat (first | refine blk_drewN ?_ _ | refine blk_drew ?_ | refine blk_alloc ?_ _)); exact BK383.out)) : gb391 ≠ gb383)); have NB387_391 := Aside0.mk ((by rw [hg]; exact Nat.ne_of_lt (blk_lt (g := gb387) (o := .cells #[.int .i64 t384, .int .i64 t385] 40 (0, 0)) (by (with_reducible repeat (first | refine blk_drewN ?_ _ | refine blk_drew ?_ | refine blk_alloc ?_ _)); exact BK387.out)) : gb387 ≠ gb391)); have NB391_387 := Aside0.mk ((by rw [hg]; exact Nat.ne_of_gt (blk_lt (g := gb387) (o := .cells #[.int .i64 t384, .int .i64 t385] 40 (0, 0)) (by (with_reducible repeat (first | refine blk_drewN ?_ _ | refine blk_drew ?_ | refine blk_alloc ?_ _)); exact BK387.out)) : gb391 ≠ gb387)); replace BK350 := Aside0.mk (blk_below (g := gb350) (o := .cells #[.int .i64 t345, .int .i64 t346] 38 (0, 0)) (by (with_reducible repeat (first | refine blk_drewN ?_ _ | refine blk_drew ?_ | refine blk_alloc ?_ _)); exact BK350.out) hb); replace BK351 := Aside0.mk (blk_below (g := gb351) (o := .cells #[.int .i64 t348, .int .i64 t349] 40 (0, 0)) (by (with_reducible repeat (first | refine blk_drewN ?_ _ | refine blk_drew ?_ | refine blk_alloc ?_ _)); exact BK351.out) hb); replace BK355 := Aside0.mk (blk_below (g := gb355) (o := .cells #[.int .i64 t352, .int .i64 t353] 40 (0, 0)) (by (with_reducible repeat (first | refine blk_drewN ?_ _ | refine blk_drew ?_ | refine blk_alloc ?_ _)); exact BK355.out) hb); replace BK383 := Aside0.mk (blk_below (g := gb383) (o := .cells #[.int .i64 t380, .int .i64 t381] 38 (0, 0)) (by (with_reducible repeat (first | refine blk_drewN ?_ _ | refine blk_drew ?_ | refine blk_alloc ?_ _)); exact BK383.out) hb); replace BK387 := Aside0.mk (blk_below (g := gb387) (o := .cells #[.int .i64 t384, .int .i64 t385] 40 (0, 0)) (by (with_reducible repeat (first | refine blk_drewN ?_ _ | refine blk_drew ?_ | refine blk_alloc ?_ _)); exact BK387.out) hb); replace HB := Aside0.mk (below_step (by repeat (first | (with_reducible first | exact HB.out | apply below_alloc | apply pw_below_drewN | apply below_drew1 | refine below_set ?_ GE350.out | refine below_set ?_ GE351.out | refine below_set ?_ GE355.out | refine below_set ?_ GE383.out | refine below_set ?_ GE387.out) | exact HB.out)) hb); clear hb hbox hg; have hnb207 := NB391_350.out; have hnc207 := NB350_391.out; have hnb208 := NB391_351.out; have hnc208 := NB351_391.out; have hnb209 := NB391_355.out; have hnc209 := NB355_391.out; have hnb210 := NB391_383.out; have hnc210 := NB383_391.out; have hnb211 := NB391_387.out; have hnc211 := NB387_391.out; have hcz212_0 : w206.cell? ⟨gb391, 0, none⟩ = some (.int .i64 0) := (blk_cell BK391.out 0).trans rfl; have hcz212_1 : w206.cell? ⟨gb391, 1, none⟩ = some (.int .i64 0) := (blk_cell BK391.out 1).trans rfl; have hfz212_0 := blk_frozen BK391.out 0; have hfz212_1 := blk_frozen BK391.out 1; have hcz213_0 : w206.cell? ⟨gb387, 0, none⟩ = some (.int .i64 t384) := (blk_cell BK387.out 0).trans rfl; have hcz213_1 : w206.cell? ⟨gb387, 1, none⟩ = some (.int .i64 t385) := (blk_cell BK387.out 1).trans rfl; have hfz213_0 := blk_frozen BK387.out 0; have hfz213_1 := blk_frozen BK387.out 1))
                      all_goals (try exact absurd ‹some undef = some (Value.bool _)› (by simp [undef]))
                      go_ret
                      exact ⟨by first | rfl | (simp [errW_none, errW_some] <;> rfl) | (simp [*, errW_none, errW_some] <;> rfl), by repeat (first | (with_reducible first | exact HB.out | apply below_alloc | apply pw_below_drewN | apply below_drew1 | refine below_set ?_ GE350.out | refine below_set ?_ GE351.out | refine below_set ?_ GE355.out | refine below_set ?_ GE383.out | refine below_set ?_ GE387.out | refine below_set ?_ GE391.out) | exact HB.out)⟩
                    ·rw [if_neg c190] at H
                     have c190b0 : (t386 == t390) = false := by simpa using c190
                     (try (have c190b1 : decide (t386 = t390) = false := by simpa using c190))
                     (try (have c190b2 : (t386 == t390) = false := by simpa using c190))
                     (try (have c190b3 : ¬ (t386 = t390) := by simpa using c190))
                     clear c190
                     exact absurd ((Option.some.inj H).trans HR_.out) (by decide)

/-- THE ONE PURE STATEMENT of laws_FnPoints: yours. -/
theorem laws_FnPoints.walk (P : laws_FnPoints.Pure) (a0 : Option Addr) (len0 cap0 : Nat) (z0 : List Int) (a1 : Option Addr) (len1 cap1 : Nat) (z1 : List Int) (w : World) (w0 : (a0 = none ∧ len0 = 0 ∧ cap0 = 0 ∧ z0 = []) ∨ ∃ x, a0 = some x ∧ len0 ≤ cap0 ∧ cap0 ≤ maxLen ∧ z0.length = cap0 ∧ (∀ i, i < z0.length → w.cell? (x.add i) = some (.int .u8 (z0.getD i 0))) ∧ ∀ n ∈ z0, (Lit.int .u8 n).wf = true) (y0 : len0 * 1 ≤ 140737488351232) (w1 : (a1 = none ∧ len1 = 0 ∧ cap1 = 0 ∧ z1 = []) ∨ ∃ x, a1 = some x ∧ len1 ≤ cap1 ∧ cap1 ≤ maxLen ∧ z1.length = cap1 ∧ (∀ i, i < z1.length → w.cell? (x.add i) = some (.int .u8 (z1.getD i 0))) ∧ ∀ n ∈ z1, (Lit.int .u8 n).wf = true) (y1 : len1 * 1 ≤ 140737488351232) :
  Calls Try.prog 6 #[.slice a0 len0 cap0, .slice a1 len1 cap1] w fun e w' => e = .returned (.bool true) ∧ Below w.heap.size w w' := by
 obtain ⟨l0, rfl, hr0, hm0, hw0, hc0⟩ := ReadsInt.ofRowC w0
 obtain ⟨l1, rfl, hr1, hm1, hw1, hc1⟩ := ReadsInt.ofRowC w1
 obtain ⟨k, h⟩ := P l0 l1 hm0 y0 hw0 hm1 y1 hw1
 refine (laws_FnPoints.calls k _ _ l0 _ _ l1 true w rfl (Kd.C_of_reads (d := (0 : Int)) (h1 := fun _ => rfl) hr0) hc0 (Kd.C_of_reads (d := (0 : Int)) (h1 := fun _ => rfl) hr1) hc1 h).mono ?_
 rintro e w' ⟨rfl, hd⟩
 exact ⟨rfl, hd⟩

end
end Go.Proofs.Ytdlljfejfgfmgaa.PFnPoints
