-- Printed for this claim by a changed copy of the kit's printing program (wip/tools/patch_print.py); Lean checks it.
import Derived.Test.YtdlljfejfgfmgaaPFnGroupx0
import Derived.Test.YtdlljfejfgfmgaaPFnGroupx1
import Derived.Test.YtdlljfejfgfmgaaPFnGroupx2
import Derived.Test.YtdlljfejfgfmgaaPFnGroupx5
import Derived.Test.YtdlljfejfgfmgaaPFnGroupx6
import Derived.Test.YtdlljfejfgfmgaaPFnGroupx8
import Derived.Test.YtdlljfejfgfmgaaPFnGroupx9
import Derived.Test.YtdlljfejfgfmgaaPFnGroupx10
import Derived.Test.YtdlljfejfgfmgaaPFnGroupx11
namespace Go.Proofs.Ytdlljfejfgfmgaa.PFnGroup
open Go.RowKit Go.Proofs.YtdlljfejfgfmgaaW.PrintWords Go.Proofs.YtdlljfejfgfmgaaW.PrintLast Go.Proofs.YtdlljfejfgfmgaaW.PrintMore
attribute [local go_sem] max2_int min2_int max_two min_two max_three min_three max_four min_four   -- for this text's walks alone
set_option linter.unusedVariables false
set_option linter.unusedSimpArgs false

noncomputable section
abbrev q1 := @blk_drewN
abbrev q2 := @blk_drew
abbrev q3 := @blk_alloc
abbrev q4 := @below_alloc
abbrev q5 := @pw_below_drewN
abbrev q6 := @below_drew1

theorem bU_ {w W V : World} (h : Aside0 (Below w.heap.size w W)) (e : V.os = W.os ∧ V.tape = W.tape ∧ V.output = W.output ∧ V.heap = W.heap := by exact ⟨rfl, rfl, rfl, rfl⟩) : Below w.heap.size w V :=
 ⟨by rw [e.1]; exact h.out.os, by rw [e.2.1]; exact h.out.tape, by rw [e.2.2.1]; exact h.out.output, by rw [e.2.2.2]; exact h.out.size, fun i hi => by rw [e.2.2.2]; exact h.out.block i hi⟩
theorem bS_ {w W V w1 : World} (h : Aside0 (Below w.heap.size w W)) (hb : Below V.heap.size V w1) (e : V.os = W.os ∧ V.tape = W.tape ∧ V.output = W.output ∧ V.heap = W.heap := by exact ⟨rfl, rfl, rfl, rfl⟩) : Aside0 (Below w.heap.size w w1) :=
 ⟨below_step (bU_ h e) hb⟩
attribute [local go_sem high] eqA40
set_option maxHeartbeats 8000000 in
set_option maxRecDepth 100000 in
theorem laws_FnGroup.calls (k : Nat) (A0 : Option Addr) (c0 : Nat) (l0 : List Int) (A1 : Option Addr) (c1 : Nat) (l1 : List Int) (r : Bool) (w : World) (hr_ : r = true) (hr0 : Kd.C (Kd.int .u8) w A0 l0.length l0) (hc0 : l0.length ≤ c0) (hr1 : Kd.C (Kd.int .u8) w A1 l1.length l1) (hc1 : l1.length ≤ c1) (h : laws_FnGroup.f k l0 l1 = some r) :
  Calls Try.prog 5 #[.slice A0 l0.length c0, .slice A1 l1.length c1] w fun e w' => e = .returned (.bool r) ∧ Below w.heap.size w w' := by
 have hu38 := Try.underlying38
 have hu40 := Try.underlying40
 have HR_ := Aside0.mk hr_
 clear hr_
 have HR0 := Aside0.mk hr0
 have HC0 := Aside0.mk hc0
 clear hr0 hc0
 have HR1 := Aside0.mk hr1
 have HC1 := Aside0.mk hc1
 clear hr1 hc1
 have HB := Aside0.mk (Below.refl w.heap.size w)
 have H : (if (wrap64 ((l0.length : Int) + (l1.length : Int))) > 1048576 then (some true) else ((spec_DrawAddPoints.f k l0).bind fun bt295 => ((impl_AddPoints.f k bt295.1 bt295.2.1 bt295.2.2.1 bt295.2.2.2.1 bt295.2.2.2.2.1 bt295.2.2.2.2.2).bind fun bt304 => ((spec_AddPoints.f k bt295.1 bt295.2.1 bt295.2.2.1 bt295.2.2.2.1 bt295.2.2.2.2.1 bt295.2.2.2.2.2).bind fun bt308 => (if (bt304.2.2 != bt308.2.2) = true then (laws_FnGroup.j0 k l1 bt304.2.2 true bt295.1 bt295.2.1 bt295.2.2.1 bt295.2.2.2.1 bt295.2.2.2.2.1 bt295.2.2.2.2.2 bt304.1 bt304.2.1) else (if (!(bt304.1 == bt308.1) || (!(bt304.2.1 == bt308.2.1))) = true then (laws_FnGroup.j0 k l1 bt304.2.2 true bt295.1 bt295.2.1 bt295.2.2.1 bt295.2.2.2.1 bt295.2.2.2.2.1 bt295.2.2.2.2.2 bt304.1 bt304.2.1) else ((impl_GoodCurve.f k bt295.1 bt295.2.1).bind fun t312 => ((spec_GoodCurve.f k bt295.1 bt295.2.1).bind fun t313 => (laws_FnGroup.j0 k l1 bt304.2.2 (t312 != t313) bt295.1 bt295.2.1 bt295.2.2.1 bt295.2.2.2.1 bt295.2.2.2.2.1 bt295.2.2.2.2.2 bt304.1 bt304.2.1))))))))) = some r := h
 clear h
 by_cases c3 : (wrap64 ((l0.length : Int) + (l1.length : Int))) > 1048576
 ·rw [if_pos c3] at H
  have c3b0 : decide (1048576 < (wrap64 ((l0.length : Int) + (l1.length : Int)))) = true := decide_eq_true c3
  clear c3
  as_aux_lemma =>
   obtain rfl := Option.some.inj H
   go_enter Try.func5, Try.ntmps5
   go_wp2
   all_goals (try exact absurd ‹some undef = some (Value.bool _)› (by simp [undef]))
   go_ret
   exact ⟨by first | rfl | (simp [errW_none, errW_some] <;> rfl) | (simp [*, errW_none, errW_some] <;> rfl), by repeat (first | (with_reducible first | exact HB.out | apply q4 | apply q5 | apply q6) | exact HB.out)⟩
 ·rw [if_neg c3] at H
  have c3b0 : decide (1048576 < (wrap64 ((l0.length : Int) + (l1.length : Int)))) = false := decide_eq_false c3
  clear c3
  replace H := Option.bind_eq_some_iff.mp H
  obtain ⟨⟨t295, t296, t297, t298, t299, t300⟩, A40, H⟩ := H
  replace H : ((impl_AddPoints.f k t295 t296 t297 t298 t299 t300).bind fun bt304 => ((spec_AddPoints.f k t295 t296 t297 t298 t299 t300).bind fun bt308 => (if (bt304.2.2 != bt308.2.2) = true then (laws_FnGroup.j0 k l1 bt304.2.2 true t295 t296 t297 t298 t299 t300 bt304.1 bt304.2.1) else (if (!(bt304.1 == bt308.1) || (!(bt304.2.1 == bt308.2.1))) = true then (laws_FnGroup.j0 k l1 bt304.2.2 true t295 t296 t297 t298 t299 t300 bt304.1 bt304.2.1) else ((impl_GoodCurve.f k t295 t296).bind fun t312 => ((spec_GoodCurve.f k t295 t296).bind fun t313 => (laws_FnGroup.j0 k l1 bt304.2.2 (t312 != t313) t295 t296 t297 t298 t299 t300 bt304.1 bt304.2.1))))))) = some r := H
  have A4 := Aside0.mk A40
  clear A40
  replace H := Option.bind_eq_some_iff.mp H
  obtain ⟨⟨t304, t305, t306⟩, A50, H⟩ := H
  replace H : ((spec_AddPoints.f k t295 t296 t297 t298 t299 t300).bind fun bt308 => (if (t306 != bt308.2.2) = true then (laws_FnGroup.j0 k l1 t306 true t295 t296 t297 t298 t299 t300 t304 t305) else (if (!(t304 == bt308.1) || (!(t305 == bt308.2.1))) = true then (laws_FnGroup.j0 k l1 t306 true t295 t296 t297 t298 t299 t300 t304 t305) else ((impl_GoodCurve.f k t295 t296).bind fun t312 => ((spec_GoodCurve.f k t295 t296).bind fun t313 => (laws_FnGroup.j0 k l1 t306 (t312 != t313) t295 t296 t297 t298 t299 t300 t304 t305)))))) = some r := H
  have A5 := Aside0.mk A50
  clear A50
  replace H := Option.bind_eq_some_iff.mp H
  obtain ⟨⟨t308, t309, t310⟩, A60, H⟩ := H
  replace H : (if (t306 != t310) = true then (laws_FnGroup.j0 k l1 t306 true t295 t296 t297 t298 t299 t300 t304 t305) else (if (!(t304 == t308) || (!(t305 == t309))) = true then (laws_FnGroup.j0 k l1 t306 true t295 t296 t297 t298 t299 t300 t304 t305) else ((impl_GoodCurve.f k t295 t296).bind fun t312 => ((spec_GoodCurve.f k t295 t296).bind fun t313 => (laws_FnGroup.j0 k l1 t306 (t312 != t313) t295 t296 t297 t298 t299 t300 t304 t305))))) = some r := H
  have A6 := Aside0.mk A60
  clear A60
  have HC7 := Aside0.mk H
  clear H
  go_enter Try.func5, Try.ntmps5
  go_upto_region 6 with (first | ((with_reducible refine gate_callee (f := 30) rfl ?_); refine goesL_ (some 54) rfl rfl Try.func30 (by kernel_rfl) rfl #[.slice A0 l0.length c0] rfl (by (try simp only [List.map_toArray, List.map_cons, List.map_nil]); first | done | rfl | (simp only [List.length_drop, List.length_take]; rfl)) ?_; (with_reducible refine (spec_DrawAddPoints.calls k _ _ l0 t295 t296 t297 t298 t299 t300 _ ?side1 ?side2 A4.out).mono ?_); (case side1 => repeat (first | exact HR0.out | (with_reducible refine Kd.C_alloc ?_ _) | (with_reducible refine Kd.C_drewN ?_ _) | (with_reducible refine Kd.C_drew ?_))); (case side2 => exact HC0.out); rintro e w8 ⟨rfl, hb⟩; refine ⟨_, rfl, ?_⟩; replace HB := bS_ HB hb; (try clear hb)) | ((with_reducible refine gate_dst (N := 5) rfl ?_); refine box_event ?hg (N := 5) ?hd (cs := #[.int .i64 0, .int .i64 0]) (t := 38) ?hr ?_; (case hd => rfl); (case hg => rfl); (case hr => first | (go_simp; done) | (go_simp; rfl)); intro gb301 hg w9 hbox hb; have BK301 := Aside0.mk (hbox); have GW301 := Aside0.mk ((by rw [hg]; exact (below_size (bU_ HB)) : w.heap.size ≤ gb301)); have GE301 := Aside0.mk ((by rw [hg]; exact (below_size (bU_ HB)) : w.heap.size ≤ gb301)); replace HB := bS_ HB hb; clear hb hbox hg) | ((with_reducible refine gate_dst (N := 6) rfl ?_); refine box_event ?hg (N := 6) ?hd (cs := #[.int .i64 0, .int .i64 0]) (t := 40) ?hr ?_; (case hd => rfl); (case hg => rfl); (case hr => first | (go_simp; done) | (go_simp; rfl)); intro gb302 hg w10 hbox hb; have BK302 := Aside0.mk (hbox); have GW302 := Aside0.mk ((by rw [hg]; exact (below_size (by repeat (first | (with_reducible first | exact HB.out | apply q4 | apply q5 | apply q6 | refine below_set ?_ GE301.out) | exact HB.out))) : w.heap.size ≤ gb302)); have GE302 := Aside0.mk ((by rw [hg]; exact (below_size (by repeat (first | (with_reducible first | exact HB.out | apply q4 | apply q5 | apply q6 | refine below_set ?_ GE301.out) | exact HB.out))) : w.heap.size ≤ gb302)); have NB301_302 := Aside0.mk ((by rw [hg]; exact Nat.ne_of_lt (blk_lt (g := gb301) (o := .cells #[.int .i64 0, .int .i64 0] 38 (0, 0)) (by (with_reducible repeat first | apply q1 | apply q2 | apply q3); exact BK301.out)) : gb301 ≠ gb302)); have NB302_301 := Aside0.mk ((by rw [hg]; exact Nat.ne_of_gt (blk_lt (g := gb301) (o := .cells #[.int .i64 0, .int .i64 0] 38 (0, 0)) (by (with_reducible repeat first | apply q1 | apply q2 | apply q3); exact BK301.out)) : gb302 ≠ gb301)); replace BK301 := Aside0.mk (blk_below (g := gb301) (o := .cells #[.int .i64 0, .int .i64 0] 38 (0, 0)) (by (with_reducible repeat first | apply q1 | apply q2 | apply q3); exact BK301.out) hb); replace HB := Aside0.mk (below_step (by repeat (first | (with_reducible first | exact HB.out | apply q4 | apply q5 | apply q6 | refine below_set ?_ GE301.out) | exact HB.out)) hb); clear hb hbox hg) | ((with_reducible refine gate_dst (N := 7) rfl ?_); refine box_event ?hg (N := 7) ?hd (cs := #[.int .i64 0, .int .i64 0]) (t := 40) ?hr ?_; (case hd => rfl); (case hg => rfl); (case hr => first | (go_simp; done) | (go_simp; rfl)); intro gb303 hg w11 hbox hb; have BK303 := Aside0.mk (hbox); have GW303 := Aside0.mk ((by rw [hg]; exact (below_size (by repeat (first | (with_reducible first | exact HB.out | apply q4 | apply q5 | apply q6 | refine below_set ?_ GE301.out | refine below_set ?_ GE302.out) | exact HB.out))) : w.heap.size ≤ gb303)); have GE303 := Aside0.mk ((by rw [hg]; exact (below_size (by repeat (first | (with_reducible first | exact HB.out | apply q4 | apply q5 | apply q6 | refine below_set ?_ GE301.out | refine below_set ?_ GE302.out) | exact HB.out))) : w.heap.size ≤ gb303)); have NB301_303 := Aside0.mk ((by rw [hg]; exact Nat.ne_of_lt (blk_lt (g := gb301) (o := .cells #[.int .i64 0, .int .i64 0] 38 (0, 0)) (by (with_reducible repeat first | apply q1 | apply q2 | apply q3); exact BK301.out)) : gb301 ≠ gb303)); have NB303_301 := Aside0.mk ((by rw [hg]; exact Nat.ne_of_gt (blk_lt (g := gb301) (o := .cells #[.int .i64 0, .int .i64 0] 38 (0, 0)) (by (with_reducible repeat first | apply q1 | apply q2 | apply q3); exact BK301.out)) : gb303 ≠ gb301)); have NB302_303 := Aside0.mk ((by rw [hg]; exact Nat.ne_of_lt (blk_lt (g := gb302) (o := .cells #[.int .i64 0, .int .i64 0] 40 (0, 0)) (by (with_reducible repeat first | apply q1 | apply q2 | apply q3); exact BK302.out)) : gb302 ≠ gb303)); have NB303_302 := Aside0.mk ((by rw [hg]; exact Nat.ne_of_gt (blk_lt (g := gb302) (o := .cells #[.int .i64 0, .int .i64 0] 40 (0, 0)) (by (with_reducible repeat first | apply q1 | apply q2 | apply q3); exact BK302.out)) : gb303 ≠ gb302)); replace BK301 := Aside0.mk (blk_below (g := gb301) (o := .cells #[.int .i64 0, .int .i64 0] 38 (0, 0)) (by (with_reducible repeat first | apply q1 | apply q2 | apply q3); exact BK301.out) hb); replace BK302 := Aside0.mk (blk_below (g := gb302) (o := .cells #[.int .i64 0, .int .i64 0] 40 (0, 0)) (by (with_reducible repeat first | apply q1 | apply q2 | apply q3); exact BK302.out) hb); replace HB := Aside0.mk (below_step (by repeat (first | (with_reducible first | exact HB.out | apply q4 | apply q5 | apply q6 | refine below_set ?_ GE301.out | refine below_set ?_ GE302.out) | exact HB.out)) hb); clear hb hbox hg; have hnb12 := NB301_302.out; have hnc12 := NB302_301.out; have hnb13 := NB301_303.out; have hnc13 := NB303_301.out; have hcz14_0 : w11.cell? ⟨gb301, 0, none⟩ = some (.int .i64 0) := (blk_cell BK301.out 0).trans rfl; have hcz14_1 : w11.cell? ⟨gb301, 1, none⟩ = some (.int .i64 0) := (blk_cell BK301.out 1).trans rfl; have hfz14_0 := blk_frozen BK301.out 0; have hfz14_1 := blk_frozen BK301.out 1; have hnb15 := NB302_303.out; have hnc15 := NB303_302.out; have hcz16_0 : w11.cell? ⟨gb302, 0, none⟩ = some (.int .i64 0) := (blk_cell BK302.out 0).trans rfl; have hcz16_1 : w11.cell? ⟨gb302, 1, none⟩ = some (.int .i64 0) := (blk_cell BK302.out 1).trans rfl; have hfz16_0 := blk_frozen BK302.out 0; have hfz16_1 := blk_frozen BK302.out 1; have hcz17_0 : w11.cell? ⟨gb303, 0, none⟩ = some (.int .i64 0) := (blk_cell BK303.out 0).trans rfl; have hcz17_1 : w11.cell? ⟨gb303, 1, none⟩ = some (.int .i64 0) := (blk_cell BK303.out 1).trans rfl; have hfz17_0 := blk_frozen BK303.out 0; have hfz17_1 := blk_frozen BK303.out 1) | ((with_reducible refine gate_callee (f := 31) rfl ?_); refine goesL_ (some 62) rfl rfl Try.func31 (by kernel_rfl) rfl #[.agg #[.int .i64 t295, .int .i64 t296], .agg #[.int .i64 t297, .int .i64 t298], .agg #[.int .i64 t299, .int .i64 t300]] rfl (by (try simp only [List.map_toArray, List.map_cons, List.map_nil]); first | done | rfl | (simp only [List.length_drop, List.length_take]; rfl)) ?_; (with_reducible refine (impl_AddPoints.calls k t295 t296 t297 t298 t299 t300 t304 t305 t306 _ A5.out).mono ?_); rintro e w18 ⟨rfl, hb⟩; refine ⟨_, rfl, ?_⟩; replace BK301 := Aside0.mk (blk_below (g := gb301) (o := .cells #[.int .i64 t295, .int .i64 t296] 38 (0, 0)) (by (with_reducible repeat first | apply q1 | apply q2 | apply q3); refine blk_far ?_ NB301_303.out _; (with_reducible repeat first | apply q1 | apply q2 | apply q3); refine blk_far ?_ NB301_303.out _; (with_reducible repeat first | apply q1 | apply q2 | apply q3); refine blk_far ?_ NB301_302.out _; (with_reducible repeat first | apply q1 | apply q2 | apply q3); refine blk_far ?_ NB301_302.out _; (with_reducible repeat first | apply q1 | apply q2 | apply q3); refine blk_put (cs := #[.int .i64 t295, .int .i64 0]) ?_ 1 _ rfl; (with_reducible repeat first | apply q1 | apply q2 | apply q3); refine blk_put (cs := #[.int .i64 0, .int .i64 0]) ?_ 0 _ rfl; (with_reducible repeat first | apply q1 | apply q2 | apply q3); exact BK301.out) hb); replace BK302 := Aside0.mk (blk_below (g := gb302) (o := .cells #[.int .i64 t297, .int .i64 t298] 40 (0, 0)) (by (with_reducible repeat first | apply q1 | apply q2 | apply q3); refine blk_far ?_ NB302_303.out _; (with_reducible repeat first | apply q1 | apply q2 | apply q3); refine blk_far ?_ NB302_303.out _; (with_reducible repeat first | apply q1 | apply q2 | apply q3); refine blk_put (cs := #[.int .i64 t297, .int .i64 0]) ?_ 1 _ rfl; (with_reducible repeat first | apply q1 | apply q2 | apply q3); refine blk_put (cs := #[.int .i64 0, .int .i64 0]) ?_ 0 _ rfl; (with_reducible repeat first | apply q1 | apply q2 | apply q3); refine blk_far ?_ NB302_301.out _; (with_reducible repeat first | apply q1 | apply q2 | apply q3); refine blk_far ?_ NB302_301.out _; (with_reducible repeat first | apply q1 | apply q2 | apply q3); exact BK302.out) hb); replace BK303 := Aside0.mk (blk_below (g := gb303) (o := .cells #[.int .i64 t299, .int .i64 t300] 40 (0, 0)) (by (with_reducible repeat first | apply q1 | apply q2 | apply q3); refine blk_put (cs := #[.int .i64 t299, .int .i64 0]) ?_ 1 _ rfl; (with_reducible repeat first | apply q1 | apply q2 | apply q3); refine blk_put (cs := #[.int .i64 0, .int .i64 0]) ?_ 0 _ rfl; (with_reducible repeat first | apply q1 | apply q2 | apply q3); refine blk_far ?_ NB303_302.out _; (with_reducible repeat first | apply q1 | apply q2 | apply q3); refine blk_far ?_ NB303_302.out _; (with_reducible repeat first | apply q1 | apply q2 | apply q3); refine blk_far ?_ NB303_301.out _; (with_reducible repeat first | apply q1 | apply q2 | apply q3); refine blk_far ?_ NB303_301.out _; (with_reducible repeat first | apply q1 | apply q2 | apply q3); exact BK303.out) hb); replace HB := Aside0.mk (below_step (by repeat (first | (with_reducible first | exact HB.out | apply q4 | apply q5 | apply q6 | refine below_set ?_ GE301.out | refine below_set ?_ GE302.out | refine below_set ?_ GE303.out) | exact HB.out)) hb); (try clear hb)) | ((with_reducible refine gate_dst (N := 8) rfl ?_); refine box_event ?hg (N := 8) ?hd (cs := #[.int .i64 0, .int .i64 0]) (t := 40) ?hr ?_; (case hd => rfl); (case hg => rfl); (case hr => first | (go_simp; done) | (go_simp; rfl)); intro gb307 hg w19 hbox hb; have BK307 := Aside0.mk (hbox); have GW307 := Aside0.mk ((by rw [hg]; exact (below_size (by repeat (first | (with_reducible first | exact HB.out | apply q4 | apply q5 | apply q6 | refine below_set ?_ GE301.out | refine below_set ?_ GE302.out | refine below_set ?_ GE303.out) | exact HB.out))) : w.heap.size ≤ gb307)); have GE307 := Aside0.mk ((by rw [hg]; exact (below_size (by repeat (first | (with_reducible first | exact HB.out | apply q4 | apply q5 | apply q6 | refine below_set ?_ GE301.out | refine below_set ?_ GE302.out | refine below_set ?_ GE303.out) | exact HB.out))) : w.heap.size ≤ gb307)); have NB301_307 := Aside0.mk ((by rw [hg]; exact Nat.ne_of_lt (blk_lt (g := gb301) (o := .cells #[.int .i64 t295, .int .i64 t296] 38 (0, 0)) (by (with_reducible repeat first | apply q1 | apply q2 | apply q3); exact BK301.out)) : gb301 ≠ gb307)); have NB307_301 := Aside0.mk ((by rw [hg]; exact Nat.ne_of_gt (blk_lt (g := gb301) (o := .cells #[.int .i64 t295, .int .i64 t296] 38 (0, 0)) (by (with_reducible repeat first | apply q1 | apply q2 | apply q3); exact BK301.out)) : gb307 ≠ gb301)); have NB302_307 := Aside0.mk ((by rw [hg]; exact Nat.ne_of_lt (blk_lt (g := gb302) (o := .cells #[.int .i64 t297, .int .i64 t298] 40 (0, 0)) (by (with_reducible repeat first | apply q1 | apply q2 | apply q3); exact BK302.out)) : gb302 ≠ gb307)); have NB307_302 := Aside0.mk ((by rw [hg]; exact Nat.ne_of_gt (blk_lt (g := gb302) (o := .cells #[.int .i64 t297, .int .i64 t298] 40 (0, 0)) (by (with_reducible repeat first | apply q1 | apply q2 | apply q3); exact BK302.out)) : gb307 ≠ gb302)); have NB303_307 := Aside0.mk ((by rw [hg]; exact Nat.ne_of_lt (blk_lt (g := gb303) (o := .cells #[.int .i64 t299, .int .i64 t300] 40 (0, 0)) (by (with_reducible repeat first | apply q1 | apply q2 | apply q3); exact BK303.out)) : gb303 ≠ gb307)); have NB307_303 := Aside0.mk ((by rw [hg]; exact Nat.ne_of_gt (blk_lt (g := gb303) (o := .cells #[.int .i64 t299, .int .i64 t300] 40 (0, 0)) (by (with_reducible repeat first | apply q1 | apply q2 | apply q3); exact BK303.out)) : gb307 ≠ gb303)); replace BK301 := Aside0.mk (blk_below (g := gb301) (o := .cells #[.int .i64 t295, .int .i64 t296] 38 (0, 0)) (by (with_reducible repeat first | apply q1 | apply q2 | apply q3); exact BK301.out) hb); replace BK302 := Aside0.mk (blk_below (g := gb302) (o := .cells #[.int .i64 t297, .int .i64 t298] 40 (0, 0)) (by (with_reducible repeat first | apply q1 | apply q2 | apply q3); exact BK302.out) hb); replace BK303 := Aside0.mk (blk_below (g := gb303) (o := .cells #[.int .i64 t299, .int .i64 t300] 40 (0, 0)) (by (with_reducible repeat first | apply q1 | apply q2 | apply q3); exact BK303.out) hb); replace HB := Aside0.mk (below_step (by repeat (first | (with_reducible first | exact HB.out | apply q4 | apply q5 | apply q6 | refine below_set ?_ GE301.out | refine below_set ?_ GE302.out | refine below_set ?_ GE303.out) | exact HB.out)) hb); clear hb hbox hg; have hnb20 := NB307_301.out; have hnc20 := NB301_307.out; have hnb21 := NB307_302.out; have hnc21 := NB302_307.out; have hnb22 := NB307_303.out; have hnc22 := NB303_307.out; have hcz23_0 : w19.cell? ⟨gb307, 0, none⟩ = some (.int .i64 0) := (blk_cell BK307.out 0).trans rfl; have hcz23_1 : w19.cell? ⟨gb307, 1, none⟩ = some (.int .i64 0) := (blk_cell BK307.out 1).trans rfl; have hfz23_0 := blk_frozen BK307.out 0; have hfz23_1 := blk_frozen BK307.out 1; have hcz24_0 : w19.cell? ⟨gb301, 0, none⟩ = some (.int .i64 t295) := (blk_cell BK301.out 0).trans rfl; have hcz24_1 : w19.cell? ⟨gb301, 1, none⟩ = some (.int .i64 t296) := (blk_cell BK301.out 1).trans rfl; have hfz24_0 := blk_frozen BK301.out 0; have hfz24_1 := blk_frozen BK301.out 1; have hcz25_0 : w19.cell? ⟨gb302, 0, none⟩ = some (.int .i64 t297) := (blk_cell BK302.out 0).trans rfl; have hcz25_1 : w19.cell? ⟨gb302, 1, none⟩ = some (.int .i64 t298) := (blk_cell BK302.out 1).trans rfl; have hfz25_0 := blk_frozen BK302.out 0; have hfz25_1 := blk_frozen BK302.out 1; have hcz26_0 : w19.cell? ⟨gb303, 0, none⟩ = some (.int .i64 t299) := (blk_cell BK303.out 0).trans rfl; have hcz26_1 : w19.cell? ⟨gb303, 1, none⟩ = some (.int .i64 t300) := (blk_cell BK303.out 1).trans rfl; have hfz26_0 := blk_frozen BK303.out 0; have hfz26_1 := blk_frozen BK303.out 1) | ((with_reducible refine gate_callee (f := 32) rfl ?_); refine goesL_ (some 69) rfl rfl Try.func32 (by kernel_rfl) rfl #[.agg #[.int .i64 t295, .int .i64 t296], .agg #[.int .i64 t297, .int .i64 t298], .agg #[.int .i64 t299, .int .i64 t300]] rfl (by (try simp only [List.map_toArray, List.map_cons, List.map_nil]); first | done | rfl | (simp only [List.length_drop, List.length_take]; rfl)) ?_; (with_reducible refine (spec_AddPoints.calls k t295 t296 t297 t298 t299 t300 t308 t309 t310 _ A6.out).mono ?_); rintro e w27 ⟨rfl, hb⟩; refine ⟨_, rfl, ?_⟩; replace BK301 := Aside0.mk (blk_below (g := gb301) (o := .cells #[.int .i64 t295, .int .i64 t296] 38 (0, 0)) (by (with_reducible repeat first | apply q1 | apply q2 | apply q3); refine blk_far ?_ NB301_307.out _; (with_reducible repeat first | apply q1 | apply q2 | apply q3); refine blk_far ?_ NB301_307.out _; (with_reducible repeat first | apply q1 | apply q2 | apply q3); exact BK301.out) hb); replace BK302 := Aside0.mk (blk_below (g := gb302) (o := .cells #[.int .i64 t297, .int .i64 t298] 40 (0, 0)) (by (with_reducible repeat first | apply q1 | apply q2 | apply q3); refine blk_far ?_ NB302_307.out _; (with_reducible repeat first | apply q1 | apply q2 | apply q3); refine blk_far ?_ NB302_307.out _; (with_reducible repeat first | apply q1 | apply q2 | apply q3); exact BK302.out) hb); replace BK303 := Aside0.mk (blk_below (g := gb303) (o := .cells #[.int .i64 t299, .int .i64 t300] 40 (0, 0)) (by (with_reducible repeat first | apply q1 | apply q2 | apply q3); refine blk_far ?_ NB303_307.out _; (with_reducible repeat first | apply q1 | apply q2 | apply q3); refine blk_far ?_ NB303_307.out _; (with_reducible repeat first | apply q1 | apply q2 | apply q3); exact BK303.out) hb); replace BK307 := Aside0.mk (blk_below (g := gb307) (o := .cells #[.int .i64 t304, .int .i64 t305] 40 (0, 0)) (by (with_reducible repeat first | apply q1 | apply q2 | apply q3); refine blk_put (cs := #[.int .i64 t304, .int .i64 0]) ?_ 1 _ rfl; (with_reducible repeat first | apply q1 | apply q2 | apply q3); refine blk_put (cs := #[.int .i64 0, .int .i64 0]) ?_ 0 _ rfl; (with_reducible repeat first | apply q1 | apply q2 | apply q3); exact BK307.out) hb); replace HB := Aside0.mk (below_step (by repeat (first | (with_reducible first | exact HB.out | apply q4 | apply q5 | apply q6 | refine below_set ?_ GE301.out | refine below_set ?_ GE302.out | refine below_set ?_ GE303.out | refine below_set ?_ GE307.out) | exact HB.out)) hb); (try clear hb)) | ((with_reducible refine gate_dst (N := 10) rfl ?_); refine box_event ?hg (N := 10) ?hd (cs := #[.int .i64 0, .int .i64 0]) (t := 40) ?hr ?_; (case hd => rfl); (case hg => rfl); (case hr => first | (go_simp; done) | (go_simp; rfl)); intro gb311 hg w28 hbox hb; have BK311 := Aside0.mk (hbox); have GW311 := Aside0.mk ((by rw [hg]; exact (below_size (by repeat (first | (with_reducible first | exact HB.out | apply q4 | apply q5 | apply q6 | refine below_set ?_ GE301.out | refine below_set ?_ GE302.out | refine below_set ?_ GE303.out | refine below_set ?_ GE307.out) | exact HB.out))) : w.heap.size ≤ gb311)); have GE311 := Aside0.mk ((by rw [hg]; exact (below_size (by repeat (first | (with_reducible first | exact HB.out | apply q4 | apply q5 | apply q6 | refine below_set ?_ GE301.out | refine below_set ?_ GE302.out | refine below_set ?_ GE303.out | refine below_set ?_ GE307.out) | exact HB.out))) : w.heap.size ≤ gb311)); have NB301_311 := Aside0.mk ((by rw [hg]; exact Nat.ne_of_lt (blk_lt (g := gb301) (o := .cells #[.int .i64 t295, .int .i64 t296] 38 (0, 0)) (by (with_reducible repeat first | apply q1 | apply q2 | apply q3); exact BK301.out)) : gb301 ≠ gb311)); have NB311_301 := Aside0.mk ((by rw [hg]; exact Nat.ne_of_gt (blk_lt (g := gb301) (o := .cells #[.int .i64 t295, .int .i64 t296] 38 (0, 0)) (by (with_reducible repeat first | apply q1 | apply q2 | apply q3); exact BK301.out)) : gb311 ≠ gb301)); have NB302_311 := Aside0.mk ((by rw [hg]; exact Nat.ne_of_lt (blk_lt (g := gb302) (o := .cells #[.int .i64 t297, .int .i64 t298] 40 (0, 0)) (by (with_reducible repeat first | apply q1 | apply q2 | apply q3); exact BK302.out)) : gb302 ≠ gb311)); have NB311_302 := Aside0.mk ((by rw [hg]; exact Nat.ne_of_gt (blk_lt (g := gb302) (o := .cells #[.int .i64 t297, .int .i64 t298] 40 (0, 0)) (by (with_reducible repeat first | apply q1 | apply q2 | apply q3); exact BK302.out)) : gb311 ≠ gb302)); have NB303_311 := Aside0.mk ((by rw [hg]; exact Nat.ne_of_lt (blk_lt (g := gb303) (o := .cells #[.int .i64 t299, .int .i64 t300] 40 (0, 0)) (by (with_reducible repeat first | apply q1 | apply q2 | apply q3); exact BK303.out)) : gb303 ≠ gb311)); have NB311_303 := Aside0.mk ((by rw [hg]; exact Nat.ne_of_gt (blk_lt (g := gb303) (o := .cells #[.int .i64 t299, .int .i64 t300] 40 (0, 0)) (by (with_reducible repeat first | apply q1 | apply q2 | apply q3); exact BK303.out)) : gb311 ≠ gb303)); have NB307_311 := Aside0.mk ((by rw [hg]; exact Nat.ne_of_lt (blk_lt (g := gb307) (o := .cells #[.int .i64 t304, .int .i64 t305] 40 (0, 0)) (by (with_reducible repeat first | apply q1 | apply q2 | apply q3); exact BK307.out)) : gb307 ≠ gb311)); have NB311_307 := Aside0.mk ((by rw [hg]; exact Nat.ne_of_gt (blk_lt (g := gb307) (o := .cells #[.int .i64 t304, .int .i64 t305] 40 (0, 0)) (by (with_reducible repeat first | apply q1 | apply q2 | apply q3); exact BK307.out)) : gb311 ≠ gb307)); replace BK301 := Aside0.mk (blk_below (g := gb301) (o := .cells #[.int .i64 t295, .int .i64 t296] 38 (0, 0)) (by (with_reducible repeat first | apply q1 | apply q2 | apply q3); exact BK301.out) hb); replace BK302 := Aside0.mk (blk_below (g := gb302) (o := .cells #[.int .i64 t297, .int .i64 t298] 40 (0, 0)) (by (with_reducible repeat first | apply q1 | apply q2 | apply q3); exact BK302.out) hb); replace BK303 := Aside0.mk (blk_below (g := gb303) (o := .cells #[.int .i64 t299, .int .i64 t300] 40 (0, 0)) (by (with_reducible repeat first | apply q1 | apply q2 | apply q3); exact BK303.out) hb); replace BK307 := Aside0.mk (blk_below (g := gb307) (o := .cells #[.int .i64 t304, .int .i64 t305] 40 (0, 0)) (by (with_reducible repeat first | apply q1 | apply q2 | apply q3); exact BK307.out) hb); replace HB := Aside0.mk (below_step (by repeat (first | (with_reducible first | exact HB.out | apply q4 | apply q5 | apply q6 | refine below_set ?_ GE301.out | refine below_set ?_ GE302.out | refine below_set ?_ GE303.out | refine below_set ?_ GE307.out) | exact HB.out)) hb); clear hb hbox hg; have hnb29 := NB311_301.out; have hnc29 := NB301_311.out; have hnb30 := NB311_302.out; have hnc30 := NB302_311.out; have hnb31 := NB311_303.out; have hnc31 := NB303_311.out; have hnb32 := NB311_307.out; have hnc32 := NB307_311.out; have hcz33_0 : w28.cell? ⟨gb311, 0, none⟩ = some (.int .i64 0) := (blk_cell BK311.out 0).trans rfl; have hcz33_1 : w28.cell? ⟨gb311, 1, none⟩ = some (.int .i64 0) := (blk_cell BK311.out 1).trans rfl; have hfz33_0 := blk_frozen BK311.out 0; have hfz33_1 := blk_frozen BK311.out 1))
  (try simp only [Act.put, List.setIfInBounds_toArray, List.set_cons_zero, List.set_cons_succ])
  go_cut [86] (fun v86 wc => ∃ (kq : Nat) (x86_6 : Bool), v86 = .bool x86_6 ∧ Aside0 (laws_FnGroup.j0 kq l1 t306 x86_6 t295 t296 t297 t298 t299 t300 t304 t305 = some r) ∧ Aside0 (kq ≤ k) ∧ Aside0 (wc.heap[gb301]? = some (.cells #[.int .i64 t295, .int .i64 t296] 38 (0, 0))) ∧ Aside0 (wc.heap[gb302]? = some (.cells #[.int .i64 t297, .int .i64 t298] 40 (0, 0))) ∧ Aside0 (wc.heap[gb303]? = some (.cells #[.int .i64 t299, .int .i64 t300] 40 (0, 0))) ∧ Aside0 (wc.heap[gb307]? = some (.cells #[.int .i64 t304, .int .i64 t305] 40 (0, 0))) ∧ Aside0 (Below w.heap.size w wc))
  case first =>
   as_aux_lemma =>
    have H := HC7.out
    clear HC7
    by_cases c34 : (t306 != t310) = true
    ·rw [if_pos c34] at H
     have c34b0 : (t306 != t310) = true := c34
     (try (have c34b1 : decide (t306 = t310) = false := by simpa using c34))
     (try (have c34b2 : (t306 == t310) = false := by simpa using c34))
     (try (have c34b3 : ¬ (t306 = t310) := by simpa using c34))
     clear c34
     (first | rw [c34b0] | (simp only [i64_w, i32_w]; rw [c34b0]) | skip)
     exfalso
     cases k with
     | zero => exact absurd H (by simp [laws_FnGroup.j0])
     | succ kz_ => rw [laws_FnGroup.j0, if_pos rfl] at H; exact absurd ((Option.some.inj H).trans HR_.out) (by decide)
    ·rw [if_neg c34] at H
     have c34b0 : (t306 != t310) = false := by simpa using c34
     (try (have c34b1 : decide (t306 = t310) = true := by simpa using c34))
     (try (have c34b2 : (t306 == t310) = true := by simpa using c34))
     clear c34
     (first | rw [c34b0] | (simp only [i64_w, i32_w]; rw [c34b0]) | skip)
     by_cases c35 : (!(t304 == t308) || (!(t305 == t309))) = true
     ·rw [if_pos c35] at H
      have c35b0 : (!(t304 == t308) || (!(t305 == t309))) = true := c35
      clear c35
      exfalso
      cases k with
      | zero => exact absurd H (by simp [laws_FnGroup.j0])
      | succ kz_ => rw [laws_FnGroup.j0, if_pos rfl] at H; exact absurd ((Option.some.inj H).trans HR_.out) (by decide)
     ·rw [if_neg c35] at H
      have c35b0 : (!(t304 == t308) || (!(t305 == t309))) = false := by simpa using c35
      clear c35
      replace H := Option.bind_eq_some_iff.mp H
      obtain ⟨t312, A360, H⟩ := H
      replace H : ((spec_GoodCurve.f k t295 t296).bind fun t313 => (laws_FnGroup.j0 k l1 t306 (t312 != t313) t295 t296 t297 t298 t299 t300 t304 t305)) = some r := H
      have A36 := Aside0.mk A360
      clear A360
      replace H := Option.bind_eq_some_iff.mp H
      obtain ⟨t313, A370, H⟩ := H
      replace H : (laws_FnGroup.j0 k l1 t306 (t312 != t313) t295 t296 t297 t298 t299 t300 t304 t305) = some r := H
      have A37 := Aside0.mk A370
      clear A370
      as_aux_lemma =>
       have H' := Aside0.mk H
       clear H
       try go_wp2
       have n0_ : Aside0 (((w28.setCell ⟨gb311, 0, none⟩ (.int .i64 t308)).setCell ⟨gb311, 1, none⟩ (.int .i64 t309)).heap[gb301]? = some (.cells #[.int .i64 t295, .int .i64 t296] 38 (0, 0))) := ⟨by (with_reducible repeat first | apply q1 | apply q2 | apply q3); refine blk_far ?_ NB301_311.out _; (with_reducible repeat first | apply q1 | apply q2 | apply q3); refine blk_far ?_ NB301_311.out _; (with_reducible repeat first | apply q1 | apply q2 | apply q3); exact BK301.out⟩
       have n1_ : Aside0 (((w28.setCell ⟨gb311, 0, none⟩ (.int .i64 t308)).setCell ⟨gb311, 1, none⟩ (.int .i64 t309)).heap[gb302]? = some (.cells #[.int .i64 t297, .int .i64 t298] 40 (0, 0))) := ⟨by (with_reducible repeat first | apply q1 | apply q2 | apply q3); refine blk_far ?_ NB302_311.out _; (with_reducible repeat first | apply q1 | apply q2 | apply q3); refine blk_far ?_ NB302_311.out _; (with_reducible repeat first | apply q1 | apply q2 | apply q3); exact BK302.out⟩
       have n2_ : Aside0 (((w28.setCell ⟨gb311, 0, none⟩ (.int .i64 t308)).setCell ⟨gb311, 1, none⟩ (.int .i64 t309)).heap[gb303]? = some (.cells #[.int .i64 t299, .int .i64 t300] 40 (0, 0))) := ⟨by (with_reducible repeat first | apply q1 | apply q2 | apply q3); refine blk_far ?_ NB303_311.out _; (with_reducible repeat first | apply q1 | apply q2 | apply q3); refine blk_far ?_ NB303_311.out _; (with_reducible repeat first | apply q1 | apply q2 | apply q3); exact BK303.out⟩
       have n3_ : Aside0 (((w28.setCell ⟨gb311, 0, none⟩ (.int .i64 t308)).setCell ⟨gb311, 1, none⟩ (.int .i64 t309)).heap[gb307]? = some (.cells #[.int .i64 t304, .int .i64 t305] 40 (0, 0))) := ⟨by (with_reducible repeat first | apply q1 | apply q2 | apply q3); refine blk_far ?_ NB307_311.out _; (with_reducible repeat first | apply q1 | apply q2 | apply q3); refine blk_far ?_ NB307_311.out _; (with_reducible repeat first | apply q1 | apply q2 | apply q3); exact BK307.out⟩
       have n4_ : Aside0 (((w28.setCell ⟨gb311, 0, none⟩ (.int .i64 t308)).setCell ⟨gb311, 1, none⟩ (.int .i64 t309)).heap[gb311]? = some (.cells #[.int .i64 t308, .int .i64 t309] 40 (0, 0))) := ⟨by (with_reducible repeat first | apply q1 | apply q2 | apply q3); refine blk_put (cs := #[.int .i64 t308, .int .i64 0]) ?_ 1 _ rfl; (with_reducible repeat first | apply q1 | apply q2 | apply q3); refine blk_put (cs := #[.int .i64 0, .int .i64 0]) ?_ 0 _ rfl; (with_reducible repeat first | apply q1 | apply q2 | apply q3); exact BK311.out⟩
       have n5_ : Aside0 (Below w.heap.size w ((w28.setCell ⟨gb311, 0, none⟩ (.int .i64 t308)).setCell ⟨gb311, 1, none⟩ (.int .i64 t309))) := ⟨by repeat (first | (with_reducible first | exact HB.out | apply q4 | apply q5 | apply q6 | refine below_set ?_ GE301.out | refine below_set ?_ GE302.out | refine below_set ?_ GE303.out | refine below_set ?_ GE307.out | refine below_set ?_ GE311.out) | exact HB.out)⟩
       (try clear BK301)
       (try clear BK302)
       (try clear BK303)
       (try clear BK307)
       (try clear BK311)
       (try clear HB)
       generalize ((w28.setCell ⟨gb311, 0, none⟩ (.int .i64 t308)).setCell ⟨gb311, 1, none⟩ (.int .i64 t309)) = w38 at n0_ n1_ n2_ n3_ n4_ n5_ ⊢
       have BK301 := n0_
       have BK302 := n1_
       have BK303 := n2_
       have BK307 := n3_
       have BK311 := n4_
       have HB := n5_
       clear n0_ n1_ n2_ n3_ n4_ n5_
       have n0_ := Aside0.mk (blk_drew BK301.out)
       have n1_ := Aside0.mk (blk_drew BK302.out)
       have n2_ := Aside0.mk (blk_drew BK303.out)
       have n3_ := Aside0.mk (blk_drew BK307.out)
       have n4_ := Aside0.mk (blk_drew BK311.out)
       have n5_ := Aside0.mk (below_drew1 HB.out)
       clear BK301 BK302 BK303 BK307 BK311 HB
       have BK301 := n0_
       have BK302 := n1_
       have BK303 := n2_
       have BK307 := n3_
       have BK311 := n4_
       have HB := n5_
       clear n0_ n1_ n2_ n3_ n4_ n5_
       refine start_ (n := 15) (S := fun w' => w'.cell? ⟨gb307, 0, none⟩ = some (.int .i64 t304) ∧ w'.cell? ⟨gb307, 1, none⟩ = some (.int .i64 t305) ∧ w'.cell? ⟨gb311, 0, none⟩ = some (.int .i64 t308) ∧ w'.cell? ⟨gb311, 1, none⟩ = some (.int .i64 t309) ∧ w'.cell? ⟨gb301, 0, none⟩ = some (.int .i64 t295) ∧ w'.cell? ⟨gb301, 1, none⟩ = some (.int .i64 t296)) (ds := []) #[false, false, false, false, false, false, false, false, false, false, false, false, false, false, false] (by kernel_rfl) rfl rfl ⟨(blk_cell BK307.out 0).trans rfl, (blk_cell BK307.out 1).trans rfl, (blk_cell BK311.out 0).trans rfl, (blk_cell BK311.out 1).trans rfl, (blk_cell BK301.out 0).trans rfl, (blk_cell BK301.out 1).trans rfl⟩ (fun hHeld => ?_); refine with_tabW laws_FnGroup.tab6 laws_FnGroup.bits6 (fun HT_ HW_ => ?_)
       generalize w38.drew = w39 at BK301 BK302 BK303 BK307 BK311 HB hHeld ⊢
       refine pure_ (i := 0) (N := some 72) (v := ?_) (a' := ?_) #[true, false, false, false, false, false, false, false, false, false, false, false, false, false, false] rfl rfl (any_of HT_.out (by kernel_rfl)) (fun _ _ _ h => h) (Or.inl ⟨by rfl, ?_⟩) ?_ ?_
       rotate_left
       ·intro w'
        go_simp
        with_reducible rfl
       rotate_left
       ·simp only [Act.put, List.setIfInBounds_toArray, List.set_cons_zero, List.set_cons_succ, i64_w, i32_w]
        rfl
       refine pure_ (i := 1) (N := some 73) (v := ?_) (a' := ?_) #[true, true, false, false, false, false, false, false, false, false, false, false, false, false, false] rfl rfl (any_of HT_.out (by kernel_rfl)) (fun _ _ _ h => h) (Or.inl ⟨by rfl, ?_⟩) ?_ ?_
       rotate_left
       ·intro w'
        go_simp
        with_reducible rfl
       rotate_left
       ·simp only [Act.put, List.setIfInBounds_toArray, List.set_cons_zero, List.set_cons_succ, i64_w, i32_w]
        rfl
       refine pure_ (i := 2) (N := some 74) (v := ?_) (a' := ?_) #[true, true, true, false, false, false, false, false, false, false, false, false, false, false, false] rfl rfl (any_of HT_.out (by kernel_rfl)) (fun _ _ _ h => h) (Or.inl ⟨by rfl, ?_⟩) ?_ ?_
       rotate_left
       ·intro w'
        go_simp
        with_reducible rfl
       rotate_left
       ·simp only [Act.put, List.setIfInBounds_toArray, List.set_cons_zero, List.set_cons_succ, i64_w, i32_w]
        rfl
       refine pure_ (i := 3) (N := some 75) (v := ?_) (a' := ?_) #[true, true, true, true, false, false, false, false, false, false, false, false, false, false, false] rfl rfl (any_of HT_.out (by kernel_rfl)) (fun _ _ _ h => h) (Or.inl ⟨by rfl, ?_⟩) ?_ ?_
       rotate_left
       ·intro w'
        go_simp
        with_reducible rfl
       rotate_left
       ·simp only [Act.put, List.setIfInBounds_toArray, List.set_cons_zero, List.set_cons_succ, i64_w, i32_w]
        rfl
       refine take_ (i := 4) (N := some 76) (v := ?_) (a' := ?_) #[true, true, true, true, true, false, false, false, false, false, false, false, false, false, false] rfl rfl (take_ofW HT_.out HW_.out (by kernel_rfl)) (fun _ _ _ h => h) (Or.inl ⟨by rfl, ?_⟩) hHeld ?_ ?_
       rotate_left
       ·rintro w' ⟨s0, s1, s2, s3, s4, s5⟩
        go_simp
        with_reducible rfl
       rotate_left
       ·simp only [Act.put, List.setIfInBounds_toArray, List.set_cons_zero, List.set_cons_succ, i64_w, i32_w]
        rfl
       refine take_ (i := 5) (N := some 77) (v := ?_) (a' := ?_) #[true, true, true, true, true, true, false, false, false, false, false, false, false, false, false] rfl rfl (take_ofW HT_.out HW_.out (by kernel_rfl)) (fun _ _ _ h => h) (Or.inl ⟨by rfl, ?_⟩) hHeld ?_ ?_
       rotate_left
       ·rintro w' ⟨s0, s1, s2, s3, s4, s5⟩
        go_simp
        with_reducible rfl
       rotate_left
       ·simp only [Act.put, List.setIfInBounds_toArray, List.set_cons_zero, List.set_cons_succ, i64_w, i32_w]
        rfl
       refine pure_ (i := 6) (N := some 78) (v := ?_) (a' := ?_) #[true, true, true, true, true, true, true, false, false, false, false, false, false, false, false] rfl rfl (any_of HT_.out (by kernel_rfl)) (fun _ _ _ h => h) (Or.inl ⟨by rfl, ?_⟩) ?_ ?_
       rotate_left
       ·intro w'
        go_simp
        with_reducible rfl
       rotate_left
       ·simp only [Act.put, List.setIfInBounds_toArray, List.set_cons_zero, List.set_cons_succ, i64_w, i32_w]
        rfl
       refine pure_ (i := 7) (N := some 79) (v := ?_) (a' := ?_) #[true, true, true, true, true, true, true, true, false, false, false, false, false, false, false] rfl rfl (any_of HT_.out (by kernel_rfl)) (fun _ _ _ h => h) (Or.inl ⟨by rfl, ?_⟩) ?_ ?_
       rotate_left
       ·intro w'
        go_simp
        with_reducible rfl
       rotate_left
       ·simp only [Act.put, List.setIfInBounds_toArray, List.set_cons_zero, List.set_cons_succ, i64_w, i32_w]
        rfl
       refine pure_ (i := 8) (N := some 80) (v := ?_) (a' := ?_) #[true, true, true, true, true, true, true, true, true, false, false, false, false, false, false] rfl rfl (any_of HT_.out (by kernel_rfl)) (fun _ _ _ h => h) (Or.inl ⟨by rfl, ?_⟩) ?_ ?_
       rotate_left
       ·intro w'
        go_simp
        with_reducible rfl
       rotate_left
       ·simp only [Act.put, List.setIfInBounds_toArray, List.set_cons_zero, List.set_cons_succ, i64_w, i32_w]
        rfl
       refine take_ (i := 9) (N := some 81) (v := ?_) (a' := ?_) #[true, true, true, true, true, true, true, true, true, true, false, false, false, false, false] rfl rfl (take_ofW HT_.out HW_.out (by kernel_rfl)) (fun _ _ _ h => h) (Or.inl ⟨by rfl, ?_⟩) hHeld ?_ ?_
       rotate_left
       ·rintro w' ⟨s0, s1, s2, s3, s4, s5⟩
        go_simp
        with_reducible rfl
       rotate_left
       ·simp only [Act.put, List.setIfInBounds_toArray, List.set_cons_zero, List.set_cons_succ, i64_w, i32_w]
        rfl
       refine take_ (i := 11) (N := some 83) (v := ?_) (a' := ?_) #[true, true, true, true, true, true, true, true, true, true, false, true, false, false, false] rfl rfl (take_ofW HT_.out HW_.out (by kernel_rfl)) (fun _ _ _ h => h) (Or.inl ⟨by rfl, ?_⟩) hHeld ?_ ?_
       rotate_left
       ·rintro w' ⟨s0, s1, s2, s3, s4, s5⟩
        go_simp
        with_reducible rfl
       rotate_left
       ·simp only [Act.put, List.setIfInBounds_toArray, List.set_cons_zero, List.set_cons_succ, i64_w, i32_w]
        rfl
       refine one_ (i := 10) (N := some 82) #[true, true, true, true, true, true, true, true, true, true, true, true, false, false, false] rfl rfl (one_of HT_.out (by kernel_rfl)) (by decide) (fun K hK => ?_)
       refine goes_ Try.func33 (by kernel_rfl) rfl #[.agg #[.int .i64 t295, .int .i64 t296]] (by rfl) rfl rfl (by (try simp only [List.map_toArray, List.map_cons, List.map_nil]); first | done | rfl | (simp only [List.length_drop, List.length_take]; rfl)) ?_
       with_reducible refine (impl_GoodCurve.calls k t295 t296 t312 _ A36.out).mono ?_
       rintro e w40 ⟨rfl, hb⟩
       refine ⟨_, rfl, ?_⟩
       have n0_ := Aside0.mk (blk_below (g := gb301) (o := .cells #[.int .i64 t295, .int .i64 t296] 38 (0, 0)) (by (with_reducible repeat first | apply q1 | apply q2 | apply q3); exact BK301.out) hb)
       have n1_ := Aside0.mk (blk_below (g := gb302) (o := .cells #[.int .i64 t297, .int .i64 t298] 40 (0, 0)) (by (with_reducible repeat first | apply q1 | apply q2 | apply q3); exact BK302.out) hb)
       have n2_ := Aside0.mk (blk_below (g := gb303) (o := .cells #[.int .i64 t299, .int .i64 t300] 40 (0, 0)) (by (with_reducible repeat first | apply q1 | apply q2 | apply q3); exact BK303.out) hb)
       have n3_ := Aside0.mk (blk_below (g := gb307) (o := .cells #[.int .i64 t304, .int .i64 t305] 40 (0, 0)) (by (with_reducible repeat first | apply q1 | apply q2 | apply q3); exact BK307.out) hb)
       have n4_ := Aside0.mk (blk_below (g := gb311) (o := .cells #[.int .i64 t308, .int .i64 t309] 40 (0, 0)) (by (with_reducible repeat first | apply q1 | apply q2 | apply q3); exact BK311.out) hb)
       have n5_ := Aside0.mk (below_step (by repeat (first | (with_reducible first | exact HB.out | apply q4 | apply q5 | apply q6 | refine below_set ?_ GE301.out | refine below_set ?_ GE302.out | refine below_set ?_ GE303.out | refine below_set ?_ GE307.out | refine below_set ?_ GE311.out) | exact HB.out)) hb)
       clear BK301 BK302 BK303 BK307 BK311 HB
       have BK301 := n0_
       have BK302 := n1_
       have BK303 := n2_
       have BK307 := n3_
       have BK311 := n4_
       have HB := n5_
       clear n0_ n1_ n2_ n3_ n4_ n5_
       (try clear hb)
       (try clear hb2)
       (try clear hk)
       (try clear hi)
       refine hK.out _ _ ⟨(blk_cell BK307.out 0).trans rfl, (blk_cell BK307.out 1).trans rfl, (blk_cell BK311.out 0).trans rfl, (blk_cell BK311.out 1).trans rfl, (blk_cell BK301.out 0).trans rfl, (blk_cell BK301.out 1).trans rfl⟩ (fun hHeld => ?_)
       clear hK K
       refine norm_ (a' := ?_) ?_ ?_
       rotate_left
       ·show Act.put _ (some 82) _ = _
        simp only [Act.put, List.setIfInBounds_toArray, List.set_cons_zero, List.set_cons_succ, i64_w, i32_w]
        rfl
       refine one_ (i := 12) (N := some 84) #[true, true, true, true, true, true, true, true, true, true, true, true, true, false, false] rfl rfl (one_of HT_.out (by kernel_rfl)) (by decide) (fun K hK => ?_)
       refine goes_ Try.func34 (by kernel_rfl) rfl #[.agg #[.int .i64 t295, .int .i64 t296]] (by rfl) rfl rfl (by (try simp only [List.map_toArray, List.map_cons, List.map_nil]); first | done | rfl | (simp only [List.length_drop, List.length_take]; rfl)) ?_
       with_reducible refine (spec_GoodCurve.calls k t295 t296 t313 _ A37.out).mono ?_
       rintro e w41 ⟨rfl, hb⟩
       refine ⟨_, rfl, ?_⟩
       have n0_ := Aside0.mk (blk_below (g := gb301) (o := .cells #[.int .i64 t295, .int .i64 t296] 38 (0, 0)) (by (with_reducible repeat first | apply q1 | apply q2 | apply q3); exact BK301.out) hb)
       have n1_ := Aside0.mk (blk_below (g := gb302) (o := .cells #[.int .i64 t297, .int .i64 t298] 40 (0, 0)) (by (with_reducible repeat first | apply q1 | apply q2 | apply q3); exact BK302.out) hb)
       have n2_ := Aside0.mk (blk_below (g := gb303) (o := .cells #[.int .i64 t299, .int .i64 t300] 40 (0, 0)) (by (with_reducible repeat first | apply q1 | apply q2 | apply q3); exact BK303.out) hb)
       have n3_ := Aside0.mk (blk_below (g := gb307) (o := .cells #[.int .i64 t304, .int .i64 t305] 40 (0, 0)) (by (with_reducible repeat first | apply q1 | apply q2 | apply q3); exact BK307.out) hb)
       have n4_ := Aside0.mk (blk_below (g := gb311) (o := .cells #[.int .i64 t308, .int .i64 t309] 40 (0, 0)) (by (with_reducible repeat first | apply q1 | apply q2 | apply q3); exact BK311.out) hb)
       have n5_ := Aside0.mk (below_step (by repeat (first | (with_reducible first | exact HB.out | apply q4 | apply q5 | apply q6 | refine below_set ?_ GE301.out | refine below_set ?_ GE302.out | refine below_set ?_ GE303.out | refine below_set ?_ GE307.out | refine below_set ?_ GE311.out) | exact HB.out)) hb)
       clear BK301 BK302 BK303 BK307 BK311 HB
       have BK301 := n0_
       have BK302 := n1_
       have BK303 := n2_
       have BK307 := n3_
       have BK311 := n4_
       have HB := n5_
       clear n0_ n1_ n2_ n3_ n4_ n5_
       (try clear hb)
       (try clear hb2)
       (try clear hk)
       (try clear hi)
       refine hK.out _ _ ⟨(blk_cell BK307.out 0).trans rfl, (blk_cell BK307.out 1).trans rfl, (blk_cell BK311.out 0).trans rfl, (blk_cell BK311.out 1).trans rfl, (blk_cell BK301.out 0).trans rfl, (blk_cell BK301.out 1).trans rfl⟩ (fun hHeld => ?_)
       clear hK K
       refine norm_ (a' := ?_) ?_ ?_
       rotate_left
       ·show Act.put _ (some 84) _ = _
        simp only [Act.put, List.setIfInBounds_toArray, List.set_cons_zero, List.set_cons_succ, i64_w, i32_w]
        rfl
       refine pure_ (i := 13) (N := some 85) (v := ?_) (a' := ?_) #[true, true, true, true, true, true, true, true, true, true, true, true, true, true, false] rfl rfl (any_of HT_.out (by kernel_rfl)) (fun _ _ _ h => h) (Or.inl ⟨by rfl, ?_⟩) ?_ ?_
       rotate_left
       ·intro w'
        go_simp
        with_reducible rfl
       rotate_left
       ·simp only [Act.put, List.setIfInBounds_toArray, List.set_cons_zero, List.set_cons_succ, i64_w, i32_w]
        rfl
       refine pure_ (i := 14) (N := some 86) (v := ?_) (a' := ?_) #[true, true, true, true, true, true, true, true, true, true, true, true, true, true, true] rfl rfl (any_of HT_.out (by kernel_rfl)) (fun _ _ _ h => h) (Or.inl ⟨by rfl, ?_⟩) ?_ ?_
       rotate_left
       ·intro w'
        go_simp
        with_reducible rfl
       rotate_left
       ·simp only [Act.put, List.setIfInBounds_toArray, List.set_cons_zero, List.set_cons_succ, i64_w, i32_w]
        rfl
       refine done_ (done_of HT_.out (by kernel_rfl)) ?_
       try go_wp2
       all_goals (try exact absurd ‹some undef = some (Value.bool _)› (by simp [undef]))
       go_meet
       case rel => exact ⟨_, ((t312 != t313)), (by first | rfl | (simp; done) | (simp [*]; done)), H', ⟨by first | omega | exact Nat.le_refl _⟩, ⟨by (with_reducible repeat first | apply q1 | apply q2 | apply q3); exact BK301.out⟩, ⟨by (with_reducible repeat first | apply q1 | apply q2 | apply q3); exact BK302.out⟩, ⟨by (with_reducible repeat first | apply q1 | apply q2 | apply q3); exact BK303.out⟩, ⟨by (with_reducible repeat first | apply q1 | apply q2 | apply q3); exact BK307.out⟩, ⟨by repeat (first | (with_reducible first | exact HB.out | apply q4 | apply q5 | apply q6 | refine below_set ?_ GE301.out | refine below_set ?_ GE302.out | refine below_set ?_ GE303.out | refine below_set ?_ GE307.out | refine below_set ?_ GE311.out) | exact HB.out)⟩⟩
  case rest =>
   as_aux_lemma =>
    clear HC7
    try clear c1
    try clear c2
    try clear p2
    try clear c3
    try clear c3b0
    try clear c5
    try clear p6
    try clear c12
    try clear c13
    try clear c15
    try clear c20
    try clear c21
    try clear c22
    try clear c29
    try clear c30
    try clear c31
    try clear c32
    try clear c33
    try clear c34
    try clear c34b0
    try clear c34b1
    try clear c34b2
    try clear c35
    try clear c35b0
    try clear hcz14_0
    try clear hcz14_1
    try clear hcz16_0
    try clear hcz16_1
    try clear hcz17_0
    try clear hcz17_1
    try clear hcz23_0
    try clear hcz23_1
    try clear hcz24_0
    try clear hcz24_1
    try clear hcz25_0
    try clear hcz25_1
    try clear hcz26_0
    try clear hcz26_1
    try clear hcz33_0
    try clear hcz33_1
    try clear hfz14_0
    try clear hfz14_1
    try clear hfz16_0
    try clear hfz16_1
    try clear hfz17_0
    try clear hfz17_1
    try clear hfz23_0
    try clear hfz23_1
    try clear hfz24_0
    try clear hfz24_1
    try clear hfz25_0
    try clear hfz25_1
    try clear hfz26_0
    try clear hfz26_1
    try clear hfz33_0
    try clear hfz33_1
    obtain ⟨kq, x86_6, rfl, HA, HJ6, BK301, BK302, BK303, BK307, HB⟩ := hcut
    cases kq with
    | zero => exact absurd HA.out (by simp [laws_FnGroup.j0])
    | succ kj6 =>
     have H := HA.out
     clear HA
     simp only [laws_FnGroup.j0] at H
     by_cases c42 : x86_6 = true
     ·subst c42
      have H1 : (some false) = some r := by rw [if_pos rfl] at H; exact H
      clear H
      have H := H1
      clear H1
      exact absurd ((Option.some.inj H).trans HR_.out) (by decide)
     ·replace c42 := Bool.eq_false_iff.mpr c42
      subst c42
      have H1 : (if t306 = true then ((impl_OnCurve.f kj6 t295 t296 t304 t305).bind fun bt314 => ((impl_AddPoints.f kj6 t295 t296 t299 t300 t297 t298).bind fun bt316 => ((impl_ZeroPoint.f kj6 t295 t296).bind fun bt320 => ((impl_AddPoints.f kj6 t295 t296 t297 t298 bt320.1 bt320.2.1).bind fun bt324 => ((impl_NegPoint.f kj6 t295 t296 t297 t298).bind fun bt328 => ((impl_AddPoints.f kj6 t295 t296 t297 t298 bt328.1 bt328.2.1).bind fun bt332 => (if bt314.2 = true then (if bt314.1 = true then (if bt316.2.2 = true then (if (!(bt316.1 == t304) || (!(bt316.2.1 == t305))) = true then (laws_FnGroup.j1 kj6 l1 true t295 t296 t297 t298 t299 t300 t304 t305) else (if bt320.2.2 = true then (if bt324.2.2 = true then (if (!(bt324.1 == t297) || (!(bt324.2.1 == t298))) = true then (laws_FnGroup.j1 kj6 l1 true t295 t296 t297 t298 t299 t300 t304 t305) else (if bt328.2.2 = true then (if bt332.2.2 = true then (laws_FnGroup.j1 kj6 l1 (!(bt332.1 == bt320.1) || (!(bt332.2.1 == bt320.2.1))) t295 t296 t297 t298 t299 t300 t304 t305) else (laws_FnGroup.j1 kj6 l1 true t295 t296 t297 t298 t299 t300 t304 t305)) else (laws_FnGroup.j1 kj6 l1 true t295 t296 t297 t298 t299 t300 t304 t305))) else (laws_FnGroup.j1 kj6 l1 true t295 t296 t297 t298 t299 t300 t304 t305)) else (laws_FnGroup.j1 kj6 l1 true t295 t296 t297 t298 t299 t300 t304 t305))) else (laws_FnGroup.j1 kj6 l1 true t295 t296 t297 t298 t299 t300 t304 t305)) else (laws_FnGroup.j1 kj6 l1 true t295 t296 t297 t298 t299 t300 t304 t305)) else (laws_FnGroup.j1 kj6 l1 true t295 t296 t297 t298 t299 t300 t304 t305)))))))) else (laws_FnGroup.j2 kj6 l1)) = some r := by rw [if_neg (show ¬ (false = true) by decide)] at H; exact H
      clear H
      have H := H1
      clear H1
      have HC43 := Aside0.mk H
      clear H
      go_upto_if 87 with (fail)
      go_cut [] (fun wc => ∃ (kq : Nat), Aside0 (laws_FnGroup.j2 kq l1 = some r) ∧ Aside0 (kq ≤ kj6) ∧ Aside0 (Below w.heap.size w wc))
      case first =>
       as_aux_lemma =>
        have H := HC43.out
        clear HC43
        by_cases c44 : t306 = true
        ·subst c44
         have H1 : ((impl_OnCurve.f kj6 t295 t296 t304 t305).bind fun bt314 => ((impl_AddPoints.f kj6 t295 t296 t299 t300 t297 t298).bind fun bt316 => ((impl_ZeroPoint.f kj6 t295 t296).bind fun bt320 => ((impl_AddPoints.f kj6 t295 t296 t297 t298 bt320.1 bt320.2.1).bind fun bt324 => ((impl_NegPoint.f kj6 t295 t296 t297 t298).bind fun bt328 => ((impl_AddPoints.f kj6 t295 t296 t297 t298 bt328.1 bt328.2.1).bind fun bt332 => (if bt314.2 = true then (if bt314.1 = true then (if bt316.2.2 = true then (if (!(bt316.1 == t304) || (!(bt316.2.1 == t305))) = true then (laws_FnGroup.j1 kj6 l1 true t295 t296 t297 t298 t299 t300 t304 t305) else (if bt320.2.2 = true then (if bt324.2.2 = true then (if (!(bt324.1 == t297) || (!(bt324.2.1 == t298))) = true then (laws_FnGroup.j1 kj6 l1 true t295 t296 t297 t298 t299 t300 t304 t305) else (if bt328.2.2 = true then (if bt332.2.2 = true then (laws_FnGroup.j1 kj6 l1 (!(bt332.1 == bt320.1) || (!(bt332.2.1 == bt320.2.1))) t295 t296 t297 t298 t299 t300 t304 t305) else (laws_FnGroup.j1 kj6 l1 true t295 t296 t297 t298 t299 t300 t304 t305)) else (laws_FnGroup.j1 kj6 l1 true t295 t296 t297 t298 t299 t300 t304 t305))) else (laws_FnGroup.j1 kj6 l1 true t295 t296 t297 t298 t299 t300 t304 t305)) else (laws_FnGroup.j1 kj6 l1 true t295 t296 t297 t298 t299 t300 t304 t305))) else (laws_FnGroup.j1 kj6 l1 true t295 t296 t297 t298 t299 t300 t304 t305)) else (laws_FnGroup.j1 kj6 l1 true t295 t296 t297 t298 t299 t300 t304 t305)) else (laws_FnGroup.j1 kj6 l1 true t295 t296 t297 t298 t299 t300 t304 t305)))))))) = some r := by rw [if_pos rfl] at H; exact H
         clear H
         have H := H1
         clear H1
         replace H := Option.bind_eq_some_iff.mp H
         obtain ⟨⟨t314, t315⟩, A450, H⟩ := H
         replace H : ((impl_AddPoints.f kj6 t295 t296 t299 t300 t297 t298).bind fun bt316 => ((impl_ZeroPoint.f kj6 t295 t296).bind fun bt320 => ((impl_AddPoints.f kj6 t295 t296 t297 t298 bt320.1 bt320.2.1).bind fun bt324 => ((impl_NegPoint.f kj6 t295 t296 t297 t298).bind fun bt328 => ((impl_AddPoints.f kj6 t295 t296 t297 t298 bt328.1 bt328.2.1).bind fun bt332 => (if t315 = true then (if t314 = true then (if bt316.2.2 = true then (if (!(bt316.1 == t304) || (!(bt316.2.1 == t305))) = true then (laws_FnGroup.j1 kj6 l1 true t295 t296 t297 t298 t299 t300 t304 t305) else (if bt320.2.2 = true then (if bt324.2.2 = true then (if (!(bt324.1 == t297) || (!(bt324.2.1 == t298))) = true then (laws_FnGroup.j1 kj6 l1 true t295 t296 t297 t298 t299 t300 t304 t305) else (if bt328.2.2 = true then (if bt332.2.2 = true then (laws_FnGroup.j1 kj6 l1 (!(bt332.1 == bt320.1) || (!(bt332.2.1 == bt320.2.1))) t295 t296 t297 t298 t299 t300 t304 t305) else (laws_FnGroup.j1 kj6 l1 true t295 t296 t297 t298 t299 t300 t304 t305)) else (laws_FnGroup.j1 kj6 l1 true t295 t296 t297 t298 t299 t300 t304 t305))) else (laws_FnGroup.j1 kj6 l1 true t295 t296 t297 t298 t299 t300 t304 t305)) else (laws_FnGroup.j1 kj6 l1 true t295 t296 t297 t298 t299 t300 t304 t305))) else (laws_FnGroup.j1 kj6 l1 true t295 t296 t297 t298 t299 t300 t304 t305)) else (laws_FnGroup.j1 kj6 l1 true t295 t296 t297 t298 t299 t300 t304 t305)) else (laws_FnGroup.j1 kj6 l1 true t295 t296 t297 t298 t299 t300 t304 t305))))))) = some r := H
         have A45 := Aside0.mk A450
         clear A450
         replace H := Option.bind_eq_some_iff.mp H
         obtain ⟨⟨t316, t317, t318⟩, A460, H⟩ := H
         replace H : ((impl_ZeroPoint.f kj6 t295 t296).bind fun bt320 => ((impl_AddPoints.f kj6 t295 t296 t297 t298 bt320.1 bt320.2.1).bind fun bt324 => ((impl_NegPoint.f kj6 t295 t296 t297 t298).bind fun bt328 => ((impl_AddPoints.f kj6 t295 t296 t297 t298 bt328.1 bt328.2.1).bind fun bt332 => (if t315 = true then (if t314 = true then (if t318 = true then (if (!(t316 == t304) || (!(t317 == t305))) = true then (laws_FnGroup.j1 kj6 l1 true t295 t296 t297 t298 t299 t300 t304 t305) else (if bt320.2.2 = true then (if bt324.2.2 = true then (if (!(bt324.1 == t297) || (!(bt324.2.1 == t298))) = true then (laws_FnGroup.j1 kj6 l1 true t295 t296 t297 t298 t299 t300 t304 t305) else (if bt328.2.2 = true then (if bt332.2.2 = true then (laws_FnGroup.j1 kj6 l1 (!(bt332.1 == bt320.1) || (!(bt332.2.1 == bt320.2.1))) t295 t296 t297 t298 t299 t300 t304 t305) else (laws_FnGroup.j1 kj6 l1 true t295 t296 t297 t298 t299 t300 t304 t305)) else (laws_FnGroup.j1 kj6 l1 true t295 t296 t297 t298 t299 t300 t304 t305))) else (laws_FnGroup.j1 kj6 l1 true t295 t296 t297 t298 t299 t300 t304 t305)) else (laws_FnGroup.j1 kj6 l1 true t295 t296 t297 t298 t299 t300 t304 t305))) else (laws_FnGroup.j1 kj6 l1 true t295 t296 t297 t298 t299 t300 t304 t305)) else (laws_FnGroup.j1 kj6 l1 true t295 t296 t297 t298 t299 t300 t304 t305)) else (laws_FnGroup.j1 kj6 l1 true t295 t296 t297 t298 t299 t300 t304 t305)))))) = some r := H
         have A46 := Aside0.mk A460
         clear A460
         replace H := Option.bind_eq_some_iff.mp H
         obtain ⟨⟨t320, t321, t322⟩, A470, H⟩ := H
         replace H : ((impl_AddPoints.f kj6 t295 t296 t297 t298 t320 t321).bind fun bt324 => ((impl_NegPoint.f kj6 t295 t296 t297 t298).bind fun bt328 => ((impl_AddPoints.f kj6 t295 t296 t297 t298 bt328.1 bt328.2.1).bind fun bt332 => (if t315 = true then (if t314 = true then (if t318 = true then (if (!(t316 == t304) || (!(t317 == t305))) = true then (laws_FnGroup.j1 kj6 l1 true t295 t296 t297 t298 t299 t300 t304 t305) else (if t322 = true then (if bt324.2.2 = true then (if (!(bt324.1 == t297) || (!(bt324.2.1 == t298))) = true then (laws_FnGroup.j1 kj6 l1 true t295 t296 t297 t298 t299 t300 t304 t305) else (if bt328.2.2 = true then (if bt332.2.2 = true then (laws_FnGroup.j1 kj6 l1 (!(bt332.1 == t320) || (!(bt332.2.1 == t321))) t295 t296 t297 t298 t299 t300 t304 t305) else (laws_FnGroup.j1 kj6 l1 true t295 t296 t297 t298 t299 t300 t304 t305)) else (laws_FnGroup.j1 kj6 l1 true t295 t296 t297 t298 t299 t300 t304 t305))) else (laws_FnGroup.j1 kj6 l1 true t295 t296 t297 t298 t299 t300 t304 t305)) else (laws_FnGroup.j1 kj6 l1 true t295 t296 t297 t298 t299 t300 t304 t305))) else (laws_FnGroup.j1 kj6 l1 true t295 t296 t297 t298 t299 t300 t304 t305)) else (laws_FnGroup.j1 kj6 l1 true t295 t296 t297 t298 t299 t300 t304 t305)) else (laws_FnGroup.j1 kj6 l1 true t295 t296 t297 t298 t299 t300 t304 t305))))) = some r := H
         have A47 := Aside0.mk A470
         clear A470
         replace H := Option.bind_eq_some_iff.mp H
         obtain ⟨⟨t324, t325, t326⟩, A480, H⟩ := H
         replace H : ((impl_NegPoint.f kj6 t295 t296 t297 t298).bind fun bt328 => ((impl_AddPoints.f kj6 t295 t296 t297 t298 bt328.1 bt328.2.1).bind fun bt332 => (if t315 = true then (if t314 = true then (if t318 = true then (if (!(t316 == t304) || (!(t317 == t305))) = true then (laws_FnGroup.j1 kj6 l1 true t295 t296 t297 t298 t299 t300 t304 t305) else (if t322 = true then (if t326 = true then (if (!(t324 == t297) || (!(t325 == t298))) = true then (laws_FnGroup.j1 kj6 l1 true t295 t296 t297 t298 t299 t300 t304 t305) else (if bt328.2.2 = true then (if bt332.2.2 = true then (laws_FnGroup.j1 kj6 l1 (!(bt332.1 == t320) || (!(bt332.2.1 == t321))) t295 t296 t297 t298 t299 t300 t304 t305) else (laws_FnGroup.j1 kj6 l1 true t295 t296 t297 t298 t299 t300 t304 t305)) else (laws_FnGroup.j1 kj6 l1 true t295 t296 t297 t298 t299 t300 t304 t305))) else (laws_FnGroup.j1 kj6 l1 true t295 t296 t297 t298 t299 t300 t304 t305)) else (laws_FnGroup.j1 kj6 l1 true t295 t296 t297 t298 t299 t300 t304 t305))) else (laws_FnGroup.j1 kj6 l1 true t295 t296 t297 t298 t299 t300 t304 t305)) else (laws_FnGroup.j1 kj6 l1 true t295 t296 t297 t298 t299 t300 t304 t305)) else (laws_FnGroup.j1 kj6 l1 true t295 t296 t297 t298 t299 t300 t304 t305)))) = some r := H
         have A48 := Aside0.mk A480
         clear A480
         replace H := Option.bind_eq_some_iff.mp H
         obtain ⟨⟨t328, t329, t330⟩, A490, H⟩ := H
         replace H : ((impl_AddPoints.f kj6 t295 t296 t297 t298 t328 t329).bind fun bt332 => (if t315 = true then (if t314 = true then (if t318 = true then (if (!(t316 == t304) || (!(t317 == t305))) = true then (laws_FnGroup.j1 kj6 l1 true t295 t296 t297 t298 t299 t300 t304 t305) else (if t322 = true then (if t326 = true then (if (!(t324 == t297) || (!(t325 == t298))) = true then (laws_FnGroup.j1 kj6 l1 true t295 t296 t297 t298 t299 t300 t304 t305) else (if t330 = true then (if bt332.2.2 = true then (laws_FnGroup.j1 kj6 l1 (!(bt332.1 == t320) || (!(bt332.2.1 == t321))) t295 t296 t297 t298 t299 t300 t304 t305) else (laws_FnGroup.j1 kj6 l1 true t295 t296 t297 t298 t299 t300 t304 t305)) else (laws_FnGroup.j1 kj6 l1 true t295 t296 t297 t298 t299 t300 t304 t305))) else (laws_FnGroup.j1 kj6 l1 true t295 t296 t297 t298 t299 t300 t304 t305)) else (laws_FnGroup.j1 kj6 l1 true t295 t296 t297 t298 t299 t300 t304 t305))) else (laws_FnGroup.j1 kj6 l1 true t295 t296 t297 t298 t299 t300 t304 t305)) else (laws_FnGroup.j1 kj6 l1 true t295 t296 t297 t298 t299 t300 t304 t305)) else (laws_FnGroup.j1 kj6 l1 true t295 t296 t297 t298 t299 t300 t304 t305))) = some r := H
         have A49 := Aside0.mk A490
         clear A490
         replace H := Option.bind_eq_some_iff.mp H
         obtain ⟨⟨t332, t333, t334⟩, A500, H⟩ := H
         replace H : (if t315 = true then (if t314 = true then (if t318 = true then (if (!(t316 == t304) || (!(t317 == t305))) = true then (laws_FnGroup.j1 kj6 l1 true t295 t296 t297 t298 t299 t300 t304 t305) else (if t322 = true then (if t326 = true then (if (!(t324 == t297) || (!(t325 == t298))) = true then (laws_FnGroup.j1 kj6 l1 true t295 t296 t297 t298 t299 t300 t304 t305) else (if t330 = true then (if t334 = true then (laws_FnGroup.j1 kj6 l1 (!(t332 == t320) || (!(t333 == t321))) t295 t296 t297 t298 t299 t300 t304 t305) else (laws_FnGroup.j1 kj6 l1 true t295 t296 t297 t298 t299 t300 t304 t305)) else (laws_FnGroup.j1 kj6 l1 true t295 t296 t297 t298 t299 t300 t304 t305))) else (laws_FnGroup.j1 kj6 l1 true t295 t296 t297 t298 t299 t300 t304 t305)) else (laws_FnGroup.j1 kj6 l1 true t295 t296 t297 t298 t299 t300 t304 t305))) else (laws_FnGroup.j1 kj6 l1 true t295 t296 t297 t298 t299 t300 t304 t305)) else (laws_FnGroup.j1 kj6 l1 true t295 t296 t297 t298 t299 t300 t304 t305)) else (laws_FnGroup.j1 kj6 l1 true t295 t296 t297 t298 t299 t300 t304 t305)) = some r := H
         have A50 := Aside0.mk A500
         clear A500
         have HC51 := Aside0.mk H
         clear H
         have hcz55_0 : wc.cell? ⟨gb301, 0, none⟩ = some (.int .i64 t295) := (blk_cell BK301.out 0).trans rfl
         have hcz55_1 : wc.cell? ⟨gb301, 1, none⟩ = some (.int .i64 t296) := (blk_cell BK301.out 1).trans rfl
         have hfz55_0 := blk_frozen BK301.out 0
         have hfz55_1 := blk_frozen BK301.out 1
         have hcz58_0 : wc.cell? ⟨gb307, 0, none⟩ = some (.int .i64 t304) := (blk_cell BK307.out 0).trans rfl
         have hcz58_1 : wc.cell? ⟨gb307, 1, none⟩ = some (.int .i64 t305) := (blk_cell BK307.out 1).trans rfl
         have hfz58_0 := blk_frozen BK307.out 0
         have hfz58_1 := blk_frozen BK307.out 1
         go_upto_region 15 with (first | ((with_reducible refine gate_callee (f := 35) rfl ?_); refine goesL_ (some 91) rfl rfl Try.func35 (by kernel_rfl) rfl #[.agg #[.int .i64 t295, .int .i64 t296], .agg #[.int .i64 t304, .int .i64 t305]] rfl (by (try simp only [List.map_toArray, List.map_cons, List.map_nil]); first | done | rfl | (simp only [List.length_drop, List.length_take]; rfl)) ?_; (with_reducible refine (impl_OnCurve.calls kj6 t295 t296 t304 t305 t314 t315 _ A45.out).mono ?_); rintro e w59 ⟨rfl, hb⟩; refine ⟨_, rfl, ?_⟩; replace BK301 := Aside0.mk (blk_below (g := gb301) (o := .cells #[.int .i64 t295, .int .i64 t296] 38 (0, 0)) (by (with_reducible repeat first | apply q1 | apply q2 | apply q3); exact BK301.out) hb); replace BK302 := Aside0.mk (blk_below (g := gb302) (o := .cells #[.int .i64 t297, .int .i64 t298] 40 (0, 0)) (by (with_reducible repeat first | apply q1 | apply q2 | apply q3); exact BK302.out) hb); replace BK303 := Aside0.mk (blk_below (g := gb303) (o := .cells #[.int .i64 t299, .int .i64 t300] 40 (0, 0)) (by (with_reducible repeat first | apply q1 | apply q2 | apply q3); exact BK303.out) hb); replace BK307 := Aside0.mk (blk_below (g := gb307) (o := .cells #[.int .i64 t304, .int .i64 t305] 40 (0, 0)) (by (with_reducible repeat first | apply q1 | apply q2 | apply q3); exact BK307.out) hb); replace HB := Aside0.mk (below_step (by repeat (first | (with_reducible first | exact HB.out | apply q4 | apply q5 | apply q6 | refine below_set ?_ GE301.out | refine below_set ?_ GE302.out | refine below_set ?_ GE303.out | refine below_set ?_ GE307.out) | exact HB.out)) hb); (try clear hb); have hcz60_0 : w59.cell? ⟨gb301, 0, none⟩ = some (.int .i64 t295) := (blk_cell BK301.out 0).trans rfl; have hcz60_1 : w59.cell? ⟨gb301, 1, none⟩ = some (.int .i64 t296) := (blk_cell BK301.out 1).trans rfl; have hfz60_0 := blk_frozen BK301.out 0; have hfz60_1 := blk_frozen BK301.out 1; have hnb61 := NB303_302.out; have hnc61 := NB302_303.out; have hcz62_0 : w59.cell? ⟨gb303, 0, none⟩ = some (.int .i64 t299) := (blk_cell BK303.out 0).trans rfl; have hcz62_1 : w59.cell? ⟨gb303, 1, none⟩ = some (.int .i64 t300) := (blk_cell BK303.out 1).trans rfl; have hfz62_0 := blk_frozen BK303.out 0; have hfz62_1 := blk_frozen BK303.out 1; have hcz63_0 : w59.cell? ⟨gb302, 0, none⟩ = some (.int .i64 t297) := (blk_cell BK302.out 0).trans rfl; have hcz63_1 : w59.cell? ⟨gb302, 1, none⟩ = some (.int .i64 t298) := (blk_cell BK302.out 1).trans rfl; have hfz63_0 := blk_frozen BK302.out 0; have hfz63_1 := blk_frozen BK302.out 1) | ((with_reducible refine gate_callee (f := 31) rfl ?_); refine goesL_ (some 98) rfl rfl Try.func31 (by kernel_rfl) rfl #[.agg #[.int .i64 t295, .int .i64 t296], .agg #[.int .i64 t299, .int .i64 t300], .agg #[.int .i64 t297, .int .i64 t298]] rfl (by (try simp only [List.map_toArray, List.map_cons, List.map_nil]); first | done | rfl | (simp only [List.length_drop, List.length_take]; rfl)) ?_; (with_reducible refine (impl_AddPoints.calls kj6 t295 t296 t299 t300 t297 t298 t316 t317 t318 _ A46.out).mono ?_); rintro e w64 ⟨rfl, hb⟩; refine ⟨_, rfl, ?_⟩; replace BK301 := Aside0.mk (blk_below (g := gb301) (o := .cells #[.int .i64 t295, .int .i64 t296] 38 (0, 0)) (by (with_reducible repeat first | apply q1 | apply q2 | apply q3); exact BK301.out) hb); replace BK302 := Aside0.mk (blk_below (g := gb302) (o := .cells #[.int .i64 t297, .int .i64 t298] 40 (0, 0)) (by (with_reducible repeat first | apply q1 | apply q2 | apply q3); exact BK302.out) hb); replace BK303 := Aside0.mk (blk_below (g := gb303) (o := .cells #[.int .i64 t299, .int .i64 t300] 40 (0, 0)) (by (with_reducible repeat first | apply q1 | apply q2 | apply q3); exact BK303.out) hb); replace BK307 := Aside0.mk (blk_below (g := gb307) (o := .cells #[.int .i64 t304, .int .i64 t305] 40 (0, 0)) (by (with_reducible repeat first | apply q1 | apply q2 | apply q3); exact BK307.out) hb); replace HB := Aside0.mk (below_step (by repeat (first | (with_reducible first | exact HB.out | apply q4 | apply q5 | apply q6 | refine below_set ?_ GE301.out | refine below_set ?_ GE302.out | refine below_set ?_ GE303.out | refine below_set ?_ GE307.out) | exact HB.out)) hb); (try clear hb)) | ((with_reducible refine gate_dst (N := 14) rfl ?_); refine box_event ?hg (N := 14) ?hd (cs := #[.int .i64 0, .int .i64 0]) (t := 40) ?hr ?_; (case hd => rfl); (case hg => rfl); (case hr => first | (go_simp; done) | (go_simp; rfl)); intro gb319 hg w65 hbox hb; have BK319 := Aside0.mk (hbox); have GW319 := Aside0.mk ((by rw [hg]; exact (below_size (by repeat (first | (with_reducible first | exact HB.out | apply q4 | apply q5 | apply q6 | refine below_set ?_ GE301.out | refine below_set ?_ GE302.out | refine below_set ?_ GE303.out | refine below_set ?_ GE307.out) | exact HB.out))) : w.heap.size ≤ gb319)); have GE319 := Aside0.mk ((by rw [hg]; exact (below_size (by repeat (first | (with_reducible first | exact HB.out | apply q4 | apply q5 | apply q6 | refine below_set ?_ GE301.out | refine below_set ?_ GE302.out | refine below_set ?_ GE303.out | refine below_set ?_ GE307.out) | exact HB.out))) : w.heap.size ≤ gb319)); have NB301_319 := Aside0.mk ((by rw [hg]; exact Nat.ne_of_lt (blk_lt (g := gb301) (o := .cells #[.int .i64 t295, .int .i64 t296] 38 (0, 0)) (by (with_reducible repeat first | apply q1 | apply q2 | apply q3); exact BK301.out)) : gb301 ≠ gb319)); have NB319_301 := Aside0.mk ((by rw [hg]; exact Nat.ne_of_gt (blk_lt (g := gb301) (o := .cells #[.int .i64 t295, .int .i64 t296] 38 (0, 0)) (by (with_reducible repeat first | apply q1 | apply q2 | apply q3); exact BK301.out)) : gb319 ≠ gb301)); have NB302_319 := Aside0.mk ((by rw [hg]; exact Nat.ne_of_lt (blk_lt (g := gb302) (o := .cells #[.int .i64 t297, .int .i64 t298] 40 (0, 0)) (by (with_reducible repeat first | apply q1 | apply q2 | apply q3); exact BK302.out)) : gb302 ≠ gb319)); have NB319_302 := Aside0.mk ((by rw [hg]; exact Nat.ne_of_gt (blk_lt (g := gb302) (o := .cells #[.int .i64 t297, .int .i64 t298] 40 (0, 0)) (by (with_reducible repeat first | apply q1 | apply q2 | apply q3); exact BK302.out)) : gb319 ≠ gb302)); have NB303_319 := Aside0.mk ((by rw [hg]; exact Nat.ne_of_lt (blk_lt (g := gb303) (o := .cells #[.int .i64 t299, .int .i64 t300] 40 (0, 0)) (by (with_reducible repeat first | apply q1 | apply q2 | apply q3); exact BK303.out)) : gb303 ≠ gb319)); have NB319_303 := Aside0.mk ((by rw [hg]; exact Nat.ne_of_gt (blk_lt (g := gb303) (o := .cells #[.int .i64 t299, .int .i64 t300] 40 (0, 0)) (by (with_reducible repeat first | apply q1 | apply q2 | apply q3); exact BK303.out)) : gb319 ≠ gb303)); have NB307_319 := Aside0.mk ((by rw [hg]; exact Nat.ne_of_lt (blk_lt (g := gb307) (o := .cells #[.int .i64 t304, .int .i64 t305] 40 (0, 0)) (by (with_reducible repeat first | apply q1 | apply q2 | apply q3); exact BK307.out)) : gb307 ≠ gb319)); have NB319_307 := Aside0.mk ((by rw [hg]; exact Nat.ne_of_gt (blk_lt (g := gb307) (o := .cells #[.int .i64 t304, .int .i64 t305] 40 (0, 0)) (by (with_reducible repeat first | apply q1 | apply q2 | apply q3); exact BK307.out)) : gb319 ≠ gb307)); replace BK301 := Aside0.mk (blk_below (g := gb301) (o := .cells #[.int .i64 t295, .int .i64 t296] 38 (0, 0)) (by (with_reducible repeat first | apply q1 | apply q2 | apply q3); exact BK301.out) hb); replace BK302 := Aside0.mk (blk_below (g := gb302) (o := .cells #[.int .i64 t297, .int .i64 t298] 40 (0, 0)) (by (with_reducible repeat first | apply q1 | apply q2 | apply q3); exact BK302.out) hb); replace BK303 := Aside0.mk (blk_below (g := gb303) (o := .cells #[.int .i64 t299, .int .i64 t300] 40 (0, 0)) (by (with_reducible repeat first | apply q1 | apply q2 | apply q3); exact BK303.out) hb); replace BK307 := Aside0.mk (blk_below (g := gb307) (o := .cells #[.int .i64 t304, .int .i64 t305] 40 (0, 0)) (by (with_reducible repeat first | apply q1 | apply q2 | apply q3); exact BK307.out) hb); replace HB := Aside0.mk (below_step (by repeat (first | (with_reducible first | exact HB.out | apply q4 | apply q5 | apply q6 | refine below_set ?_ GE301.out | refine below_set ?_ GE302.out | refine below_set ?_ GE303.out | refine below_set ?_ GE307.out) | exact HB.out)) hb); clear hb hbox hg; have hnb66 := NB319_301.out; have hnc66 := NB301_319.out; have hnb67 := NB319_302.out; have hnc67 := NB302_319.out; have hnb68 := NB319_303.out; have hnc68 := NB303_319.out; have hnb69 := NB319_307.out; have hnc69 := NB307_319.out; have hcz70_0 : w65.cell? ⟨gb319, 0, none⟩ = some (.int .i64 0) := (blk_cell BK319.out 0).trans rfl; have hcz70_1 : w65.cell? ⟨gb319, 1, none⟩ = some (.int .i64 0) := (blk_cell BK319.out 1).trans rfl; have hfz70_0 := blk_frozen BK319.out 0; have hfz70_1 := blk_frozen BK319.out 1; have hcz71_0 : w65.cell? ⟨gb301, 0, none⟩ = some (.int .i64 t295) := (blk_cell BK301.out 0).trans rfl; have hcz71_1 : w65.cell? ⟨gb301, 1, none⟩ = some (.int .i64 t296) := (blk_cell BK301.out 1).trans rfl; have hfz71_0 := blk_frozen BK301.out 0; have hfz71_1 := blk_frozen BK301.out 1) | ((with_reducible refine gate_callee (f := 36) rfl ?_); refine goesL_ (some 103) rfl rfl Try.func36 (by kernel_rfl) rfl #[.agg #[.int .i64 t295, .int .i64 t296]] rfl (by (try simp only [List.map_toArray, List.map_cons, List.map_nil]); first | done | rfl | (simp only [List.length_drop, List.length_take]; rfl)) ?_; (with_reducible refine (impl_ZeroPoint.calls kj6 t295 t296 t320 t321 t322 _ A47.out).mono ?_); rintro e w72 ⟨rfl, hb⟩; refine ⟨_, rfl, ?_⟩; replace BK301 := Aside0.mk (blk_below (g := gb301) (o := .cells #[.int .i64 t295, .int .i64 t296] 38 (0, 0)) (by (with_reducible repeat first | apply q1 | apply q2 | apply q3); refine blk_far ?_ NB301_319.out _; (with_reducible repeat first | apply q1 | apply q2 | apply q3); refine blk_far ?_ NB301_319.out _; (with_reducible repeat first | apply q1 | apply q2 | apply q3); exact BK301.out) hb); replace BK302 := Aside0.mk (blk_below (g := gb302) (o := .cells #[.int .i64 t297, .int .i64 t298] 40 (0, 0)) (by (with_reducible repeat first | apply q1 | apply q2 | apply q3); refine blk_far ?_ NB302_319.out _; (with_reducible repeat first | apply q1 | apply q2 | apply q3); refine blk_far ?_ NB302_319.out _; (with_reducible repeat first | apply q1 | apply q2 | apply q3); exact BK302.out) hb); replace BK303 := Aside0.mk (blk_below (g := gb303) (o := .cells #[.int .i64 t299, .int .i64 t300] 40 (0, 0)) (by (with_reducible repeat first | apply q1 | apply q2 | apply q3); refine blk_far ?_ NB303_319.out _; (with_reducible repeat first | apply q1 | apply q2 | apply q3); refine blk_far ?_ NB303_319.out _; (with_reducible repeat first | apply q1 | apply q2 | apply q3); exact BK303.out) hb); replace BK307 := Aside0.mk (blk_below (g := gb307) (o := .cells #[.int .i64 t304, .int .i64 t305] 40 (0, 0)) (by (with_reducible repeat first | apply q1 | apply q2 | apply q3); refine blk_far ?_ NB307_319.out _; (with_reducible repeat first | apply q1 | apply q2 | apply q3); refine blk_far ?_ NB307_319.out _; (with_reducible repeat first | apply q1 | apply q2 | apply q3); exact BK307.out) hb); replace BK319 := Aside0.mk (blk_below (g := gb319) (o := .cells #[.int .i64 t316, .int .i64 t317] 40 (0, 0)) (by (with_reducible repeat first | apply q1 | apply q2 | apply q3); refine blk_put (cs := #[.int .i64 t316, .int .i64 0]) ?_ 1 _ rfl; (with_reducible repeat first | apply q1 | apply q2 | apply q3); refine blk_put (cs := #[.int .i64 0, .int .i64 0]) ?_ 0 _ rfl; (with_reducible repeat first | apply q1 | apply q2 | apply q3); exact BK319.out) hb); replace HB := Aside0.mk (below_step (by repeat (first | (with_reducible first | exact HB.out | apply q4 | apply q5 | apply q6 | refine below_set ?_ GE301.out | refine below_set ?_ GE302.out | refine below_set ?_ GE303.out | refine below_set ?_ GE307.out | refine below_set ?_ GE319.out) | exact HB.out)) hb); (try clear hb)) | ((with_reducible refine gate_dst (N := 16) rfl ?_); refine box_event ?hg (N := 16) ?hd (cs := #[.int .i64 0, .int .i64 0]) (t := 40) ?hr ?_; (case hd => rfl); (case hg => rfl); (case hr => first | (go_simp; done) | (go_simp; rfl)); intro gb323 hg w73 hbox hb; have BK323 := Aside0.mk (hbox); have GW323 := Aside0.mk ((by rw [hg]; exact (below_size (by repeat (first | (with_reducible first | exact HB.out | apply q4 | apply q5 | apply q6 | refine below_set ?_ GE301.out | refine below_set ?_ GE302.out | refine below_set ?_ GE303.out | refine below_set ?_ GE307.out | refine below_set ?_ GE319.out) | exact HB.out))) : w.heap.size ≤ gb323)); have GE323 := Aside0.mk ((by rw [hg]; exact (below_size (by repeat (first | (with_reducible first | exact HB.out | apply q4 | apply q5 | apply q6 | refine below_set ?_ GE301.out | refine below_set ?_ GE302.out | refine below_set ?_ GE303.out | refine below_set ?_ GE307.out | refine below_set ?_ GE319.out) | exact HB.out))) : w.heap.size ≤ gb323)); have NB301_323 := Aside0.mk ((by rw [hg]; exact Nat.ne_of_lt (blk_lt (g := gb301) (o := .cells #[.int .i64 t295, .int .i64 t296] 38 (0, 0)) (by (with_reducible repeat first | apply q1 | apply q2 | apply q3); exact BK301.out)) : gb301 ≠ gb323)); have NB323_301 := Aside0.mk ((by rw [hg]; exact Nat.ne_of_gt (blk_lt (g := gb301) (o := .cells #[.int .i64 t295, .int .i64 t296] 38 (0, 0)) (by (with_reducible repeat first | apply q1 | apply q2 | apply q3); exact BK301.out)) : gb323 ≠ gb301)); have NB302_323 := Aside0.mk ((by rw [hg]; exact Nat.ne_of_lt (blk_lt (g := gb302) (o := .cells #[.int .i64 t297, .int .i64 t298] 40 (0, 0)) (by (with_reducible repeat first | apply q1 | apply q2 | apply q3); exact BK302.out)) : gb302 ≠ gb323)); have NB323_302 := Aside0.mk ((by rw [hg]; exact Nat.ne_of_gt (blk_lt (g := gb302) (o := .cells #[.int .i64 t297, .int .i64 t298] 40 (0, 0)) (by (with_reducible repeat first | apply q1 | apply q2 | apply q3); exact BK302.out)) : gb323 ≠ gb302)); have NB303_323 := Aside0.mk ((by rw [hg]; exact Nat.ne_of_lt (blk_lt (g := gb303) (o := .cells #[.int .i64 t299, .int .i64 t300] 40 (0, 0)) (by (with_reducible repeat first | apply q1 | apply q2 | apply q3); exact BK303.out)) : gb303 ≠ gb323)); have NB323_303 := Aside0.mk ((by rw [hg]; exact Nat.ne_of_gt (blk_lt (g := gb303) (o := .cells #[.int .i64 t299, .int .i64 t300] 40 (0, 0)) (by (with_reducible repeat first | apply q1 | apply q2 | apply q3); exact BK303.out)) : gb323 ≠ gb303)); have NB307_323 := Aside0.mk ((by rw [hg]; exact Nat.ne_of_lt (blk_lt (g := gb307) (o := .cells #[.int .i64 t304, .int .i64 t305] 40 (0, 0)) (by (with_reducible repeat first | apply q1 | apply q2 | apply q3); exact BK307.out)) : gb307 ≠ gb323)); have NB323_307 := Aside0.mk ((by rw [hg]; exact Nat.ne_of_gt (blk_lt (g := gb307) (o := .cells #[.int .i64 t304, .int .i64 t305] 40 (0, 0)) (by (with_reducible repeat first | apply q1 | apply q2 | apply q3); exact BK307.out)) : gb323 ≠ gb307)); have NB319_323 := Aside0.mk ((by rw [hg]; exact Nat.ne_of_lt (blk_lt (g := gb319) (o := .cells #[.int .i64 t316, .int .i64 t317] 40 (0, 0)) (by (with_reducible repeat first | apply q1 | apply q2 | apply q3); exact BK319.out)) : gb319 ≠ gb323)); have NB323_319 := Aside0.mk ((by rw [hg]; exact Nat.ne_of_gt (blk_lt (g := gb319) (o := .cells #[.int .i64 t316, .int .i64 t317] 40 (0, 0)) (by (with_reducible repeat first | apply q1 | apply q2 | apply q3); exact BK319.out)) : gb323 ≠ gb319)); replace BK301 := Aside0.mk (blk_below (g := gb301) (o := .cells #[.int .i64 t295, .int .i64 t296] 38 (0, 0)) (by (with_reducible repeat first | apply q1 | apply q2 | apply q3); exact BK301.out) hb); replace BK302 := Aside0.mk (blk_below (g := gb302) (o := .cells #[.int .i64 t297, .int .i64 t298] 40 (0, 0)) (by (with_reducible repeat first | apply q1 | apply q2 | apply q3); exact BK302.out) hb); replace BK303 := Aside0.mk (blk_below (g := gb303) (o := .cells #[.int .i64 t299, .int .i64 t300] 40 (0, 0)) (by (with_reducible repeat first | apply q1 | apply q2 | apply q3); exact BK303.out) hb); replace BK307 := Aside0.mk (blk_below (g := gb307) (o := .cells #[.int .i64 t304, .int .i64 t305] 40 (0, 0)) (by (with_reducible repeat first | apply q1 | apply q2 | apply q3); exact BK307.out) hb); replace BK319 := Aside0.mk (blk_below (g := gb319) (o := .cells #[.int .i64 t316, .int .i64 t317] 40 (0, 0)) (by (with_reducible repeat first | apply q1 | apply q2 | apply q3); exact BK319.out) hb); replace HB := Aside0.mk (below_step (by repeat (first | (with_reducible first | exact HB.out | apply q4 | apply q5 | apply q6 | refine below_set ?_ GE301.out | refine below_set ?_ GE302.out | refine below_set ?_ GE303.out | refine below_set ?_ GE307.out | refine below_set ?_ GE319.out) | exact HB.out)) hb); clear hb hbox hg; have hnb74 := NB323_301.out; have hnc74 := NB301_323.out; have hnb75 := NB323_302.out; have hnc75 := NB302_323.out; have hnb76 := NB323_303.out; have hnc76 := NB303_323.out; have hnb77 := NB323_307.out; have hnc77 := NB307_323.out; have hnb78 := NB323_319.out; have hnc78 := NB319_323.out; have hcz79_0 : w73.cell? ⟨gb323, 0, none⟩ = some (.int .i64 0) := (blk_cell BK323.out 0).trans rfl; have hcz79_1 : w73.cell? ⟨gb323, 1, none⟩ = some (.int .i64 0) := (blk_cell BK323.out 1).trans rfl; have hfz79_0 := blk_frozen BK323.out 0; have hfz79_1 := blk_frozen BK323.out 1; have hcz80_0 : w73.cell? ⟨gb301, 0, none⟩ = some (.int .i64 t295) := (blk_cell BK301.out 0).trans rfl; have hcz80_1 : w73.cell? ⟨gb301, 1, none⟩ = some (.int .i64 t296) := (blk_cell BK301.out 1).trans rfl; have hfz80_0 := blk_frozen BK301.out 0; have hfz80_1 := blk_frozen BK301.out 1; have hcz81_0 : w73.cell? ⟨gb302, 0, none⟩ = some (.int .i64 t297) := (blk_cell BK302.out 0).trans rfl; have hcz81_1 : w73.cell? ⟨gb302, 1, none⟩ = some (.int .i64 t298) := (blk_cell BK302.out 1).trans rfl; have hfz81_0 := blk_frozen BK302.out 0; have hfz81_1 := blk_frozen BK302.out 1) | ((with_reducible refine gate_callee (f := 31) rfl ?_); refine goesL_ (some 110) rfl rfl Try.func31 (by kernel_rfl) rfl #[.agg #[.int .i64 t295, .int .i64 t296], .agg #[.int .i64 t297, .int .i64 t298], .agg #[.int .i64 t320, .int .i64 t321]] rfl (by (try simp only [List.map_toArray, List.map_cons, List.map_nil]); first | done | rfl | (simp only [List.length_drop, List.length_take]; rfl)) ?_; (with_reducible refine (impl_AddPoints.calls kj6 t295 t296 t297 t298 t320 t321 t324 t325 t326 _ A48.out).mono ?_); rintro e w82 ⟨rfl, hb⟩; refine ⟨_, rfl, ?_⟩; replace BK301 := Aside0.mk (blk_below (g := gb301) (o := .cells #[.int .i64 t295, .int .i64 t296] 38 (0, 0)) (by (with_reducible repeat first | apply q1 | apply q2 | apply q3); refine blk_far ?_ NB301_323.out _; (with_reducible repeat first | apply q1 | apply q2 | apply q3); refine blk_far ?_ NB301_323.out _; (with_reducible repeat first | apply q1 | apply q2 | apply q3); exact BK301.out) hb); replace BK302 := Aside0.mk (blk_below (g := gb302) (o := .cells #[.int .i64 t297, .int .i64 t298] 40 (0, 0)) (by (with_reducible repeat first | apply q1 | apply q2 | apply q3); refine blk_far ?_ NB302_323.out _; (with_reducible repeat first | apply q1 | apply q2 | apply q3); refine blk_far ?_ NB302_323.out _; (with_reducible repeat first | apply q1 | apply q2 | apply q3); exact BK302.out) hb); replace BK303 := Aside0.mk (blk_below (g := gb303) (o := .cells #[.int .i64 t299, .int .i64 t300] 40 (0, 0)) (by (with_reducible repeat first | apply q1 | apply q2 | apply q3); refine blk_far ?_ NB303_323.out _; (with_reducible repeat first | apply q1 | apply q2 | apply q3); refine blk_far ?_ NB303_323.out _; (with_reducible repeat first | apply q1 | apply q2 | apply q3); exact BK303.out) hb); replace BK307 := Aside0.mk (blk_below (g := gb307) (o := .cells #[.int .i64 t304, .int .i64 t305] 40 (0, 0)) (by (with_reducible repeat first | apply q1 | apply q2 | apply q3); refine blk_far ?_ NB307_323.out _; (with_reducible repeat first | apply q1 | apply q2 | apply q3); refine blk_far ?_ NB307_323.out _; (with_reducible repeat first | apply q1 | apply q2 | apply q3); exact BK307.out) hb); replace BK319 := Aside0.mk (blk_below (g := gb319) (o := .cells #[.int .i64 t316, .int .i64 t317] 40 (0, 0)) (by (with_reducible repeat first | apply q1 | apply q2 | apply q3); refine blk_far ?_ NB319_323.out _; (with_reducible repeat first | apply q1 | apply q2 | apply q3); refine blk_far ?_ NB319_323.out _; (with_reducible repeat first | apply q1 | apply q2 | apply q3); exact BK319.out) hb); replace BK323 := Aside0.mk (blk_below (g := gb323) (o := .cells #[.int .i64 t320, .int .i64 t321] 40 (0, 0)) (by (with_reducible repeat first | apply q1 | apply q2 | apply q3); refine blk_put (cs := #[.int .i64 t320, .int .i64 0]) ?_ 1 _ rfl; (with_reducible repeat first | apply q1 | apply q2 | apply q3); refine blk_put (cs := #[.int .i64 0, .int .i64 0]) ?_ 0 _ rfl; (with_reducible repeat first | apply q1 | apply q2 | apply q3); exact BK323.out) hb); replace HB := Aside0.mk (below_step (by repeat (first | (with_reducible first | exact HB.out | apply q4 | apply q5 | apply q6 | refine below_set ?_ GE301.out | refine below_set ?_ GE302.out | refine below_set ?_ GE303.out | refine below_set ?_ GE307.out | refine below_set ?_ GE319.out | refine below_set ?_ GE323.out) | exact HB.out)) hb); (try clear hb)) | ((with_reducible refine gate_dst (N := 18) rfl ?_); refine box_event ?hg (N := 18) ?hd (cs := #[.int .i64 0, .int .i64 0]) (t := 40) ?hr ?_; (case hd => rfl); (case hg => rfl); (case hr => first | (go_simp; done) | (go_simp; rfl)); intro gb327 hg w83 hbox hb; have BK327 := Aside0.mk (hbox); have GW327 := Aside0.mk ((by rw [hg]; exact (below_size (by repeat (first | (with_reducible first | exact HB.out | apply q4 | apply q5 | apply q6 | refine below_set ?_ GE301.out | refine below_set ?_ GE302.out | refine below_set ?_ GE303.out | refine below_set ?_ GE307.out | refine below_set ?_ GE319.out | refine below_set ?_ GE323.out) | exact HB.out))) : w.heap.size ≤ gb327)); have GE327 := Aside0.mk ((by rw [hg]; exact (below_size (by repeat (first | (with_reducible first | exact HB.out | apply q4 | apply q5 | apply q6 | refine below_set ?_ GE301.out | refine below_set ?_ GE302.out | refine below_set ?_ GE303.out | refine below_set ?_ GE307.out | refine below_set ?_ GE319.out | refine below_set ?_ GE323.out) | exact HB.out))) : w.heap.size ≤ gb327)); have NB301_327 := Aside0.mk ((by rw [hg]; exact Nat.ne_of_lt (blk_lt (g := gb301) (o := .cells #[.int .i64 t295, .int .i64 t296] 38 (0, 0)) (by (with_reducible repeat first | apply q1 | apply q2 | apply q3); exact BK301.out)) : gb301 ≠ gb327)); have NB327_301 := Aside0.mk ((by rw [hg]; exact Nat.ne_of_gt (blk_lt (g := gb301) (o := .cells #[.int .i64 t295, .int .i64 t296] 38 (0, 0)) (by (with_reducible repeat first | apply q1 | apply q2 | apply q3); exact BK301.out)) : gb327 ≠ gb301)); have NB302_327 := Aside0.mk ((by rw [hg]; exact Nat.ne_of_lt (blk_lt (g := gb302) (o := .cells #[.int .i64 t297, .int .i64 t298] 40 (0, 0)) (by (with_reducible repeat first | apply q1 | apply q2 | apply q3); exact BK302.out)) : gb302 ≠ gb327)); have NB327_302 := Aside0.mk ((by rw [hg]; exact Nat.ne_of_gt (blk_lt (g := gb302) (o := .cells #[.int .i64 t297, .int .i64 t298] 40 (0, 0)) (by (with_reducible repeat first | apply q1 | apply q2 | apply q3); exact BK302.out)) : gb327 ≠ gb302)); have NB303_327 := Aside0.mk ((by rw [hg]; exact Nat.ne_of_lt (blk_lt (g := gb303) (o := .cells #[.int .i64 t299, .int .i64 t300] 40 (0, 0)) (by (with_reducible repeat first | apply q1 | apply q2 | apply q3); exact BK303.out)) : gb303 ≠ gb327)); have NB327_303 := Aside0.mk ((by rw [hg]; exact Nat.ne_of_gt (blk_lt (g := gb303) (o := .cells #[.int .i64 t299, .int .i64 t300] 40 (0, 0)) (by (with_reducible repeat first | apply q1 | apply q2 | apply q3); exact BK303.out)) : gb327 ≠ gb303)); have NB307_327 := Aside0.mk ((by rw [hg]; exact Nat.ne_of_lt (blk_lt (g := gb307) (o := .cells #[.int .i64 t304, .int .i64 t305] 40 (0, 0)) (by (with_reducible repeat first | apply q1 | apply q2 | apply q3); exact BK307.out)) : gb307 ≠ gb327)); have NB327_307 := Aside0.mk ((by rw [hg]; exact Nat.ne_of_gt (blk_lt (g := gb307) (o := .cells #[.int .i64 t304, .int .i64 t305] 40 (0, 0)) (by (with_reducible repeat first | apply q1 | apply q2 | apply q3); exact BK307.out)) : gb327 ≠ gb307)); have NB319_327 := Aside0.mk ((by rw [hg]; exact Nat.ne_of_lt (blk_lt (g := gb319) (o := .cells #[.int .i64 t316, .int .i64 t317] 40 (0, 0)) (by (with_reducible repeat first | apply q1 | apply q2 | apply q3); exact BK319.out)) : gb319 ≠ gb327)); have NB327_319 := Aside0.mk ((by rw [hg]; exact Nat.ne_of_gt (blk_lt (g := gb319) (o := .cells #[.int .i64 t316, .int .i64 t317] 40 (0, 0)) (by (with_reducible repeat first | apply q1 | apply q2 | apply q3); exact BK319.out)) : gb327 ≠ gb319)); have NB323_327 := Aside0.mk ((by rw [hg]; exact Nat.ne_of_lt (blk_lt (g := gb323) (o := .cells #[.int .i64 t320, .int .i64 t321] 40 (0, 0)) (by (with_reducible repeat first | apply q1 | apply q2 | apply q3); exact BK323.out)) : gb323 ≠ gb327)); have NB327_323 := Aside0.mk ((by rw [hg]; exact Nat.ne_of_gt (blk_lt (g := gb323) (o := .cells #[.int .i64 t320, .int .i64 t321] 40 (0, 0)) (by (with_reducible repeat first | apply q1 | apply q2 | apply q3); exact BK323.out)) : gb327 ≠ gb323)); replace BK301 := Aside0.mk (blk_below (g := gb301) (o := .cells #[.int .i64 t295, .int .i64 t296] 38 (0, 0)) (by (with_reducible repeat first | apply q1 | apply q2 | apply q3); exact BK301.out) hb); replace BK302 := Aside0.mk (blk_below (g := gb302) (o := .cells #[.int .i64 t297, .int .i64 t298] 40 (0, 0)) (by (with_reducible repeat first | apply q1 | apply q2 | apply q3); exact BK302.out) hb); replace BK303 := Aside0.mk (blk_below (g := gb303) (o := .cells #[.int .i64 t299, .int .i64 t300] 40 (0, 0)) (by (with_reducible repeat first | apply q1 | apply q2 | apply q3); exact BK303.out) hb); replace BK307 := Aside0.mk (blk_below (g := gb307) (o := .cells #[.int .i64 t304, .int .i64 t305] 40 (0, 0)) (by (with_reducible repeat first | apply q1 | apply q2 | apply q3); exact BK307.out) hb); replace BK319 := Aside0.mk (blk_below (g := gb319) (o := .cells #[.int .i64 t316, .int .i64 t317] 40 (0, 0)) (by (with_reducible repeat first | apply q1 | apply q2 | apply q3); exact BK319.out) hb); replace BK323 := Aside0.mk (blk_below (g := gb323) (o := .cells #[.int .i64 t320, .int .i64 t321] 40 (0, 0)) (by (with_reducible repeat first | apply q1 | apply q2 | apply q3); exact BK323.out) hb); replace HB := Aside0.mk (below_step (by repeat (first | (with_reducible first | exact HB.out | apply q4 | apply q5 | apply q6 | refine below_set ?_ GE301.out | refine below_set ?_ GE302.out | refine below_set ?_ GE303.out | refine below_set ?_ GE307.out | refine below_set ?_ GE319.out | refine below_set ?_ GE323.out) | exact HB.out)) hb); clear hb hbox hg; have hnb84 := NB327_301.out; have hnc84 := NB301_327.out; have hnb85 := NB327_302.out; have hnc85 := NB302_327.out; have hnb86 := NB327_303.out; have hnc86 := NB303_327.out; have hnb87 := NB327_307.out; have hnc87 := NB307_327.out; have hnb88 := NB327_319.out; have hnc88 := NB319_327.out; have hnb89 := NB327_323.out; have hnc89 := NB323_327.out; have hcz90_0 : w83.cell? ⟨gb327, 0, none⟩ = some (.int .i64 0) := (blk_cell BK327.out 0).trans rfl; have hcz90_1 : w83.cell? ⟨gb327, 1, none⟩ = some (.int .i64 0) := (blk_cell BK327.out 1).trans rfl; have hfz90_0 := blk_frozen BK327.out 0; have hfz90_1 := blk_frozen BK327.out 1; have hcz91_0 : w83.cell? ⟨gb301, 0, none⟩ = some (.int .i64 t295) := (blk_cell BK301.out 0).trans rfl; have hcz91_1 : w83.cell? ⟨gb301, 1, none⟩ = some (.int .i64 t296) := (blk_cell BK301.out 1).trans rfl; have hfz91_0 := blk_frozen BK301.out 0; have hfz91_1 := blk_frozen BK301.out 1; have hcz92_0 : w83.cell? ⟨gb302, 0, none⟩ = some (.int .i64 t297) := (blk_cell BK302.out 0).trans rfl; have hcz92_1 : w83.cell? ⟨gb302, 1, none⟩ = some (.int .i64 t298) := (blk_cell BK302.out 1).trans rfl; have hfz92_0 := blk_frozen BK302.out 0; have hfz92_1 := blk_frozen BK302.out 1) | ((with_reducible refine gate_callee (f := 37) rfl ?_); refine goesL_ (some 116) rfl rfl Try.func37 (by kernel_rfl) rfl #[.agg #[.int .i64 t295, .int .i64 t296], .agg #[.int .i64 t297, .int .i64 t298]] rfl (by (try simp only [List.map_toArray, List.map_cons, List.map_nil]); first | done | rfl | (simp only [List.length_drop, List.length_take]; rfl)) ?_; (with_reducible refine (impl_NegPoint.calls kj6 t295 t296 t297 t298 t328 t329 t330 _ A49.out).mono ?_); rintro e w93 ⟨rfl, hb⟩; refine ⟨_, rfl, ?_⟩; replace BK301 := Aside0.mk (blk_below (g := gb301) (o := .cells #[.int .i64 t295, .int .i64 t296] 38 (0, 0)) (by (with_reducible repeat first | apply q1 | apply q2 | apply q3); refine blk_far ?_ NB301_327.out _; (with_reducible repeat first | apply q1 | apply q2 | apply q3); refine blk_far ?_ NB301_327.out _; (with_reducible repeat first | apply q1 | apply q2 | apply q3); exact BK301.out) hb); replace BK302 := Aside0.mk (blk_below (g := gb302) (o := .cells #[.int .i64 t297, .int .i64 t298] 40 (0, 0)) (by (with_reducible repeat first | apply q1 | apply q2 | apply q3); refine blk_far ?_ NB302_327.out _; (with_reducible repeat first | apply q1 | apply q2 | apply q3); refine blk_far ?_ NB302_327.out _; (with_reducible repeat first | apply q1 | apply q2 | apply q3); exact BK302.out) hb); replace BK303 := Aside0.mk (blk_below (g := gb303) (o := .cells #[.int .i64 t299, .int .i64 t300] 40 (0, 0)) (by (with_reducible repeat first | apply q1 | apply q2 | apply q3); refine blk_far ?_ NB303_327.out _; (with_reducible repeat first | apply q1 | apply q2 | apply q3); refine blk_far ?_ NB303_327.out _; (with_reducible repeat first | apply q1 | apply q2 | apply q3); exact BK303.out) hb); replace BK307 := Aside0.mk (blk_below (g := gb307) (o := .cells #[.int .i64 t304, .int .i64 t305] 40 (0, 0)) (by (with_reducible repeat first | apply q1 | apply q2 | apply q3); refine blk_far ?_ NB307_327.out _; (with_reducible repeat first | apply q1 | apply q2 | apply q3); refine blk_far ?_ NB307_327.out _; (with_reducible repeat first | apply q1 | apply q2 | apply q3); exact BK307.out) hb); replace BK319 := Aside0.mk (blk_below (g := gb319) (o := .cells #[.int .i64 t316, .int .i64 t317] 40 (0, 0)) (by (with_reducible repeat first | apply q1 | apply q2 | apply q3); refine blk_far ?_ NB319_327.out _; (with_reducible repeat first | apply q1 | apply q2 | apply q3); refine blk_far ?_ NB319_327.out _; (with_reducible repeat first | apply q1 | apply q2 | apply q3); exact BK319.out) hb); replace BK323 := Aside0.mk (blk_below (g := gb323) (o := .cells #[.int .i64 t320, .int .i64 t321] 40 (0, 0)) (by (with_reducible repeat first | apply q1 | apply q2 | apply q3); refine blk_far ?_ NB323_327.out _; (with_reducible repeat first | apply q1 | apply q2 | apply q3); refine blk_far ?_ NB323_327.out _; (with_reducible repeat first | apply q1 | apply q2 | apply q3); exact BK323.out) hb); replace BK327 := Aside0.mk (blk_below (g := gb327) (o := .cells #[.int .i64 t324, .int .i64 t325] 40 (0, 0)) (by (with_reducible repeat first | apply q1 | apply q2 | apply q3); refine blk_put (cs := #[.int .i64 t324, .int .i64 0]) ?_ 1 _ rfl; (with_reducible repeat first | apply q1 | apply q2 | apply q3); refine blk_put (cs := #[.int .i64 0, .int .i64 0]) ?_ 0 _ rfl; (with_reducible repeat first | apply q1 | apply q2 | apply q3); exact BK327.out) hb); replace HB := Aside0.mk (below_step (by repeat (first | (with_reducible first | exact HB.out | apply q4 | apply q5 | apply q6 | refine below_set ?_ GE301.out | refine below_set ?_ GE302.out | refine below_set ?_ GE303.out | refine below_set ?_ GE307.out | refine below_set ?_ GE319.out | refine below_set ?_ GE323.out | refine below_set ?_ GE327.out) | exact HB.out)) hb); (try clear hb)) | ((with_reducible refine gate_dst (N := 20) rfl ?_); refine box_event ?hg (N := 20) ?hd (cs := #[.int .i64 0, .int .i64 0]) (t := 40) ?hr ?_; (case hd => rfl); (case hg => rfl); (case hr => first | (go_simp; done) | (go_simp; rfl)); intro gb331 hg w94 hbox hb; have BK331 := Aside0.mk (hbox); have GW331 := Aside0.mk ((by rw [hg]; exact (below_size (by repeat (first | (with_reducible first | exact HB.out | apply q4 | apply q5 | apply q6 | refine below_set ?_ GE301.out | refine below_set ?_ GE302.out | refine below_set ?_ GE303.out | refine below_set ?_ GE307.out | refine below_set ?_ GE319.out | refine below_set ?_ GE323.out | refine below_set ?_ GE327.out) | exact HB.out))) : w.heap.size ≤ gb331)); have GE331 := Aside0.mk ((by rw [hg]; exact (below_size (by repeat (first | (with_reducible first | exact HB.out | apply q4 | apply q5 | apply q6 | refine below_set ?_ GE301.out | refine below_set ?_ GE302.out | refine below_set ?_ GE303.out | refine below_set ?_ GE307.out | refine below_set ?_ GE319.out | refine below_set ?_ GE323.out | refine below_set ?_ GE327.out) | exact HB.out))) : w.heap.size ≤ gb331)); have NB301_331 := Aside0.mk ((by rw [hg]; exact Nat.ne_of_lt (blk_lt (g := gb301) (o := .cells #[.int .i64 t295, .int .i64 t296] 38 (0, 0)) (by (with_reducible repeat first | apply q1 | apply q2 | apply q3); exact BK301.out)) : gb301 ≠ gb331)); have NB331_301 := Aside0.mk ((by rw [hg]; exact Nat.ne_of_gt (blk_lt (g := gb301) (o := .cells #[.int .i64 t295, .int .i64 t296] 38 (0, 0)) (by (with_reducible repeat first | apply q1 | apply q2 | apply q3); exact BK301.out)) : gb331 ≠ gb301)); have NB302_331 := Aside0.mk ((by rw [hg]; exact Nat.ne_of_lt (blk_lt (g := gb302) (o := .cells #[.int .i64 t297, .int .i64 t298] 40 (0, 0)) (by (with_reducible repeat first | apply q1 | apply q2 | apply q3); exact BK302.out)) : gb302 ≠ gb331)); have NB331_302 := Aside0.mk ((by rw [hg]; exact Nat.ne_of_gt (blk_lt (g := gb302) (o := .cells #[.int .i64 t297, .int .i64 t298] 40 (0, 0)) (by (with_reducible repeat first | apply q1 | apply q2 | apply q3); exact BK302.out)) : gb331 ≠ gb302)); have NB303_331 := Aside0.mk ((by rw [hg]; exact Nat.ne_of_lt (blk_lt (g := gb303) (o := .cells #[.int .i64 t299, .int .i64 t300] 40 (0, 0)) (by (with_reducible repeat first | apply q1 | apply q2 | apply q3); exact BK303.out)) : gb303 ≠ gb331)); have NB331_303 := Aside0.mk ((by rw [hg]; exact Nat.ne_of_gt (blk_lt (g := gb303) (o := .cells #[.int .i64 t299, .int .i64 t300] 40 (0, 0)) (by (with_reducible repeat first | apply q1 | apply q2 | apply q3); exact BK303.out)) : gb331 ≠ gb303)); have NB307_331 := Aside0.mk ((by rw [hg]; exact Nat.ne_of_lt (blk_lt (g := gb307) (o := .cells #[.int .i64 t304, .int .i64 t305] 40 (0, 0)) (by (with_reducible repeat first | apply q1 | apply q2 | apply q3); exact BK307.out)) : gb307 ≠ gb331)); have NB331_307 := Aside0.mk ((by rw [hg]; exact Nat.ne_of_gt (blk_lt (g := gb307) (o := .cells #[.int .i64 t304, .int .i64 t305] 40 (0, 0)) (by (with_reducible repeat first | apply q1 | apply q2 | apply q3); exact BK307.out)) : gb331 ≠ gb307)); have NB319_331 := Aside0.mk ((by rw [hg]; exact Nat.ne_of_lt (blk_lt (g := gb319) (o := .cells #[.int .i64 t316, .int .i64 t317] 40 (0, 0)) (by (with_reducible repeat first | apply q1 | apply q2 | apply q3); exact BK319.out)) : gb319 ≠ gb331)); have NB331_319 := Aside0.mk ((by rw [hg]; exact Nat.ne_of_gt (blk_lt (g := gb319) (o := .cells #[.int .i64 t316, .int .i64 t317] 40 (0, 0)) (by (with_reducible repeat first | apply q1 | apply q2 | apply q3); exact BK319.out)) : gb331 ≠ gb319)); have NB323_331 := Aside0.mk ((by rw [hg]; exact Nat.ne_of_lt (blk_lt (g := gb323) (o := .cells #[.int .i64 t320, .int .i64 t321] 40 (0, 0)) (by (with_reducible repeat first | apply q1 | apply q2 | apply q3); exact BK323.out)) : gb323 ≠ gb331)); have NB331_323 := Aside0.mk ((by rw [hg]; exact Nat.ne_of_gt (blk_lt (g := gb323) (o := .cells #[.int .i64 t320, .int .i64 t321] 40 (0, 0)) (by (with_reducible repeat first | apply q1 | apply q2 | apply q3); exact BK323.out)) : gb331 ≠ gb323)); have NB327_331 := Aside0.mk ((by rw [hg]; exact Nat.ne_of_lt (blk_lt (g := gb327) (o := .cells #[.int .i64 t324, .int .i64 t325] 40 (0, 0)) (by (with_reducible repeat first | apply q1 | apply q2 | apply q3); exact BK327.out)) : gb327 ≠ gb331)); have NB331_327 := Aside0.mk ((by rw [hg]; exact Nat.ne_of_gt (blk_lt (g := gb327) (o := .cells #[.int .i64 t324, .int .i64 t325] 40 (0, 0)) (by (with_reducible repeat first | apply q1 | apply q2 | apply q3); exact BK327.out)) : gb331 ≠ gb327)); replace BK301 := Aside0.mk (blk_below (g := gb301) (o := .cells #[.int .i64 t295, .int .i64 t296] 38 (0, 0)) (by (with_reducible repeat first | apply q1 | apply q2 | apply q3); exact BK301.out) hb); replace BK302 := Aside0.mk (blk_below (g := gb302) (o := .cells #[.int .i64 t297, .int .i64 t298] 40 (0, 0)) (by (with_reducible repeat first | apply q1 | apply q2 | apply q3); exact BK302.out) hb); replace BK303 := Aside0.mk (blk_below (g := gb303) (o := .cells #[.int .i64 t299, .int .i64 t300] 40 (0, 0)) (by (with_reducible repeat first | apply q1 | apply q2 | apply q3); exact BK303.out) hb); replace BK307 := Aside0.mk (blk_below (g := gb307) (o := .cells #[.int .i64 t304, .int .i64 t305] 40 (0, 0)) (by (with_reducible repeat first | apply q1 | apply q2 | apply q3); exact BK307.out) hb); replace BK319 := Aside0.mk (blk_below (g := gb319) (o := .cells #[.int .i64 t316, .int .i64 t317] 40 (0, 0)) (by (with_reducible repeat first | apply q1 | apply q2 | apply q3); exact BK319.out) hb); replace BK323 := Aside0.mk (blk_below (g := gb323) (o := .cells #[.int .i64 t320, .int .i64 t321] 40 (0, 0)) (by (with_reducible repeat first | apply q1 | apply q2 | apply q3); exact BK323.out) hb); replace BK327 := Aside0.mk (blk_below (g := gb327) (o := .cells #[.int .i64 t324, .int .i64 t325] 40 (0, 0)) (by (with_reducible repeat first | apply q1 | apply q2 | apply q3); exact BK327.out) hb); replace HB := Aside0.mk (below_step (by repeat (first | (with_reducible first | exact HB.out | apply q4 | apply q5 | apply q6 | refine below_set ?_ GE301.out | refine below_set ?_ GE302.out | refine below_set ?_ GE303.out | refine below_set ?_ GE307.out | refine below_set ?_ GE319.out | refine below_set ?_ GE323.out | refine below_set ?_ GE327.out) | exact HB.out)) hb); clear hb hbox hg; have hnb95 := NB331_301.out; have hnc95 := NB301_331.out; have hnb96 := NB331_302.out; have hnc96 := NB302_331.out; have hnb97 := NB331_303.out; have hnc97 := NB303_331.out; have hnb98 := NB331_307.out; have hnc98 := NB307_331.out; have hnb99 := NB331_319.out; have hnc99 := NB319_331.out; have hnb100 := NB331_323.out; have hnc100 := NB323_331.out; have hnb101 := NB331_327.out; have hnc101 := NB327_331.out; have hcz102_0 : w94.cell? ⟨gb331, 0, none⟩ = some (.int .i64 0) := (blk_cell BK331.out 0).trans rfl; have hcz102_1 : w94.cell? ⟨gb331, 1, none⟩ = some (.int .i64 0) := (blk_cell BK331.out 1).trans rfl; have hfz102_0 := blk_frozen BK331.out 0; have hfz102_1 := blk_frozen BK331.out 1; have hcz103_0 : w94.cell? ⟨gb301, 0, none⟩ = some (.int .i64 t295) := (blk_cell BK301.out 0).trans rfl; have hcz103_1 : w94.cell? ⟨gb301, 1, none⟩ = some (.int .i64 t296) := (blk_cell BK301.out 1).trans rfl; have hfz103_0 := blk_frozen BK301.out 0; have hfz103_1 := blk_frozen BK301.out 1; have hcz104_0 : w94.cell? ⟨gb302, 0, none⟩ = some (.int .i64 t297) := (blk_cell BK302.out 0).trans rfl; have hcz104_1 : w94.cell? ⟨gb302, 1, none⟩ = some (.int .i64 t298) := (blk_cell BK302.out 1).trans rfl; have hfz104_0 := blk_frozen BK302.out 0; have hfz104_1 := blk_frozen BK302.out 1) | ((with_reducible refine gate_callee (f := 31) rfl ?_); refine goesL_ (some 123) rfl rfl Try.func31 (by kernel_rfl) rfl #[.agg #[.int .i64 t295, .int .i64 t296], .agg #[.int .i64 t297, .int .i64 t298], .agg #[.int .i64 t328, .int .i64 t329]] rfl (by (try simp only [List.map_toArray, List.map_cons, List.map_nil]); first | done | rfl | (simp only [List.length_drop, List.length_take]; rfl)) ?_; (with_reducible refine (impl_AddPoints.calls kj6 t295 t296 t297 t298 t328 t329 t332 t333 t334 _ A50.out).mono ?_); rintro e w105 ⟨rfl, hb⟩; refine ⟨_, rfl, ?_⟩; replace BK301 := Aside0.mk (blk_below (g := gb301) (o := .cells #[.int .i64 t295, .int .i64 t296] 38 (0, 0)) (by (with_reducible repeat first | apply q1 | apply q2 | apply q3); refine blk_far ?_ NB301_331.out _; (with_reducible repeat first | apply q1 | apply q2 | apply q3); refine blk_far ?_ NB301_331.out _; (with_reducible repeat first | apply q1 | apply q2 | apply q3); exact BK301.out) hb); replace BK302 := Aside0.mk (blk_below (g := gb302) (o := .cells #[.int .i64 t297, .int .i64 t298] 40 (0, 0)) (by (with_reducible repeat first | apply q1 | apply q2 | apply q3); refine blk_far ?_ NB302_331.out _; (with_reducible repeat first | apply q1 | apply q2 | apply q3); refine blk_far ?_ NB302_331.out _; (with_reducible repeat first | apply q1 | apply q2 | apply q3); exact BK302.out) hb); replace BK303 := Aside0.mk (blk_below (g := gb303) (o := .cells #[.int .i64 t299, .int .i64 t300] 40 (0, 0)) (by (with_reducible repeat first | apply q1 | apply q2 | apply q3); refine blk_far ?_ NB303_331.out _; (with_reducible repeat first | apply q1 | apply q2 | apply q3); refine blk_far ?_ NB303_331.out _; (with_reducible repeat first | apply q1 | apply q2 | apply q3); exact BK303.out) hb); replace BK307 := Aside0.mk (blk_below (g := gb307) (o := .cells #[.int .i64 t304, .int .i64 t305] 40 (0, 0)) (by (with_reducible repeat first | apply q1 | apply q2 | apply q3); refine blk_far ?_ NB307_331.out _; (with_reducible repeat first | apply q1 | apply q2 | apply q3); refine blk_far ?_ NB307_331.out _; (with_reducible repeat first | apply q1 | apply q2 | apply q3); exact BK307.out) hb); replace BK319 := Aside0.mk (blk_below (g := gb319) (o := .cells #[.int .i64 t316, .int .i64 t317] 40 (0, 0)) (by (with_reducible repeat first | apply q1 | apply q2 | apply q3); refine blk_far ?_ NB319_331.out _; (with_reducible repeat first | apply q1 | apply q2 | apply q3); refine blk_far ?_ NB319_331.out _; (with_reducible repeat first | apply q1 | apply q2 | apply q3); exact BK319.out) hb); replace BK323 := Aside0.mk (blk_below (g := gb323) (o := .cells #[.int .i64 t320, .int .i64 t321] 40 (0, 0)) (by (with_reducible repeat first | apply q1 | apply q2 | apply q3); refine blk_far ?_ NB323_331.out _; (with_reducible repeat first | apply q1 | apply q2 | apply q3); refine blk_far ?_ NB323_331.out _; (with_reducible repeat first | apply q1 | apply q2 | apply q3); exact BK323.out) hb); replace BK327 := Aside0.mk (blk_below (g := gb327) (o := .cells #[.int .i64 t324, .int .i64 t325] 40 (0, 0)) (by (with_reducible repeat first | apply q1 | apply q2 | apply q3); refine blk_far ?_ NB327_331.out _; (with_reducible repeat first | apply q1 | apply q2 | apply q3); refine blk_far ?_ NB327_331.out _; (with_reducible repeat first | apply q1 | apply q2 | apply q3); exact BK327.out) hb); replace BK331 := Aside0.mk (blk_below (g := gb331) (o := .cells #[.int .i64 t328, .int .i64 t329] 40 (0, 0)) (by (with_reducible repeat first | apply q1 | apply q2 | apply q3); refine blk_put (cs := #[.int .i64 t328, .int .i64 0]) ?_ 1 _ rfl; (with_reducible repeat first | apply q1 | apply q2 | apply q3); refine blk_put (cs := #[.int .i64 0, .int .i64 0]) ?_ 0 _ rfl; (with_reducible repeat first | apply q1 | apply q2 | apply q3); exact BK331.out) hb); replace HB := Aside0.mk (below_step (by repeat (first | (with_reducible first | exact HB.out | apply q4 | apply q5 | apply q6 | refine below_set ?_ GE301.out | refine below_set ?_ GE302.out | refine below_set ?_ GE303.out | refine below_set ?_ GE307.out | refine below_set ?_ GE319.out | refine below_set ?_ GE323.out | refine below_set ?_ GE327.out | refine below_set ?_ GE331.out) | exact HB.out)) hb); (try clear hb)) | ((with_reducible refine gate_dst (N := 22) rfl ?_); refine box_event ?hg (N := 22) ?hd (cs := #[.int .i64 0, .int .i64 0]) (t := 40) ?hr ?_; (case hd => rfl); (case hg => rfl); (case hr => first | (go_simp; done) | (go_simp; rfl)); intro gb335 hg w106 hbox hb; have BK335 := Aside0.mk (hbox); have GW335 := Aside0.mk ((by rw [hg]; exact (below_size (by repeat (first | (with_reducible first | exact HB.out | apply q4 | apply q5 | apply q6 | refine below_set ?_ GE301.out | refine below_set ?_ GE302.out | refine below_set ?_ GE303.out | refine below_set ?_ GE307.out | refine below_set ?_ GE319.out | refine below_set ?_ GE323.out | refine below_set ?_ GE327.out | refine below_set ?_ GE331.out) | exact HB.out))) : w.heap.size ≤ gb335)); have GE335 := Aside0.mk ((by rw [hg]; exact (below_size (by repeat (first | (with_reducible first | exact HB.out | apply q4 | apply q5 | apply q6 | refine below_set ?_ GE301.out | refine below_set ?_ GE302.out | refine below_set ?_ GE303.out | refine below_set ?_ GE307.out | refine below_set ?_ GE319.out | refine below_set ?_ GE323.out | refine below_set ?_ GE327.out | refine below_set ?_ GE331.out) | exact HB.out))) : w.heap.size ≤ gb335)); have NB301_335 := Aside0.mk ((by rw [hg]; exact Nat.ne_of_lt (blk_lt (g := gb301) (o := .cells #[.int .i64 t295, .int .i64 t296] 38 (0, 0)) (by (with_reducible repeat first | apply q1 | apply q2 | apply q3); exact BK301.out)) : gb301 ≠ gb335)); have NB335_301 := Aside0.mk ((by rw [hg]; exact Nat.ne_of_gt (blk_lt (g := gb301) (o := .cells #[.int .i64 t295, .int .i64 t296] 38 (0, 0)) (by (with_reducible repeat first | apply q1 | apply q2 | apply q3); exact BK301.out)) : gb335 ≠ gb301)); have NB302_335 := Aside0.mk ((by rw [hg]; exact Nat.ne_of_lt (blk_lt (g := gb302) (o := .cells #[.int .i64 t297, .int .i64 t298] 40 (0, 0)) (by (with_reducible repeat first | apply q1 | apply q2 | apply q3); exact BK302.out)) : gb302 ≠ gb335)); have NB335_302 := Aside0.mk ((by rw [hg]; exact Nat.ne_of_gt (blk_lt (g := gb302) (o := .cells #[.int .i64 t297, .int .i64 t298] 40 (0, 0)) (by (with_reducible repeat first | apply q1 | apply q2 | apply q3); exact BK302.out)) : gb335 ≠ gb302)); have NB303_335 := Aside0.mk ((by rw [hg]; exact Nat.ne_of_lt (blk_lt (g := gb303) (o := .cells #[.int .i64 t299, .int .i64 t300] 40 (0, 0)) (by (with_reducible repeat first | apply q1 | apply q2 | apply q3); exact BK303.out)) : gb303 ≠ gb335)); have NB335_303 := Aside0.mk ((by rw [hg]; exact Nat.ne_of_gt (blk_lt (g := gb303) (o := .cells #[.int .i64 t299, .int .i64 t300] 40 (0, 0)) (by (with_reducible repeat first | apply q1 | apply q2 | apply q3); exact BK303.out)) : gb335 ≠ gb303)); have NB307_335 := Aside0.mk ((by rw [hg]; exact Nat.ne_of_lt (blk_lt (g := gb307) (o := .cells #[.int .i64 t304, .int .i64 t305] 40 (0, 0)) (by (with_reducible repeat first | apply q1 | apply q2 | apply q3); exact BK307.out)) : gb307 ≠ gb335)); have NB335_307 := Aside0.mk ((by rw [hg]; exact Nat.ne_of_gt (blk_lt (g := gb307) (o := .cells #[.int .i64 t304, .int .i64 t305] 40 (0, 0)) (by (with_reducible repeat first | apply q1 | apply q2 | apply q3); exact BK307.out)) : gb335 ≠ gb307)); have NB319_335 := Aside0.mk ((by rw [hg]; exact Nat.ne_of_lt (blk_lt (g := gb319) (o := .cells #[.int .i64 t316, .int .i64 t317] 40 (0, 0)) (by (with_reducible repeat first | apply q1 | apply q2 | apply q3); exact BK319.out)) : gb319 ≠ gb335)); have NB335_319 := Aside0.mk ((by rw [hg]; exact Nat.ne_of_gt (blk_lt (g := gb319) (o := .cells #[.int .i64 t316, .int .i64 t317] 40 (0, 0)) (by (with_reducible repeat first | apply q1 | apply q2 | apply q3); exact BK319.out)) : gb335 ≠ gb319)); have NB323_335 := Aside0.mk ((by rw [hg]; exact Nat.ne_of_lt (blk_lt (g := gb323) (o := .cells #[.int .i64 t320, .int .i64 t321] 40 (0, 0)) (by (with_reducible repeat first | apply q1 | apply q2 | apply q3); exact BK323.out)) : gb323 ≠ gb335)); have NB335_323 := Aside0.mk ((by rw [hg]; exact Nat.ne_of_gt (blk_lt (g := gb323) (o := .cells #[.int .i64 t320, .int .i64 t321] 40 (0, 0)) (by (with_reducible repeat first | apply q1 | apply q2 | apply q3); exact BK323.out)) : gb335 ≠ gb323)); have NB327_335 := Aside0.mk ((by rw [hg]; exact Nat.ne_of_lt (blk_lt (g := gb327) (o := .cells #[.int .i64 t324, .int .i64 t325] 40 (0, 0)) (by (with_reducible repeat first | apply q1 | apply q2 | apply q3); exact BK327.out)) : gb327 ≠ gb335)); have NB335_327 := Aside0.mk ((by rw [hg]; exact Nat.ne_of_gt (blk_lt (g := gb327) (o := .cells #[.int .i64 t324, .int .i64 t325] 40 (0, 0)) (by (with_reducible repeat first | apply q1 | apply q2 | apply q3); exact BK327.out)) : gb335 ≠ gb327)); have NB331_335 := Aside0.mk ((by rw [hg]; exact Nat.ne_of_lt (blk_lt (g := gb331) (o := .cells #[.int .i64 t328, .int .i64 t329] 40 (0, 0)) (by (with_reducible repeat first | apply q1 | apply q2 | apply q3); exact BK331.out)) : gb331 ≠ gb335)); have NB335_331 := Aside0.mk ((by rw [hg]; exact Nat.ne_of_gt (blk_lt (g := gb331) (o := .cells #[.int .i64 t328, .int .i64 t329] 40 (0, 0)) (by (with_reducible repeat first | apply q1 | apply q2 | apply q3); exact BK331.out)) : gb335 ≠ gb331)); replace BK301 := Aside0.mk (blk_below (g := gb301) (o := .cells #[.int .i64 t295, .int .i64 t296] 38 (0, 0)) (by (with_reducible repeat first | apply q1 | apply q2 | apply q3); exact BK301.out) hb); replace BK302 := Aside0.mk (blk_below (g := gb302) (o := .cells #[.int .i64 t297, .int .i64 t298] 40 (0, 0)) (by (with_reducible repeat first | apply q1 | apply q2 | apply q3); exact BK302.out) hb); replace BK303 := Aside0.mk (blk_below (g := gb303) (o := .cells #[.int .i64 t299, .int .i64 t300] 40 (0, 0)) (by (with_reducible repeat first | apply q1 | apply q2 | apply q3); exact BK303.out) hb); replace BK307 := Aside0.mk (blk_below (g := gb307) (o := .cells #[.int .i64 t304, .int .i64 t305] 40 (0, 0)) (by (with_reducible repeat first | apply q1 | apply q2 | apply q3); exact BK307.out) hb); replace BK319 := Aside0.mk (blk_below (g := gb319) (o := .cells #[.int .i64 t316, .int .i64 t317] 40 (0, 0)) (by (with_reducible repeat first | apply q1 | apply q2 | apply q3); exact BK319.out) hb); replace BK323 := Aside0.mk (blk_below (g := gb323) (o := .cells #[.int .i64 t320, .int .i64 t321] 40 (0, 0)) (by (with_reducible repeat first | apply q1 | apply q2 | apply q3); exact BK323.out) hb); replace BK327 := Aside0.mk (blk_below (g := gb327) (o := .cells #[.int .i64 t324, .int .i64 t325] 40 (0, 0)) (by (with_reducible repeat first | apply q1 | apply q2 | apply q3); exact BK327.out) hb); replace BK331 := Aside0.mk (blk_below (g := gb331) (o := .cells #[.int .i64 t328, .int .i64 t329] 40 (0, 0)) (by (with_reducible repeat first | apply q1 | apply q2 | apply q3); exact BK331.out) hb); replace HB := Aside0.mk (below_step (by repeat (first | (with_reducible first | exact HB.out | apply q4 | apply q5 | apply q6 | refine below_set ?_ GE301.out | refine below_set ?_ GE302.out | refine below_set ?_ GE303.out | refine below_set ?_ GE307.out | refine below_set ?_ GE319.out | refine below_set ?_ GE323.out | refine below_set ?_ GE327.out | refine below_set ?_ GE331.out) | exact HB.out)) hb); clear hb hbox hg; have hnb107 := NB335_301.out; have hnc107 := NB301_335.out; have hnb108 := NB335_302.out; have hnc108 := NB302_335.out; have hnb109 := NB335_303.out; have hnc109 := NB303_335.out; have hnb110 := NB335_307.out; have hnc110 := NB307_335.out; have hnb111 := NB335_319.out; have hnc111 := NB319_335.out; have hnb112 := NB335_323.out; have hnc112 := NB323_335.out; have hnb113 := NB335_327.out; have hnc113 := NB327_335.out; have hnb114 := NB335_331.out; have hnc114 := NB331_335.out; have hcz115_0 : w106.cell? ⟨gb335, 0, none⟩ = some (.int .i64 0) := (blk_cell BK335.out 0).trans rfl; have hcz115_1 : w106.cell? ⟨gb335, 1, none⟩ = some (.int .i64 0) := (blk_cell BK335.out 1).trans rfl; have hfz115_0 := blk_frozen BK335.out 0; have hfz115_1 := blk_frozen BK335.out 1))
         (try simp only [Act.put, List.setIfInBounds_toArray, List.set_cons_zero, List.set_cons_succ])
         go_cut [166] (fun v166 wc => ∃ (kq : Nat) (x166_50 : Bool), v166 = .bool x166_50 ∧ Aside0 (laws_FnGroup.j1 kq l1 x166_50 t295 t296 t297 t298 t299 t300 t304 t305 = some r) ∧ Aside0 (kq ≤ kj6) ∧ Aside0 (wc.heap[gb301]? = some (.cells #[.int .i64 t295, .int .i64 t296] 38 (0, 0))) ∧ Aside0 (wc.heap[gb302]? = some (.cells #[.int .i64 t297, .int .i64 t298] 40 (0, 0))) ∧ Aside0 (wc.heap[gb303]? = some (.cells #[.int .i64 t299, .int .i64 t300] 40 (0, 0))) ∧ Aside0 (wc.heap[gb307]? = some (.cells #[.int .i64 t304, .int .i64 t305] 40 (0, 0))) ∧ Aside0 (Below w.heap.size w wc))
         case first =>
          as_aux_lemma =>
           have H := HC51.out
           clear HC51
           by_cases c116 : t315 = true
           ·subst c116
            have H1 : (if t314 = true then (if t318 = true then (if (!(t316 == t304) || (!(t317 == t305))) = true then (laws_FnGroup.j1 kj6 l1 true t295 t296 t297 t298 t299 t300 t304 t305) else (if t322 = true then (if t326 = true then (if (!(t324 == t297) || (!(t325 == t298))) = true then (laws_FnGroup.j1 kj6 l1 true t295 t296 t297 t298 t299 t300 t304 t305) else (if t330 = true then (if t334 = true then (laws_FnGroup.j1 kj6 l1 (!(t332 == t320) || (!(t333 == t321))) t295 t296 t297 t298 t299 t300 t304 t305) else (laws_FnGroup.j1 kj6 l1 true t295 t296 t297 t298 t299 t300 t304 t305)) else (laws_FnGroup.j1 kj6 l1 true t295 t296 t297 t298 t299 t300 t304 t305))) else (laws_FnGroup.j1 kj6 l1 true t295 t296 t297 t298 t299 t300 t304 t305)) else (laws_FnGroup.j1 kj6 l1 true t295 t296 t297 t298 t299 t300 t304 t305))) else (laws_FnGroup.j1 kj6 l1 true t295 t296 t297 t298 t299 t300 t304 t305)) else (laws_FnGroup.j1 kj6 l1 true t295 t296 t297 t298 t299 t300 t304 t305)) = some r := by rw [if_pos rfl] at H; exact H
            clear H
            have H := H1
            clear H1
            by_cases c117 : t314 = true
            ·subst c117
             have H1 : (if t318 = true then (if (!(t316 == t304) || (!(t317 == t305))) = true then (laws_FnGroup.j1 kj6 l1 true t295 t296 t297 t298 t299 t300 t304 t305) else (if t322 = true then (if t326 = true then (if (!(t324 == t297) || (!(t325 == t298))) = true then (laws_FnGroup.j1 kj6 l1 true t295 t296 t297 t298 t299 t300 t304 t305) else (if t330 = true then (if t334 = true then (laws_FnGroup.j1 kj6 l1 (!(t332 == t320) || (!(t333 == t321))) t295 t296 t297 t298 t299 t300 t304 t305) else (laws_FnGroup.j1 kj6 l1 true t295 t296 t297 t298 t299 t300 t304 t305)) else (laws_FnGroup.j1 kj6 l1 true t295 t296 t297 t298 t299 t300 t304 t305))) else (laws_FnGroup.j1 kj6 l1 true t295 t296 t297 t298 t299 t300 t304 t305)) else (laws_FnGroup.j1 kj6 l1 true t295 t296 t297 t298 t299 t300 t304 t305))) else (laws_FnGroup.j1 kj6 l1 true t295 t296 t297 t298 t299 t300 t304 t305)) = some r := by rw [if_pos rfl] at H; exact H
             clear H
             have H := H1
             clear H1
             by_cases c118 : t318 = true
             ·subst c118
              have H1 : (if (!(t316 == t304) || (!(t317 == t305))) = true then (laws_FnGroup.j1 kj6 l1 true t295 t296 t297 t298 t299 t300 t304 t305) else (if t322 = true then (if t326 = true then (if (!(t324 == t297) || (!(t325 == t298))) = true then (laws_FnGroup.j1 kj6 l1 true t295 t296 t297 t298 t299 t300 t304 t305) else (if t330 = true then (if t334 = true then (laws_FnGroup.j1 kj6 l1 (!(t332 == t320) || (!(t333 == t321))) t295 t296 t297 t298 t299 t300 t304 t305) else (laws_FnGroup.j1 kj6 l1 true t295 t296 t297 t298 t299 t300 t304 t305)) else (laws_FnGroup.j1 kj6 l1 true t295 t296 t297 t298 t299 t300 t304 t305))) else (laws_FnGroup.j1 kj6 l1 true t295 t296 t297 t298 t299 t300 t304 t305)) else (laws_FnGroup.j1 kj6 l1 true t295 t296 t297 t298 t299 t300 t304 t305))) = some r := by rw [if_pos rfl] at H; exact H
              clear H
              have H := H1
              clear H1
              by_cases c119 : (!(t316 == t304) || (!(t317 == t305))) = true
              ·rw [if_pos c119] at H
               have c119b0 : (!(t316 == t304) || (!(t317 == t305))) = true := c119
               clear c119
               (first | rw [c119b0] | (simp only [i64_w, i32_w]; rw [c119b0]) | skip)
               exfalso
               cases kj6 with
               | zero => exact absurd H (by simp [laws_FnGroup.j1])
               | succ kz_ => rw [laws_FnGroup.j1, if_pos rfl] at H; exact absurd ((Option.some.inj H).trans HR_.out) (by decide)
              ·rw [if_neg c119] at H
               have c119b0 : (!(t316 == t304) || (!(t317 == t305))) = false := by simpa using c119
               clear c119
               (first | rw [c119b0] | (simp only [i64_w, i32_w]; rw [c119b0]) | skip)
               by_cases c120 : t322 = true
               ·subst c120
                have H1 : (if t326 = true then (if (!(t324 == t297) || (!(t325 == t298))) = true then (laws_FnGroup.j1 kj6 l1 true t295 t296 t297 t298 t299 t300 t304 t305) else (if t330 = true then (if t334 = true then (laws_FnGroup.j1 kj6 l1 (!(t332 == t320) || (!(t333 == t321))) t295 t296 t297 t298 t299 t300 t304 t305) else (laws_FnGroup.j1 kj6 l1 true t295 t296 t297 t298 t299 t300 t304 t305)) else (laws_FnGroup.j1 kj6 l1 true t295 t296 t297 t298 t299 t300 t304 t305))) else (laws_FnGroup.j1 kj6 l1 true t295 t296 t297 t298 t299 t300 t304 t305)) = some r := by rw [if_pos rfl] at H; exact H
                clear H
                have H := H1
                clear H1
                by_cases c121 : t326 = true
                ·subst c121
                 have H1 : (if (!(t324 == t297) || (!(t325 == t298))) = true then (laws_FnGroup.j1 kj6 l1 true t295 t296 t297 t298 t299 t300 t304 t305) else (if t330 = true then (if t334 = true then (laws_FnGroup.j1 kj6 l1 (!(t332 == t320) || (!(t333 == t321))) t295 t296 t297 t298 t299 t300 t304 t305) else (laws_FnGroup.j1 kj6 l1 true t295 t296 t297 t298 t299 t300 t304 t305)) else (laws_FnGroup.j1 kj6 l1 true t295 t296 t297 t298 t299 t300 t304 t305))) = some r := by rw [if_pos rfl] at H; exact H
                 clear H
                 have H := H1
                 clear H1
                 by_cases c122 : (!(t324 == t297) || (!(t325 == t298))) = true
                 ·rw [if_pos c122] at H
                  have c122b0 : (!(t324 == t297) || (!(t325 == t298))) = true := c122
                  clear c122
                  exfalso
                  cases kj6 with
                  | zero => exact absurd H (by simp [laws_FnGroup.j1])
                  | succ kz_ => rw [laws_FnGroup.j1, if_pos rfl] at H; exact absurd ((Option.some.inj H).trans HR_.out) (by decide)
                 ·rw [if_neg c122] at H
                  have c122b0 : (!(t324 == t297) || (!(t325 == t298))) = false := by simpa using c122
                  clear c122
                  by_cases c123 : t330 = true
                  ·subst c123
                   have H1 : (if t334 = true then (laws_FnGroup.j1 kj6 l1 (!(t332 == t320) || (!(t333 == t321))) t295 t296 t297 t298 t299 t300 t304 t305) else (laws_FnGroup.j1 kj6 l1 true t295 t296 t297 t298 t299 t300 t304 t305)) = some r := by rw [if_pos rfl] at H; exact H
                   clear H
                   have H := H1
                   clear H1
                   by_cases c124 : t334 = true
                   ·subst c124
                    have H1 : (laws_FnGroup.j1 kj6 l1 (!(t332 == t320) || (!(t333 == t321))) t295 t296 t297 t298 t299 t300 t304 t305) = some r := by rw [if_pos rfl] at H; exact H
                    clear H
                    have H := H1
                    clear H1
                    as_aux_lemma =>
                     have H' := Aside0.mk H
                     clear H
                     have hnb132 := NB319_335.out
                     have hnc132 := NB335_319.out
                     have hcz133_0 : w106.cell? ⟨gb319, 0, none⟩ = some (.int .i64 t316) := (blk_cell BK319.out 0).trans rfl
                     have hcz133_1 : w106.cell? ⟨gb319, 1, none⟩ = some (.int .i64 t317) := (blk_cell BK319.out 1).trans rfl
                     have hfz133_0 := blk_frozen BK319.out 0
                     have hfz133_1 := blk_frozen BK319.out 1
                     have hnb140 := NB307_335.out
                     have hnc140 := NB335_307.out
                     have hcz141_0 : w106.cell? ⟨gb307, 0, none⟩ = some (.int .i64 t304) := (blk_cell BK307.out 0).trans rfl
                     have hcz141_1 : w106.cell? ⟨gb307, 1, none⟩ = some (.int .i64 t305) := (blk_cell BK307.out 1).trans rfl
                     have hfz141_0 := blk_frozen BK307.out 0
                     have hfz141_1 := blk_frozen BK307.out 1
                     have hnb147 := NB327_335.out
                     have hnc147 := NB335_327.out
                     have hcz148_0 : w106.cell? ⟨gb327, 0, none⟩ = some (.int .i64 t324) := (blk_cell BK327.out 0).trans rfl
                     have hcz148_1 : w106.cell? ⟨gb327, 1, none⟩ = some (.int .i64 t325) := (blk_cell BK327.out 1).trans rfl
                     have hfz148_0 := blk_frozen BK327.out 0
                     have hfz148_1 := blk_frozen BK327.out 1
                     have hnb153 := NB302_335.out
                     have hnc153 := NB335_302.out
                     have hcz154_0 : w106.cell? ⟨gb302, 0, none⟩ = some (.int .i64 t297) := (blk_cell BK302.out 0).trans rfl
                     have hcz154_1 : w106.cell? ⟨gb302, 1, none⟩ = some (.int .i64 t298) := (blk_cell BK302.out 1).trans rfl
                     have hfz154_0 := blk_frozen BK302.out 0
                     have hfz154_1 := blk_frozen BK302.out 1
                     have hnb155 := NB335_301.out
                     have hnc155 := NB301_335.out
                     have hnb156 := NB335_303.out
                     have hnc156 := NB303_335.out
                     have hnb157 := NB335_323.out
                     have hnc157 := NB323_335.out
                     have hnb158 := NB335_331.out
                     have hnc158 := NB331_335.out
                     have hcz159_0 : w106.cell? ⟨gb335, 0, none⟩ = some (.int .i64 0) := (blk_cell BK335.out 0).trans rfl
                     have hcz159_1 : w106.cell? ⟨gb335, 1, none⟩ = some (.int .i64 0) := (blk_cell BK335.out 1).trans rfl
                     have hfz159_0 := blk_frozen BK335.out 0
                     have hfz159_1 := blk_frozen BK335.out 1
                     have hcz163_0 : w106.cell? ⟨gb323, 0, none⟩ = some (.int .i64 t320) := (blk_cell BK323.out 0).trans rfl
                     have hcz163_1 : w106.cell? ⟨gb323, 1, none⟩ = some (.int .i64 t321) := (blk_cell BK323.out 1).trans rfl
                     have hfz163_0 := blk_frozen BK323.out 0
                     have hfz163_1 := blk_frozen BK323.out 1
                     go_wp2
                     all_goals (try exact absurd ‹some undef = some (Value.bool _)› (by simp [undef]))
                     go_meet
                     case rel => exact ⟨_, ((!(t332 == t320) || (!(t333 == t321)))), (by first | rfl | (simp; done) | (simp [*]; done)), H', ⟨by have := HJ6.out; first | omega | exact Nat.le_refl _⟩, ⟨by (with_reducible repeat first | apply q1 | apply q2 | apply q3); refine blk_far ?_ NB301_335.out _; (with_reducible repeat first | apply q1 | apply q2 | apply q3); refine blk_far ?_ NB301_335.out _; (with_reducible repeat first | apply q1 | apply q2 | apply q3); exact BK301.out⟩, ⟨by (with_reducible repeat first | apply q1 | apply q2 | apply q3); refine blk_far ?_ NB302_335.out _; (with_reducible repeat first | apply q1 | apply q2 | apply q3); refine blk_far ?_ NB302_335.out _; (with_reducible repeat first | apply q1 | apply q2 | apply q3); exact BK302.out⟩, ⟨by (with_reducible repeat first | apply q1 | apply q2 | apply q3); refine blk_far ?_ NB303_335.out _; (with_reducible repeat first | apply q1 | apply q2 | apply q3); refine blk_far ?_ NB303_335.out _; (with_reducible repeat first | apply q1 | apply q2 | apply q3); exact BK303.out⟩, ⟨by (with_reducible repeat first | apply q1 | apply q2 | apply q3); refine blk_far ?_ NB307_335.out _; (with_reducible repeat first | apply q1 | apply q2 | apply q3); refine blk_far ?_ NB307_335.out _; (with_reducible repeat first | apply q1 | apply q2 | apply q3); exact BK307.out⟩, ⟨by repeat (first | (with_reducible first | exact HB.out | apply q4 | apply q5 | apply q6 | refine below_set ?_ GE301.out | refine below_set ?_ GE302.out | refine below_set ?_ GE303.out | refine below_set ?_ GE307.out | refine below_set ?_ GE319.out | refine below_set ?_ GE323.out | refine below_set ?_ GE327.out | refine below_set ?_ GE331.out | refine below_set ?_ GE335.out) | exact HB.out)⟩⟩
                   ·replace c124 := Bool.eq_false_iff.mpr c124
                    subst c124
                    have H1 : (laws_FnGroup.j1 kj6 l1 true t295 t296 t297 t298 t299 t300 t304 t305) = some r := by rw [if_neg (show ¬ (false = true) by decide)] at H; exact H
                    clear H
                    have H := H1
                    clear H1
                    exfalso
                    cases kj6 with
                    | zero => exact absurd H (by simp [laws_FnGroup.j1])
                    | succ kz_ => rw [laws_FnGroup.j1, if_pos rfl] at H; exact absurd ((Option.some.inj H).trans HR_.out) (by decide)
                  ·replace c123 := Bool.eq_false_iff.mpr c123
                   subst c123
                   have H1 : (laws_FnGroup.j1 kj6 l1 true t295 t296 t297 t298 t299 t300 t304 t305) = some r := by rw [if_neg (show ¬ (false = true) by decide)] at H; exact H
                   clear H
                   have H := H1
                   clear H1
                   exfalso
                   cases kj6 with
                   | zero => exact absurd H (by simp [laws_FnGroup.j1])
                   | succ kz_ => rw [laws_FnGroup.j1, if_pos rfl] at H; exact absurd ((Option.some.inj H).trans HR_.out) (by decide)
                ·replace c121 := Bool.eq_false_iff.mpr c121
                 subst c121
                 have H1 : (laws_FnGroup.j1 kj6 l1 true t295 t296 t297 t298 t299 t300 t304 t305) = some r := by rw [if_neg (show ¬ (false = true) by decide)] at H; exact H
                 clear H
                 have H := H1
                 clear H1
                 exfalso
                 cases kj6 with
                 | zero => exact absurd H (by simp [laws_FnGroup.j1])
                 | succ kz_ => rw [laws_FnGroup.j1, if_pos rfl] at H; exact absurd ((Option.some.inj H).trans HR_.out) (by decide)
               ·replace c120 := Bool.eq_false_iff.mpr c120
                subst c120
                have H1 : (laws_FnGroup.j1 kj6 l1 true t295 t296 t297 t298 t299 t300 t304 t305) = some r := by rw [if_neg (show ¬ (false = true) by decide)] at H; exact H
                clear H
                have H := H1
                clear H1
                exfalso
                cases kj6 with
                | zero => exact absurd H (by simp [laws_FnGroup.j1])
                | succ kz_ => rw [laws_FnGroup.j1, if_pos rfl] at H; exact absurd ((Option.some.inj H).trans HR_.out) (by decide)
             ·replace c118 := Bool.eq_false_iff.mpr c118
              subst c118
              have H1 : (laws_FnGroup.j1 kj6 l1 true t295 t296 t297 t298 t299 t300 t304 t305) = some r := by rw [if_neg (show ¬ (false = true) by decide)] at H; exact H
              clear H
              have H := H1
              clear H1
              exfalso
              cases kj6 with
              | zero => exact absurd H (by simp [laws_FnGroup.j1])
              | succ kz_ => rw [laws_FnGroup.j1, if_pos rfl] at H; exact absurd ((Option.some.inj H).trans HR_.out) (by decide)
            ·replace c117 := Bool.eq_false_iff.mpr c117
             subst c117
             have H1 : (laws_FnGroup.j1 kj6 l1 true t295 t296 t297 t298 t299 t300 t304 t305) = some r := by rw [if_neg (show ¬ (false = true) by decide)] at H; exact H
             clear H
             have H := H1
             clear H1
             exfalso
             cases kj6 with
             | zero => exact absurd H (by simp [laws_FnGroup.j1])
             | succ kz_ => rw [laws_FnGroup.j1, if_pos rfl] at H; exact absurd ((Option.some.inj H).trans HR_.out) (by decide)
           ·replace c116 := Bool.eq_false_iff.mpr c116
            subst c116
            have H1 : (laws_FnGroup.j1 kj6 l1 true t295 t296 t297 t298 t299 t300 t304 t305) = some r := by rw [if_neg (show ¬ (false = true) by decide)] at H; exact H
            clear H
            have H := H1
            clear H1
            exfalso
            cases kj6 with
            | zero => exact absurd H (by simp [laws_FnGroup.j1])
            | succ kz_ => rw [laws_FnGroup.j1, if_pos rfl] at H; exact absurd ((Option.some.inj H).trans HR_.out) (by decide)
         case rest =>
          as_aux_lemma =>
           clear HC51
           try clear c1
           try clear c2
           try clear p2
           try clear c3
           try clear c3b0
           try clear c4
           try clear c5
           try clear c6
           try clear p6
           try clear c7
           try clear c8
           try clear c9
           try clear c10
           try clear c11
           try clear c12
           try clear c13
           try clear c14
           try clear c15
           try clear c16
           try clear c20
           try clear c21
           try clear c22
           try clear c29
           try clear c30
           try clear c31
           try clear c32
           try clear c33
           try clear c34
           try clear c34b0
           try clear c34b1
           try clear c34b2
           try clear c35
           try clear c35b0
           try clear c36
           try clear c37
           try clear c42
           try clear c44
           try clear c52
           try clear c53
           try clear c54
           try clear c56
           try clear c57
           try clear c61
           try clear c66
           try clear c67
           try clear c68
           try clear c69
           try clear c74
           try clear c75
           try clear c76
           try clear c77
           try clear c78
           try clear c84
           try clear c85
           try clear c86
           try clear c87
           try clear c88
           try clear c89
           try clear c95
           try clear c96
           try clear c97
           try clear c98
           try clear c99
           try clear c100
           try clear c101
           try clear c107
           try clear c108
           try clear c109
           try clear c110
           try clear c111
           try clear c112
           try clear c113
           try clear c114
           try clear c116
           try clear c117
           try clear c118
           try clear c119
           try clear c119b0
           try clear c120
           try clear c121
           try clear c122
           try clear c122b0
           try clear c123
           try clear c124
           try clear c125
           try clear c126
           try clear c127
           try clear c128
           try clear c129
           try clear c130
           try clear c131
           try clear c132
           try clear c134
           try clear c135
           try clear c136
           try clear c137
           try clear c138
           try clear c139
           try clear c140
           try clear c142
           try clear c143
           try clear c144
           try clear c145
           try clear c146
           try clear c147
           try clear c149
           try clear c150
           try clear c151
           try clear c152
           try clear c153
           try clear c155
           try clear c156
           try clear c157
           try clear c158
           try clear c160
           try clear c161
           try clear c162
           try clear hcz102_0
           try clear hcz102_1
           try clear hcz103_0
           try clear hcz103_1
           try clear hcz104_0
           try clear hcz104_1
           try clear hcz115_0
           try clear hcz115_1
           try clear hcz133_0
           try clear hcz133_1
           try clear hcz141_0
           try clear hcz141_1
           try clear hcz148_0
           try clear hcz148_1
           try clear hcz14_0
           try clear hcz14_1
           try clear hcz154_0
           try clear hcz154_1
           try clear hcz159_0
           try clear hcz159_1
           try clear hcz163_0
           try clear hcz163_1
           try clear hcz16_0
           try clear hcz16_1
           try clear hcz17_0
           try clear hcz17_1
           try clear hcz23_0
           try clear hcz23_1
           try clear hcz24_0
           try clear hcz24_1
           try clear hcz25_0
           try clear hcz25_1
           try clear hcz26_0
           try clear hcz26_1
           try clear hcz33_0
           try clear hcz33_1
           try clear hcz55_0
           try clear hcz55_1
           try clear hcz58_0
           try clear hcz58_1
           try clear hcz60_0
           try clear hcz60_1
           try clear hcz62_0
           try clear hcz62_1
           try clear hcz63_0
           try clear hcz63_1
           try clear hcz70_0
           try clear hcz70_1
           try clear hcz71_0
           try clear hcz71_1
           try clear hcz79_0
           try clear hcz79_1
           try clear hcz80_0
           try clear hcz80_1
           try clear hcz81_0
           try clear hcz81_1
           try clear hcz90_0
           try clear hcz90_1
           try clear hcz91_0
           try clear hcz91_1
           try clear hcz92_0
           try clear hcz92_1
           try clear hfz102_0
           try clear hfz102_1
           try clear hfz103_0
           try clear hfz103_1
           try clear hfz104_0
           try clear hfz104_1
           try clear hfz115_0
           try clear hfz115_1
           try clear hfz133_0
           try clear hfz133_1
           try clear hfz141_0
           try clear hfz141_1
           try clear hfz148_0
           try clear hfz148_1
           try clear hfz14_0
           try clear hfz14_1
           try clear hfz154_0
           try clear hfz154_1
           try clear hfz159_0
           try clear hfz159_1
           try clear hfz163_0
           try clear hfz163_1
           try clear hfz16_0
           try clear hfz16_1
           try clear hfz17_0
           try clear hfz17_1
           try clear hfz23_0
           try clear hfz23_1
           try clear hfz24_0
           try clear hfz24_1
           try clear hfz25_0
           try clear hfz25_1
           try clear hfz26_0
           try clear hfz26_1
           try clear hfz33_0
           try clear hfz33_1
           try clear hfz55_0
           try clear hfz55_1
           try clear hfz58_0
           try clear hfz58_1
           try clear hfz60_0
           try clear hfz60_1
           try clear hfz62_0
           try clear hfz62_1
           try clear hfz63_0
           try clear hfz63_1
           try clear hfz70_0
           try clear hfz70_1
           try clear hfz71_0
           try clear hfz71_1
           try clear hfz79_0
           try clear hfz79_1
           try clear hfz80_0
           try clear hfz80_1
           try clear hfz81_0
           try clear hfz81_1
           try clear hfz90_0
           try clear hfz90_1
           try clear hfz91_0
           try clear hfz91_1
           try clear hfz92_0
           try clear hfz92_1
           try clear p2
           try clear p6
           obtain ⟨kq, x166_50, rfl, HA, HJ50, BK301, BK302, BK303, BK307, HB⟩ := hcut
           cases kq with
           | zero => exact absurd HA.out (by simp [laws_FnGroup.j1])
           | succ kj50 =>
            have H := HA.out
            clear HA
            simp only [laws_FnGroup.j1] at H
            by_cases c164 : x166_50 = true
            ·subst c164
             have H1 : (some false) = some r := by rw [if_pos rfl] at H; exact H
             clear H
             have H := H1
             clear H1
             exact absurd ((Option.some.inj H).trans HR_.out) (by decide)
            ·replace c164 := Bool.eq_false_iff.mpr c164
             subst c164
             have H1 : ((laws_numberOf.f kj50 l1).bind fun t336 => ((impl_TimesPoint.f kj50 t295 t296 (wrap64 (1 + (Int.tmod t336 50))) t299 t300).bind fun bt337 => ((impl_AddPoints.f kj50 t295 t296 t304 t305 bt337.1 bt337.2.1).bind fun bt341 => ((impl_AddPoints.f kj50 t295 t296 t299 t300 bt337.1 bt337.2.1).bind fun bt345 => ((impl_AddPoints.f kj50 t295 t296 t297 t298 bt345.1 bt345.2.1).bind fun bt349 => (if bt337.2.2 = true then (if bt341.2.2 = true then (if bt345.2.2 = true then (if bt349.2.2 = true then (if (!(bt341.1 == bt349.1) || (!(bt341.2.1 == bt349.2.1))) = true then (some false) else (laws_FnGroup.j2 kj50 l1)) else (some false)) else (some false)) else (some false)) else (some false))))))) = some r := by rw [if_neg (show ¬ (false = true) by decide)] at H; exact H
             clear H
             have H := H1
             clear H1
             replace H := Option.bind_eq_some_iff.mp H
             obtain ⟨t336, A1650, H⟩ := H
             replace H : ((impl_TimesPoint.f kj50 t295 t296 (wrap64 (1 + (Int.tmod t336 50))) t299 t300).bind fun bt337 => ((impl_AddPoints.f kj50 t295 t296 t304 t305 bt337.1 bt337.2.1).bind fun bt341 => ((impl_AddPoints.f kj50 t295 t296 t299 t300 bt337.1 bt337.2.1).bind fun bt345 => ((impl_AddPoints.f kj50 t295 t296 t297 t298 bt345.1 bt345.2.1).bind fun bt349 => (if bt337.2.2 = true then (if bt341.2.2 = true then (if bt345.2.2 = true then (if bt349.2.2 = true then (if (!(bt341.1 == bt349.1) || (!(bt341.2.1 == bt349.2.1))) = true then (some false) else (laws_FnGroup.j2 kj50 l1)) else (some false)) else (some false)) else (some false)) else (some false)))))) = some r := H
             have A165 := Aside0.mk A1650
             clear A1650
             replace H := Option.bind_eq_some_iff.mp H
             obtain ⟨⟨t337, t338, t339⟩, A1660, H⟩ := H
             replace H : ((impl_AddPoints.f kj50 t295 t296 t304 t305 t337 t338).bind fun bt341 => ((impl_AddPoints.f kj50 t295 t296 t299 t300 t337 t338).bind fun bt345 => ((impl_AddPoints.f kj50 t295 t296 t297 t298 bt345.1 bt345.2.1).bind fun bt349 => (if t339 = true then (if bt341.2.2 = true then (if bt345.2.2 = true then (if bt349.2.2 = true then (if (!(bt341.1 == bt349.1) || (!(bt341.2.1 == bt349.2.1))) = true then (some false) else (laws_FnGroup.j2 kj50 l1)) else (some false)) else (some false)) else (some false)) else (some false))))) = some r := H
             have A166 := Aside0.mk A1660
             clear A1660
             replace H := Option.bind_eq_some_iff.mp H
             obtain ⟨⟨t341, t342, t343⟩, A1670, H⟩ := H
             replace H : ((impl_AddPoints.f kj50 t295 t296 t299 t300 t337 t338).bind fun bt345 => ((impl_AddPoints.f kj50 t295 t296 t297 t298 bt345.1 bt345.2.1).bind fun bt349 => (if t339 = true then (if t343 = true then (if bt345.2.2 = true then (if bt349.2.2 = true then (if (!(t341 == bt349.1) || (!(t342 == bt349.2.1))) = true then (some false) else (laws_FnGroup.j2 kj50 l1)) else (some false)) else (some false)) else (some false)) else (some false)))) = some r := H
             have A167 := Aside0.mk A1670
             clear A1670
             replace H := Option.bind_eq_some_iff.mp H
             obtain ⟨⟨t345, t346, t347⟩, A1680, H⟩ := H
             replace H : ((impl_AddPoints.f kj50 t295 t296 t297 t298 t345 t346).bind fun bt349 => (if t339 = true then (if t343 = true then (if t347 = true then (if bt349.2.2 = true then (if (!(t341 == bt349.1) || (!(t342 == bt349.2.1))) = true then (some false) else (laws_FnGroup.j2 kj50 l1)) else (some false)) else (some false)) else (some false)) else (some false))) = some r := H
             have A168 := Aside0.mk A1680
             clear A1680
             replace H := Option.bind_eq_some_iff.mp H
             obtain ⟨⟨t349, t350, t351⟩, A1690, H⟩ := H
             replace H : (if t339 = true then (if t343 = true then (if t347 = true then (if t351 = true then (if (!(t341 == t349) || (!(t342 == t350))) = true then (some false) else (laws_FnGroup.j2 kj50 l1)) else (some false)) else (some false)) else (some false)) else (some false)) = some r := H
             have A169 := Aside0.mk A1690
             clear A1690
             by_cases c170 : t339 = true
             ·subst c170
              have H1 : (if t343 = true then (if t347 = true then (if t351 = true then (if (!(t341 == t349) || (!(t342 == t350))) = true then (some false) else (laws_FnGroup.j2 kj50 l1)) else (some false)) else (some false)) else (some false)) = some r := by rw [if_pos rfl] at H; exact H
              clear H
              have H := H1
              clear H1
              by_cases c171 : t343 = true
              ·subst c171
               have H1 : (if t347 = true then (if t351 = true then (if (!(t341 == t349) || (!(t342 == t350))) = true then (some false) else (laws_FnGroup.j2 kj50 l1)) else (some false)) else (some false)) = some r := by rw [if_pos rfl] at H; exact H
               clear H
               have H := H1
               clear H1
               by_cases c172 : t347 = true
               ·subst c172
                have H1 : (if t351 = true then (if (!(t341 == t349) || (!(t342 == t350))) = true then (some false) else (laws_FnGroup.j2 kj50 l1)) else (some false)) = some r := by rw [if_pos rfl] at H; exact H
                clear H
                have H := H1
                clear H1
                by_cases c173 : t351 = true
                ·subst c173
                 have H1 : (if (!(t341 == t349) || (!(t342 == t350))) = true then (some false) else (laws_FnGroup.j2 kj50 l1)) = some r := by rw [if_pos rfl] at H; exact H
                 clear H
                 have H := H1
                 clear H1
                 by_cases c174 : (!(t341 == t349) || (!(t342 == t350))) = true
                 ·rw [if_pos c174] at H
                  have c174b0 : (!(t341 == t349) || (!(t342 == t350))) = true := c174
                  clear c174
                  exact absurd ((Option.some.inj H).trans HR_.out) (by decide)
                 ·rw [if_neg c174] at H
                  have c174b0 : (!(t341 == t349) || (!(t342 == t350))) = false := by simpa using c174
                  clear c174
                  as_aux_lemma =>
                   have H' := Aside0.mk H
                   clear H
                   try go_wp2
                   have n0_ := Aside0.mk (blk_drew BK301.out)
                   have n1_ := Aside0.mk (blk_drew BK302.out)
                   have n2_ := Aside0.mk (blk_drew BK303.out)
                   have n3_ := Aside0.mk (blk_drew BK307.out)
                   have n4_ := Aside0.mk (below_drew1 HB.out)
                   clear BK301 BK302 BK303 BK307 HB
                   have BK301 := n0_
                   have BK302 := n1_
                   have BK303 := n2_
                   have BK307 := n3_
                   have HB := n4_
                   clear n0_ n1_ n2_ n3_ n4_
                   refine start_ (n := 13) (S := fun w' => w'.cell? ⟨gb301, 0, none⟩ = some (.int .i64 t295) ∧ w'.cell? ⟨gb301, 1, none⟩ = some (.int .i64 t296) ∧ w'.cell? ⟨gb303, 0, none⟩ = some (.int .i64 t299) ∧ w'.cell? ⟨gb303, 1, none⟩ = some (.int .i64 t300)) (ds := []) #[false, false, false, false, false, false, false, false, false, false, false, false, false] (by kernel_rfl) rfl rfl ⟨(blk_cell BK301.out 0).trans rfl, (blk_cell BK301.out 1).trans rfl, (blk_cell BK303.out 0).trans rfl, (blk_cell BK303.out 1).trans rfl⟩ (fun hHeld => ?_); refine with_tabW laws_FnGroup.tab17 laws_FnGroup.bits17 (fun HT_ HW_ => ?_)
                   generalize wc.drew = w175 at BK301 BK302 BK303 BK307 HB hHeld ⊢
                   refine pure_ (i := 1) (N := some 169) (v := ?_) (a' := ?_) #[false, true, false, false, false, false, false, false, false, false, false, false, false] rfl rfl (any_of HT_.out (by kernel_rfl)) (fun _ _ _ h => h) (Or.inl ⟨by rfl, ?_⟩) ?_ ?_
                   rotate_left
                   ·intro w'
                    go_simp
                    with_reducible rfl
                   rotate_left
                   ·simp only [Act.put, List.setIfInBounds_toArray, List.set_cons_zero, List.set_cons_succ, i64_w, i32_w]
                    rfl
                   refine take_ (i := 0) (N := some 168) (v := ?_) (a' := ?_) #[true, true, false, false, false, false, false, false, false, false, false, false, false] rfl rfl (take_ofW HT_.out HW_.out (by kernel_rfl)) (fun _ _ _ h => h) (Or.inl ⟨by rfl, ?_⟩) hHeld ?_ ?_
                   rotate_left
                   ·rintro w' ⟨s0, s1, s2, s3⟩
                    go_simp
                    with_reducible rfl
                   rotate_left
                   ·simp only [Act.put, List.setIfInBounds_toArray, List.set_cons_zero, List.set_cons_succ, i64_w, i32_w]
                    rfl
                   refine take_ (i := 5) (N := some 173) (v := ?_) (a' := ?_) #[true, true, false, false, false, true, false, false, false, false, false, false, false] rfl rfl (take_ofW HT_.out HW_.out (by kernel_rfl)) (fun _ _ _ h => h) (Or.inl ⟨by rfl, ?_⟩) hHeld ?_ ?_
                   rotate_left
                   ·rintro w' ⟨s0, s1, s2, s3⟩
                    go_simp
                    with_reducible rfl
                   rotate_left
                   ·simp only [Act.put, List.setIfInBounds_toArray, List.set_cons_zero, List.set_cons_succ, i64_w, i32_w]
                    rfl
                   refine join_ (σ := Nat) 2 #[true, true, true, true, true, true, true, true, true, true, true, false, false] (fun s_ => [(170, .int .i64 t336), (174, .tuple #[.agg #[.int .i64 t337, .int .i64 t338], .bool true]), (24, .pointer (some ⟨s_, 0, none⟩)), (171, .int .i64 (Int.tmod t336 50)), (172, .int .i64 (wrap64 (1 + (Int.tmod t336 50)))), (167, .tuple #[.agg #[.int .i64 t337, .int .i64 t338], .bool true]), (175, .agg #[.int .i64 t337, .int .i64 t338]), (176, .bool true)]) (fun s_ w' => (w'.cell? ⟨gb301, 0, none⟩ = some (.int .i64 t295) ∧ w'.cell? ⟨gb301, 1, none⟩ = some (.int .i64 t296) ∧ w'.cell? ⟨gb303, 0, none⟩ = some (.int .i64 t299) ∧ w'.cell? ⟨gb303, 1, none⟩ = some (.int .i64 t300)) ∧ (w'.heap[gb301]? = some (.cells #[.int .i64 t295, .int .i64 t296] 38 (0, 0))) ∧ (w'.heap[gb302]? = some (.cells #[.int .i64 t297, .int .i64 t298] 40 (0, 0))) ∧ (w'.heap[gb303]? = some (.cells #[.int .i64 t299, .int .i64 t300] 40 (0, 0))) ∧ (w'.heap[gb307]? = some (.cells #[.int .i64 t304, .int .i64 t305] 40 (0, 0))) ∧ (w'.heap[s_]? = some (.cells #[.int .i64 0, .int .i64 0] 40 (0, 0))) ∧ (w.heap.size ≤ s_) ∧ (w.heap.size ≤ s_) ∧ (gb301 ≠ s_) ∧ (s_ ≠ gb301) ∧ (gb302 ≠ s_) ∧ (s_ ≠ gb302) ∧ (gb303 ≠ s_) ∧ (s_ ≠ gb303) ∧ (gb307 ≠ s_) ∧ (s_ ≠ gb307) ∧ (Below w.heap.size w w')) ?_ ?_
                   rotate_left
                   ·intro hCont
                    refine two_ (i := 2) (j := 10) (Ni := some 170) (Nj := some 24) #[true, true, true, false, false, true, false, false, false, false, false, false, false] #[true, true, false, false, false, true, false, false, false, false, true, false, false] rfl rfl rfl rfl (two_of HT_.out (by kernel_rfl)) (by decide) (by decide) (fun K hK => ?_) (fun K hK => ?_)
                    ·skip
                     refine goes_ Try.func10 (by kernel_rfl) rfl #[.slice A1 l1.length c1] (by rfl) rfl rfl (by (try simp only [List.map_toArray, List.map_cons, List.map_nil]); first | done | rfl | (simp only [List.length_drop, List.length_take]; rfl)) ?_
                     with_reducible refine (laws_numberOf.calls kj50 _ _ l1 t336 _ ?side1 ?side2 A165.out).mono ?_
                     (case side1 => repeat (first | exact (Kd.C_below HR1.out HB.out) | (with_reducible refine Kd.C_alloc ?_ _) | (with_reducible refine Kd.C_drewN ?_ _) | (with_reducible refine Kd.C_drew ?_)))
                     (case side2 => exact HC1.out)
                     rintro e w' ⟨rfl, ⟨nd, rfl⟩⟩
                     refine ⟨_, rfl, ?_⟩
                     refine hK.out _ _ ⟨(blk_cell BK301.out 0).trans rfl, (blk_cell BK301.out 1).trans rfl, (blk_cell BK303.out 0).trans rfl, (blk_cell BK303.out 1).trans rfl⟩ (fun hHeld => ?_)
                     clear hK K
                     refine norm_ (a' := ?_) ?_ ?_
                     rotate_left
                     ·show Act.put _ (some 170) _ = _
                      simp only [Act.put, List.setIfInBounds_toArray, List.set_cons_zero, List.set_cons_succ, i64_w, i32_w]
                      rfl
                     refine pure_ (i := 3) (N := some 171) (v := ?_) (a' := ?_) #[true, true, true, true, false, true, false, false, false, false, false, false, false] rfl rfl (any_of HT_.out (by kernel_rfl)) (fun _ _ _ h => h) (Or.inl ⟨by rfl, ?_⟩) ?_ ?_
                     rotate_left
                     ·intro w'
                      go_simp
                      with_reducible rfl
                     rotate_left
                     ·simp only [Act.put, List.setIfInBounds_toArray, List.set_cons_zero, List.set_cons_succ, i64_w, i32_w]
                      rfl
                     refine pure_ (i := 4) (N := some 172) (v := ?_) (a' := ?_) #[true, true, true, true, true, true, false, false, false, false, false, false, false] rfl rfl (any_of HT_.out (by kernel_rfl)) (fun _ _ _ h => h) (Or.inl ⟨by rfl, ?_⟩) ?_ ?_
                     rotate_left
                     ·intro w'
                      go_simp
                      with_reducible rfl
                     rotate_left
                     ·simp only [Act.put, List.setIfInBounds_toArray, List.set_cons_zero, List.set_cons_succ, i64_w, i32_w]
                      rfl
                     refine two_ (i := 6) (j := 10) (Ni := some 174) (Nj := some 24) #[true, true, true, true, true, true, true, false, false, false, false, false, false] #[true, true, true, true, true, true, false, false, false, false, true, false, false] rfl rfl rfl rfl (two_of HT_.out (by kernel_rfl)) (by decide) (by decide) (fun K hK => ?_) (fun K hK => ?_)
                     ·skip
                      refine goes_ Try.func38 (by kernel_rfl) rfl #[.agg #[.int .i64 t295, .int .i64 t296], .int .i64 (wrap64 (1 + (Int.tmod t336 50))), .agg #[.int .i64 t299, .int .i64 t300]] (by rfl) rfl rfl (by (try simp only [List.map_toArray, List.map_cons, List.map_nil]); first | done | rfl | (simp only [List.length_drop, List.length_take]; rfl)) ?_
                      with_reducible refine (impl_TimesPoint.calls kj50 t295 t296 (wrap64 (1 + (Int.tmod t336 50))) t299 t300 t337 t338 true _ A166.out).mono ?_
                      rintro e w176 ⟨rfl, hb⟩
                      refine ⟨_, rfl, ?_⟩
                      have n0_ := Aside0.mk (blk_below (g := gb301) (o := .cells #[.int .i64 t295, .int .i64 t296] 38 (0, 0)) (by (with_reducible repeat first | apply q1 | apply q2 | apply q3); exact BK301.out) hb)
                      have n1_ := Aside0.mk (blk_below (g := gb302) (o := .cells #[.int .i64 t297, .int .i64 t298] 40 (0, 0)) (by (with_reducible repeat first | apply q1 | apply q2 | apply q3); exact BK302.out) hb)
                      have n2_ := Aside0.mk (blk_below (g := gb303) (o := .cells #[.int .i64 t299, .int .i64 t300] 40 (0, 0)) (by (with_reducible repeat first | apply q1 | apply q2 | apply q3); exact BK303.out) hb)
                      have n3_ := Aside0.mk (blk_below (g := gb307) (o := .cells #[.int .i64 t304, .int .i64 t305] 40 (0, 0)) (by (with_reducible repeat first | apply q1 | apply q2 | apply q3); exact BK307.out) hb)
                      have n4_ := Aside0.mk (below_step (by repeat (first | (with_reducible first | exact HB.out | apply q4 | apply q5 | apply q6 | refine below_set ?_ GE301.out | refine below_set ?_ GE302.out | refine below_set ?_ GE303.out | refine below_set ?_ GE307.out) | exact HB.out)) hb)
                      clear BK301 BK302 BK303 BK307 HB
                      have BK301 := n0_
                      have BK302 := n1_
                      have BK303 := n2_
                      have BK307 := n3_
                      have HB := n4_
                      clear n0_ n1_ n2_ n3_ n4_
                      (try clear hb)
                      (try clear hb2)
                      (try clear hk)
                      (try clear hi)
                      refine hK.out _ _ ⟨(blk_cell BK301.out 0).trans rfl, (blk_cell BK301.out 1).trans rfl, (blk_cell BK303.out 0).trans rfl, (blk_cell BK303.out 1).trans rfl⟩ (fun hHeld => ?_)
                      clear hK K
                      refine norm_ (a' := ?_) ?_ ?_
                      rotate_left
                      ·show Act.put _ (some 174) _ = _
                       simp only [Act.put, List.setIfInBounds_toArray, List.set_cons_zero, List.set_cons_succ, i64_w, i32_w]
                       rfl
                      refine pure_ (i := 7) (N := some 167) (v := ?_) (a' := ?_) #[true, true, true, true, true, true, true, true, false, false, false, false, false] rfl rfl (any_of HT_.out (by kernel_rfl)) (fun _ _ _ h => h) (Or.inl ⟨by rfl, ?_⟩) ?_ ?_
                      rotate_left
                      ·intro w'
                       go_simp
                       with_reducible rfl
                      rotate_left
                      ·simp only [Act.put, List.setIfInBounds_toArray, List.set_cons_zero, List.set_cons_succ, i64_w, i32_w]
                       rfl
                      refine pure_ (i := 8) (N := some 175) (v := ?_) (a' := ?_) #[true, true, true, true, true, true, true, true, true, false, false, false, false] rfl rfl (any_of HT_.out (by kernel_rfl)) (fun _ _ _ h => h) (Or.inl ⟨by rfl, ?_⟩) ?_ ?_
                      rotate_left
                      ·intro w'
                       go_simp
                       with_reducible rfl
                      rotate_left
                      ·simp only [Act.put, List.setIfInBounds_toArray, List.set_cons_zero, List.set_cons_succ, i64_w, i32_w]
                       rfl
                      refine pure_ (i := 9) (N := some 176) (v := ?_) (a' := ?_) #[true, true, true, true, true, true, true, true, true, true, false, false, false] rfl rfl (any_of HT_.out (by kernel_rfl)) (fun _ _ _ h => h) (Or.inl ⟨by rfl, ?_⟩) ?_ ?_
                      rotate_left
                      ·intro w'
                       go_simp
                       with_reducible rfl
                      rotate_left
                      ·simp only [Act.put, List.setIfInBounds_toArray, List.set_cons_zero, List.set_cons_succ, i64_w, i32_w]
                       rfl
                      refine one_ (i := 10) (N := some 24) #[true, true, true, true, true, true, true, true, true, true, true, false, false] rfl rfl (one_of HT_.out (by kernel_rfl)) (by decide) (fun K hK => ?_)
                      refine box_step ?hg (N := 24) ?hd (cs := #[.int .i64 0, .int .i64 0]) (t := 40) ?hr ?_; (case hd => rfl); (case hg => rfl); (case hr => first | (go_simp; done) | (go_simp; rfl))
                      intro gb340 hg w177 hbox hb
                      have n0_ := Aside0.mk (blk_below (g := gb301) (o := .cells #[.int .i64 t295, .int .i64 t296] 38 (0, 0)) (by (with_reducible repeat first | apply q1 | apply q2 | apply q3); exact BK301.out) hb)
                      have n1_ := Aside0.mk (blk_below (g := gb302) (o := .cells #[.int .i64 t297, .int .i64 t298] 40 (0, 0)) (by (with_reducible repeat first | apply q1 | apply q2 | apply q3); exact BK302.out) hb)
                      have n2_ := Aside0.mk (blk_below (g := gb303) (o := .cells #[.int .i64 t299, .int .i64 t300] 40 (0, 0)) (by (with_reducible repeat first | apply q1 | apply q2 | apply q3); exact BK303.out) hb)
                      have n3_ := Aside0.mk (blk_below (g := gb307) (o := .cells #[.int .i64 t304, .int .i64 t305] 40 (0, 0)) (by (with_reducible repeat first | apply q1 | apply q2 | apply q3); exact BK307.out) hb)
                      have n4_ := Aside0.mk (below_step (by repeat (first | (with_reducible first | exact HB.out | apply q4 | apply q5 | apply q6 | refine below_set ?_ GE301.out | refine below_set ?_ GE302.out | refine below_set ?_ GE303.out | refine below_set ?_ GE307.out) | exact HB.out)) hb)
                      have n5_ := Aside0.mk (hbox)
                      have n6_ := Aside0.mk ((by rw [hg]; exact (below_size (by repeat (first | (with_reducible first | exact HB.out | apply q4 | apply q5 | apply q6 | refine below_set ?_ GE301.out | refine below_set ?_ GE302.out | refine below_set ?_ GE303.out | refine below_set ?_ GE307.out) | exact HB.out))) : w.heap.size ≤ gb340))
                      have n7_ := Aside0.mk ((by rw [hg]; exact (below_size (by repeat (first | (with_reducible first | exact HB.out | apply q4 | apply q5 | apply q6 | refine below_set ?_ GE301.out | refine below_set ?_ GE302.out | refine below_set ?_ GE303.out | refine below_set ?_ GE307.out) | exact HB.out))) : w.heap.size ≤ gb340))
                      have n8_ := Aside0.mk ((by rw [hg]; exact Nat.ne_of_lt (blk_lt (g := gb301) (o := .cells #[.int .i64 t295, .int .i64 t296] 38 (0, 0)) (by (with_reducible repeat first | apply q1 | apply q2 | apply q3); exact BK301.out)) : gb301 ≠ gb340))
                      have n9_ := Aside0.mk ((by rw [hg]; exact Nat.ne_of_gt (blk_lt (g := gb301) (o := .cells #[.int .i64 t295, .int .i64 t296] 38 (0, 0)) (by (with_reducible repeat first | apply q1 | apply q2 | apply q3); exact BK301.out)) : gb340 ≠ gb301))
                      have n10_ := Aside0.mk ((by rw [hg]; exact Nat.ne_of_lt (blk_lt (g := gb302) (o := .cells #[.int .i64 t297, .int .i64 t298] 40 (0, 0)) (by (with_reducible repeat first | apply q1 | apply q2 | apply q3); exact BK302.out)) : gb302 ≠ gb340))
                      have n11_ := Aside0.mk ((by rw [hg]; exact Nat.ne_of_gt (blk_lt (g := gb302) (o := .cells #[.int .i64 t297, .int .i64 t298] 40 (0, 0)) (by (with_reducible repeat first | apply q1 | apply q2 | apply q3); exact BK302.out)) : gb340 ≠ gb302))
                      have n12_ := Aside0.mk ((by rw [hg]; exact Nat.ne_of_lt (blk_lt (g := gb303) (o := .cells #[.int .i64 t299, .int .i64 t300] 40 (0, 0)) (by (with_reducible repeat first | apply q1 | apply q2 | apply q3); exact BK303.out)) : gb303 ≠ gb340))
                      have n13_ := Aside0.mk ((by rw [hg]; exact Nat.ne_of_gt (blk_lt (g := gb303) (o := .cells #[.int .i64 t299, .int .i64 t300] 40 (0, 0)) (by (with_reducible repeat first | apply q1 | apply q2 | apply q3); exact BK303.out)) : gb340 ≠ gb303))
                      have n14_ := Aside0.mk ((by rw [hg]; exact Nat.ne_of_lt (blk_lt (g := gb307) (o := .cells #[.int .i64 t304, .int .i64 t305] 40 (0, 0)) (by (with_reducible repeat first | apply q1 | apply q2 | apply q3); exact BK307.out)) : gb307 ≠ gb340))
                      have n15_ := Aside0.mk ((by rw [hg]; exact Nat.ne_of_gt (blk_lt (g := gb307) (o := .cells #[.int .i64 t304, .int .i64 t305] 40 (0, 0)) (by (with_reducible repeat first | apply q1 | apply q2 | apply q3); exact BK307.out)) : gb340 ≠ gb307))
                      clear BK301 BK302 BK303 BK307 HB
                      have BK301 := n0_
                      have BK302 := n1_
                      have BK303 := n2_
                      have BK307 := n3_
                      have HB := n4_
                      have BK340 := n5_
                      have GW340 := n6_
                      have GE340 := n7_
                      have NB301_340 := n8_
                      have NB340_301 := n9_
                      have NB302_340 := n10_
                      have NB340_302 := n11_
                      have NB303_340 := n12_
                      have NB340_303 := n13_
                      have NB307_340 := n14_
                      have NB340_307 := n15_
                      clear n0_ n1_ n2_ n3_ n4_ n5_ n6_ n7_ n8_ n9_ n10_ n11_ n12_ n13_ n14_ n15_ hb hbox hg
                      refine hK.out _ _ ⟨(blk_cell BK301.out 0).trans rfl, (blk_cell BK301.out 1).trans rfl, (blk_cell BK303.out 0).trans rfl, (blk_cell BK303.out 1).trans rfl⟩ (fun hHeld => ?_)
                      clear hK K
                      refine norm_ (a' := ?_) ?_ ?_
                      rotate_left
                      ·show Act.put _ (some 24) _ = _
                       simp only [Act.put, List.setIfInBounds_toArray, List.set_cons_zero, List.set_cons_succ, i64_w, i32_w]
                       rfl
                      exact norm_ (by simp only [putAll, Act.put, List.setIfInBounds_toArray, List.set_cons_zero, List.set_cons_succ]) (hCont (gb340) _ ⟨hHeld, (by (with_reducible repeat first | apply q1 | apply q2 | apply q3); exact BK301.out), (by (with_reducible repeat first | apply q1 | apply q2 | apply q3); exact BK302.out), (by (with_reducible repeat first | apply q1 | apply q2 | apply q3); exact BK303.out), (by (with_reducible repeat first | apply q1 | apply q2 | apply q3); exact BK307.out), (by (with_reducible repeat first | apply q1 | apply q2 | apply q3); exact BK340.out), GW340.out, GE340.out, NB301_340.out, NB340_301.out, NB302_340.out, NB340_302.out, NB303_340.out, NB340_303.out, NB307_340.out, NB340_307.out, (by repeat (first | (with_reducible first | exact HB.out | apply q4 | apply q5 | apply q6 | refine below_set ?_ GE301.out | refine below_set ?_ GE302.out | refine below_set ?_ GE303.out | refine below_set ?_ GE307.out | refine below_set ?_ GE340.out) | exact HB.out))⟩)
                     ·skip
                      refine box_step ?hg (N := 24) ?hd (cs := #[.int .i64 0, .int .i64 0]) (t := 40) ?hr ?_; (case hd => rfl); (case hg => rfl); (case hr => first | (go_simp; done) | (go_simp; rfl))
                      intro gb340 hg w176 hbox hb
                      have n0_ := Aside0.mk (blk_below (g := gb301) (o := .cells #[.int .i64 t295, .int .i64 t296] 38 (0, 0)) (by (with_reducible repeat first | apply q1 | apply q2 | apply q3); exact BK301.out) hb)
                      have n1_ := Aside0.mk (blk_below (g := gb302) (o := .cells #[.int .i64 t297, .int .i64 t298] 40 (0, 0)) (by (with_reducible repeat first | apply q1 | apply q2 | apply q3); exact BK302.out) hb)
                      have n2_ := Aside0.mk (blk_below (g := gb303) (o := .cells #[.int .i64 t299, .int .i64 t300] 40 (0, 0)) (by (with_reducible repeat first | apply q1 | apply q2 | apply q3); exact BK303.out) hb)
                      have n3_ := Aside0.mk (blk_below (g := gb307) (o := .cells #[.int .i64 t304, .int .i64 t305] 40 (0, 0)) (by (with_reducible repeat first | apply q1 | apply q2 | apply q3); exact BK307.out) hb)
                      have n4_ := Aside0.mk (below_step (by repeat (first | (with_reducible first | exact HB.out | apply q4 | apply q5 | apply q6 | refine below_set ?_ GE301.out | refine below_set ?_ GE302.out | refine below_set ?_ GE303.out | refine below_set ?_ GE307.out) | exact HB.out)) hb)
                      have n5_ := Aside0.mk (hbox)
                      have n6_ := Aside0.mk ((by rw [hg]; exact (below_size (by repeat (first | (with_reducible first | exact HB.out | apply q4 | apply q5 | apply q6 | refine below_set ?_ GE301.out | refine below_set ?_ GE302.out | refine below_set ?_ GE303.out | refine below_set ?_ GE307.out) | exact HB.out))) : w.heap.size ≤ gb340))
                      have n7_ := Aside0.mk ((by rw [hg]; exact (below_size (by repeat (first | (with_reducible first | exact HB.out | apply q4 | apply q5 | apply q6 | refine below_set ?_ GE301.out | refine below_set ?_ GE302.out | refine below_set ?_ GE303.out | refine below_set ?_ GE307.out) | exact HB.out))) : w.heap.size ≤ gb340))
                      have n8_ := Aside0.mk ((by rw [hg]; exact Nat.ne_of_lt (blk_lt (g := gb301) (o := .cells #[.int .i64 t295, .int .i64 t296] 38 (0, 0)) (by (with_reducible repeat first | apply q1 | apply q2 | apply q3); exact BK301.out)) : gb301 ≠ gb340))
                      have n9_ := Aside0.mk ((by rw [hg]; exact Nat.ne_of_gt (blk_lt (g := gb301) (o := .cells #[.int .i64 t295, .int .i64 t296] 38 (0, 0)) (by (with_reducible repeat first | apply q1 | apply q2 | apply q3); exact BK301.out)) : gb340 ≠ gb301))
                      have n10_ := Aside0.mk ((by rw [hg]; exact Nat.ne_of_lt (blk_lt (g := gb302) (o := .cells #[.int .i64 t297, .int .i64 t298] 40 (0, 0)) (by (with_reducible repeat first | apply q1 | apply q2 | apply q3); exact BK302.out)) : gb302 ≠ gb340))
                      have n11_ := Aside0.mk ((by rw [hg]; exact Nat.ne_of_gt (blk_lt (g := gb302) (o := .cells #[.int .i64 t297, .int .i64 t298] 40 (0, 0)) (by (with_reducible repeat first | apply q1 | apply q2 | apply q3); exact BK302.out)) : gb340 ≠ gb302))
                      have n12_ := Aside0.mk ((by rw [hg]; exact Nat.ne_of_lt (blk_lt (g := gb303) (o := .cells #[.int .i64 t299, .int .i64 t300] 40 (0, 0)) (by (with_reducible repeat first | apply q1 | apply q2 | apply q3); exact BK303.out)) : gb303 ≠ gb340))
                      have n13_ := Aside0.mk ((by rw [hg]; exact Nat.ne_of_gt (blk_lt (g := gb303) (o := .cells #[.int .i64 t299, .int .i64 t300] 40 (0, 0)) (by (with_reducible repeat first | apply q1 | apply q2 | apply q3); exact BK303.out)) : gb340 ≠ gb303))
                      have n14_ := Aside0.mk ((by rw [hg]; exact Nat.ne_of_lt (blk_lt (g := gb307) (o := .cells #[.int .i64 t304, .int .i64 t305] 40 (0, 0)) (by (with_reducible repeat first | apply q1 | apply q2 | apply q3); exact BK307.out)) : gb307 ≠ gb340))
                      have n15_ := Aside0.mk ((by rw [hg]; exact Nat.ne_of_gt (blk_lt (g := gb307) (o := .cells #[.int .i64 t304, .int .i64 t305] 40 (0, 0)) (by (with_reducible repeat first | apply q1 | apply q2 | apply q3); exact BK307.out)) : gb340 ≠ gb307))
                      clear BK301 BK302 BK303 BK307 HB
                      have BK301 := n0_
                      have BK302 := n1_
                      have BK303 := n2_
                      have BK307 := n3_
                      have HB := n4_
                      have BK340 := n5_
                      have GW340 := n6_
                      have GE340 := n7_
                      have NB301_340 := n8_
                      have NB340_301 := n9_
                      have NB302_340 := n10_
                      have NB340_302 := n11_
                      have NB303_340 := n12_
                      have NB340_303 := n13_
                      have NB307_340 := n14_
                      have NB340_307 := n15_
                      clear n0_ n1_ n2_ n3_ n4_ n5_ n6_ n7_ n8_ n9_ n10_ n11_ n12_ n13_ n14_ n15_ hb hbox hg
                      refine hK.out _ _ ⟨(blk_cell BK301.out 0).trans rfl, (blk_cell BK301.out 1).trans rfl, (blk_cell BK303.out 0).trans rfl, (blk_cell BK303.out 1).trans rfl⟩ (fun hHeld => ?_)
                      clear hK K
                      refine norm_ (a' := ?_) ?_ ?_
                      rotate_left
                      ·show Act.put _ (some 24) _ = _
                       simp only [Act.put, List.setIfInBounds_toArray, List.set_cons_zero, List.set_cons_succ, i64_w, i32_w]
                       rfl
                      refine one_ (i := 6) (N := some 174) #[true, true, true, true, true, true, true, false, false, false, true, false, false] rfl rfl (one_of HT_.out (by kernel_rfl)) (by decide) (fun K hK => ?_)
                      refine goes_ Try.func38 (by kernel_rfl) rfl #[.agg #[.int .i64 t295, .int .i64 t296], .int .i64 (wrap64 (1 + (Int.tmod t336 50))), .agg #[.int .i64 t299, .int .i64 t300]] (by rfl) rfl rfl (by (try simp only [List.map_toArray, List.map_cons, List.map_nil]); first | done | rfl | (simp only [List.length_drop, List.length_take]; rfl)) ?_
                      with_reducible refine (impl_TimesPoint.calls kj50 t295 t296 (wrap64 (1 + (Int.tmod t336 50))) t299 t300 t337 t338 true _ A166.out).mono ?_
                      rintro e w177 ⟨rfl, hb⟩
                      refine ⟨_, rfl, ?_⟩
                      have n0_ := Aside0.mk (blk_below (g := gb301) (o := .cells #[.int .i64 t295, .int .i64 t296] 38 (0, 0)) (by (with_reducible repeat first | apply q1 | apply q2 | apply q3); exact BK301.out) hb)
                      have n1_ := Aside0.mk (blk_below (g := gb302) (o := .cells #[.int .i64 t297, .int .i64 t298] 40 (0, 0)) (by (with_reducible repeat first | apply q1 | apply q2 | apply q3); exact BK302.out) hb)
                      have n2_ := Aside0.mk (blk_below (g := gb303) (o := .cells #[.int .i64 t299, .int .i64 t300] 40 (0, 0)) (by (with_reducible repeat first | apply q1 | apply q2 | apply q3); exact BK303.out) hb)
                      have n3_ := Aside0.mk (blk_below (g := gb307) (o := .cells #[.int .i64 t304, .int .i64 t305] 40 (0, 0)) (by (with_reducible repeat first | apply q1 | apply q2 | apply q3); exact BK307.out) hb)
                      have n4_ := Aside0.mk (blk_below (g := gb340) (o := .cells #[.int .i64 0, .int .i64 0] 40 (0, 0)) (by (with_reducible repeat first | apply q1 | apply q2 | apply q3); exact BK340.out) hb)
                      have n5_ := Aside0.mk (below_step (by repeat (first | (with_reducible first | exact HB.out | apply q4 | apply q5 | apply q6 | refine below_set ?_ GE301.out | refine below_set ?_ GE302.out | refine below_set ?_ GE303.out | refine below_set ?_ GE307.out | refine below_set ?_ GE340.out) | exact HB.out)) hb)
                      clear BK301 BK302 BK303 BK307 BK340 HB
                      have BK301 := n0_
                      have BK302 := n1_
                      have BK303 := n2_
                      have BK307 := n3_
                      have BK340 := n4_
                      have HB := n5_
                      clear n0_ n1_ n2_ n3_ n4_ n5_
                      (try clear hb)
                      (try clear hb2)
                      (try clear hk)
                      (try clear hi)
                      refine hK.out _ _ ⟨(blk_cell BK301.out 0).trans rfl, (blk_cell BK301.out 1).trans rfl, (blk_cell BK303.out 0).trans rfl, (blk_cell BK303.out 1).trans rfl⟩ (fun hHeld => ?_)
                      clear hK K
                      refine norm_ (a' := ?_) ?_ ?_
                      rotate_left
                      ·show Act.put _ (some 174) _ = _
                       simp only [Act.put, List.setIfInBounds_toArray, List.set_cons_zero, List.set_cons_succ, i64_w, i32_w]
                       rfl
                      refine pure_ (i := 7) (N := some 167) (v := ?_) (a' := ?_) #[true, true, true, true, true, true, true, true, false, false, true, false, false] rfl rfl (any_of HT_.out (by kernel_rfl)) (fun _ _ _ h => h) (Or.inl ⟨by rfl, ?_⟩) ?_ ?_
                      rotate_left
                      ·intro w'
                       go_simp
                       with_reducible rfl
                      rotate_left
                      ·simp only [Act.put, List.setIfInBounds_toArray, List.set_cons_zero, List.set_cons_succ, i64_w, i32_w]
                       rfl
                      refine pure_ (i := 8) (N := some 175) (v := ?_) (a' := ?_) #[true, true, true, true, true, true, true, true, true, false, true, false, false] rfl rfl (any_of HT_.out (by kernel_rfl)) (fun _ _ _ h => h) (Or.inl ⟨by rfl, ?_⟩) ?_ ?_
                      rotate_left
                      ·intro w'
                       go_simp
                       with_reducible rfl
                      rotate_left
                      ·simp only [Act.put, List.setIfInBounds_toArray, List.set_cons_zero, List.set_cons_succ, i64_w, i32_w]
                       rfl
                      refine pure_ (i := 9) (N := some 176) (v := ?_) (a' := ?_) #[true, true, true, true, true, true, true, true, true, true, true, false, false] rfl rfl (any_of HT_.out (by kernel_rfl)) (fun _ _ _ h => h) (Or.inl ⟨by rfl, ?_⟩) ?_ ?_
                      rotate_left
                      ·intro w'
                       go_simp
                       with_reducible rfl
                      rotate_left
                      ·simp only [Act.put, List.setIfInBounds_toArray, List.set_cons_zero, List.set_cons_succ, i64_w, i32_w]
                       rfl
                      exact norm_ (by simp only [putAll, Act.put, List.setIfInBounds_toArray, List.set_cons_zero, List.set_cons_succ]) (hCont (gb340) _ ⟨hHeld, (by (with_reducible repeat first | apply q1 | apply q2 | apply q3); exact BK301.out), (by (with_reducible repeat first | apply q1 | apply q2 | apply q3); exact BK302.out), (by (with_reducible repeat first | apply q1 | apply q2 | apply q3); exact BK303.out), (by (with_reducible repeat first | apply q1 | apply q2 | apply q3); exact BK307.out), (by (with_reducible repeat first | apply q1 | apply q2 | apply q3); exact BK340.out), GW340.out, GE340.out, NB301_340.out, NB340_301.out, NB302_340.out, NB340_302.out, NB303_340.out, NB340_303.out, NB307_340.out, NB340_307.out, (by repeat (first | (with_reducible first | exact HB.out | apply q4 | apply q5 | apply q6 | refine below_set ?_ GE301.out | refine below_set ?_ GE302.out | refine below_set ?_ GE303.out | refine below_set ?_ GE307.out | refine below_set ?_ GE340.out) | exact HB.out))⟩)
                    ·skip
                     refine box_step ?hg (N := 24) ?hd (cs := #[.int .i64 0, .int .i64 0]) (t := 40) ?hr ?_; (case hd => rfl); (case hg => rfl); (case hr => first | (go_simp; done) | (go_simp; rfl))
                     intro gb340 hg w176 hbox hb
                     have n0_ := Aside0.mk (blk_below (g := gb301) (o := .cells #[.int .i64 t295, .int .i64 t296] 38 (0, 0)) (by (with_reducible repeat first | apply q1 | apply q2 | apply q3); exact BK301.out) hb)
                     have n1_ := Aside0.mk (blk_below (g := gb302) (o := .cells #[.int .i64 t297, .int .i64 t298] 40 (0, 0)) (by (with_reducible repeat first | apply q1 | apply q2 | apply q3); exact BK302.out) hb)
                     have n2_ := Aside0.mk (blk_below (g := gb303) (o := .cells #[.int .i64 t299, .int .i64 t300] 40 (0, 0)) (by (with_reducible repeat first | apply q1 | apply q2 | apply q3); exact BK303.out) hb)
                     have n3_ := Aside0.mk (blk_below (g := gb307) (o := .cells #[.int .i64 t304, .int .i64 t305] 40 (0, 0)) (by (with_reducible repeat first | apply q1 | apply q2 | apply q3); exact BK307.out) hb)
                     have n4_ := Aside0.mk (below_step (by repeat (first | (with_reducible first | exact HB.out | apply q4 | apply q5 | apply q6 | refine below_set ?_ GE301.out | refine below_set ?_ GE302.out | refine below_set ?_ GE303.out | refine below_set ?_ GE307.out) | exact HB.out)) hb)
                     have n5_ := Aside0.mk (hbox)
                     have n6_ := Aside0.mk ((by rw [hg]; exact (below_size (by repeat (first | (with_reducible first | exact HB.out | apply q4 | apply q5 | apply q6 | refine below_set ?_ GE301.out | refine below_set ?_ GE302.out | refine below_set ?_ GE303.out | refine below_set ?_ GE307.out) | exact HB.out))) : w.heap.size ≤ gb340))
                     have n7_ := Aside0.mk ((by rw [hg]; exact (below_size (by repeat (first | (with_reducible first | exact HB.out | apply q4 | apply q5 | apply q6 | refine below_set ?_ GE301.out | refine below_set ?_ GE302.out | refine below_set ?_ GE303.out | refine below_set ?_ GE307.out) | exact HB.out))) : w.heap.size ≤ gb340))
                     have n8_ := Aside0.mk ((by rw [hg]; exact Nat.ne_of_lt (blk_lt (g := gb301) (o := .cells #[.int .i64 t295, .int .i64 t296] 38 (0, 0)) (by (with_reducible repeat first | apply q1 | apply q2 | apply q3); exact BK301.out)) : gb301 ≠ gb340))
                     have n9_ := Aside0.mk ((by rw [hg]; exact Nat.ne_of_gt (blk_lt (g := gb301) (o := .cells #[.int .i64 t295, .int .i64 t296] 38 (0, 0)) (by (with_reducible repeat first | apply q1 | apply q2 | apply q3); exact BK301.out)) : gb340 ≠ gb301))
                     have n10_ := Aside0.mk ((by rw [hg]; exact Nat.ne_of_lt (blk_lt (g := gb302) (o := .cells #[.int .i64 t297, .int .i64 t298] 40 (0, 0)) (by (with_reducible repeat first | apply q1 | apply q2 | apply q3); exact BK302.out)) : gb302 ≠ gb340))
                     have n11_ := Aside0.mk ((by rw [hg]; exact Nat.ne_of_gt (blk_lt (g := gb302) (o := .cells #[.int .i64 t297, .int .i64 t298] 40 (0, 0)) (by (with_reducible repeat first | apply q1 | apply q2 | apply q3); exact BK302.out)) : gb340 ≠ gb302))
                     have n12_ := Aside0.mk ((by rw [hg]; exact Nat.ne_of_lt (blk_lt (g := gb303) (o := .cells #[.int .i64 t299, .int .i64 t300] 40 (0, 0)) (by (with_reducible repeat first | apply q1 | apply q2 | apply q3); exact BK303.out)) : gb303 ≠ gb340))
                     have n13_ := Aside0.mk ((by rw [hg]; exact Nat.ne_of_gt (blk_lt (g := gb303) (o := .cells #[.int .i64 t299, .int .i64 t300] 40 (0, 0)) (by (with_reducible repeat first | apply q1 | apply q2 | apply q3); exact BK303.out)) : gb340 ≠ gb303))
                     have n14_ := Aside0.mk ((by rw [hg]; exact Nat.ne_of_lt (blk_lt (g := gb307) (o := .cells #[.int .i64 t304, .int .i64 t305] 40 (0, 0)) (by (with_reducible repeat first | apply q1 | apply q2 | apply q3); exact BK307.out)) : gb307 ≠ gb340))
                     have n15_ := Aside0.mk ((by rw [hg]; exact Nat.ne_of_gt (blk_lt (g := gb307) (o := .cells #[.int .i64 t304, .int .i64 t305] 40 (0, 0)) (by (with_reducible repeat first | apply q1 | apply q2 | apply q3); exact BK307.out)) : gb340 ≠ gb307))
                     clear BK301 BK302 BK303 BK307 HB
                     have BK301 := n0_
                     have BK302 := n1_
                     have BK303 := n2_
                     have BK307 := n3_
                     have HB := n4_
                     have BK340 := n5_
                     have GW340 := n6_
                     have GE340 := n7_
                     have NB301_340 := n8_
                     have NB340_301 := n9_
                     have NB302_340 := n10_
                     have NB340_302 := n11_
                     have NB303_340 := n12_
                     have NB340_303 := n13_
                     have NB307_340 := n14_
                     have NB340_307 := n15_
                     clear n0_ n1_ n2_ n3_ n4_ n5_ n6_ n7_ n8_ n9_ n10_ n11_ n12_ n13_ n14_ n15_ hb hbox hg
                     refine hK.out _ _ ⟨(blk_cell BK301.out 0).trans rfl, (blk_cell BK301.out 1).trans rfl, (blk_cell BK303.out 0).trans rfl, (blk_cell BK303.out 1).trans rfl⟩ (fun hHeld => ?_)
                     clear hK K
                     refine norm_ (a' := ?_) ?_ ?_
                     rotate_left
                     ·show Act.put _ (some 24) _ = _
                      simp only [Act.put, List.setIfInBounds_toArray, List.set_cons_zero, List.set_cons_succ, i64_w, i32_w]
                      rfl
                     refine one_ (i := 2) (N := some 170) #[true, true, true, false, false, true, false, false, false, false, true, false, false] rfl rfl (one_of HT_.out (by kernel_rfl)) (by decide) (fun K hK => ?_)
                     refine goes_ Try.func10 (by kernel_rfl) rfl #[.slice A1 l1.length c1] (by rfl) rfl rfl (by (try simp only [List.map_toArray, List.map_cons, List.map_nil]); first | done | rfl | (simp only [List.length_drop, List.length_take]; rfl)) ?_
                     with_reducible refine (laws_numberOf.calls kj50 _ _ l1 t336 _ ?side1 ?side2 A165.out).mono ?_
                     (case side1 => repeat (first | exact (Kd.C_below HR1.out HB.out) | (with_reducible refine Kd.C_alloc ?_ _) | (with_reducible refine Kd.C_drewN ?_ _) | (with_reducible refine Kd.C_drew ?_)))
                     (case side2 => exact HC1.out)
                     rintro e w' ⟨rfl, ⟨nd, rfl⟩⟩
                     refine ⟨_, rfl, ?_⟩
                     refine hK.out _ _ ⟨(blk_cell BK301.out 0).trans rfl, (blk_cell BK301.out 1).trans rfl, (blk_cell BK303.out 0).trans rfl, (blk_cell BK303.out 1).trans rfl⟩ (fun hHeld => ?_)
                     clear hK K
                     refine norm_ (a' := ?_) ?_ ?_
                     rotate_left
                     ·show Act.put _ (some 170) _ = _
                      simp only [Act.put, List.setIfInBounds_toArray, List.set_cons_zero, List.set_cons_succ, i64_w, i32_w]
                      rfl
                     refine pure_ (i := 3) (N := some 171) (v := ?_) (a' := ?_) #[true, true, true, true, false, true, false, false, false, false, true, false, false] rfl rfl (any_of HT_.out (by kernel_rfl)) (fun _ _ _ h => h) (Or.inl ⟨by rfl, ?_⟩) ?_ ?_
                     rotate_left
                     ·intro w'
                      go_simp
                      with_reducible rfl
                     rotate_left
                     ·simp only [Act.put, List.setIfInBounds_toArray, List.set_cons_zero, List.set_cons_succ, i64_w, i32_w]
                      rfl
                     refine pure_ (i := 4) (N := some 172) (v := ?_) (a' := ?_) #[true, true, true, true, true, true, false, false, false, false, true, false, false] rfl rfl (any_of HT_.out (by kernel_rfl)) (fun _ _ _ h => h) (Or.inl ⟨by rfl, ?_⟩) ?_ ?_
                     rotate_left
                     ·intro w'
                      go_simp
                      with_reducible rfl
                     rotate_left
                     ·simp only [Act.put, List.setIfInBounds_toArray, List.set_cons_zero, List.set_cons_succ, i64_w, i32_w]
                      rfl
                     refine one_ (i := 6) (N := some 174) #[true, true, true, true, true, true, true, false, false, false, true, false, false] rfl rfl (one_of HT_.out (by kernel_rfl)) (by decide) (fun K hK => ?_)
                     refine goes_ Try.func38 (by kernel_rfl) rfl #[.agg #[.int .i64 t295, .int .i64 t296], .int .i64 (wrap64 (1 + (Int.tmod t336 50))), .agg #[.int .i64 t299, .int .i64 t300]] (by rfl) rfl rfl (by (try simp only [List.map_toArray, List.map_cons, List.map_nil]); first | done | rfl | (simp only [List.length_drop, List.length_take]; rfl)) ?_
                     with_reducible refine (impl_TimesPoint.calls kj50 t295 t296 (wrap64 (1 + (Int.tmod t336 50))) t299 t300 t337 t338 true _ A166.out).mono ?_
                     rintro e w177 ⟨rfl, hb⟩
                     refine ⟨_, rfl, ?_⟩
                     have n0_ := Aside0.mk (blk_below (g := gb301) (o := .cells #[.int .i64 t295, .int .i64 t296] 38 (0, 0)) (by (with_reducible repeat first | apply q1 | apply q2 | apply q3); exact BK301.out) hb)
                     have n1_ := Aside0.mk (blk_below (g := gb302) (o := .cells #[.int .i64 t297, .int .i64 t298] 40 (0, 0)) (by (with_reducible repeat first | apply q1 | apply q2 | apply q3); exact BK302.out) hb)
                     have n2_ := Aside0.mk (blk_below (g := gb303) (o := .cells #[.int .i64 t299, .int .i64 t300] 40 (0, 0)) (by (with_reducible repeat first | apply q1 | apply q2 | apply q3); exact BK303.out) hb)
                     have n3_ := Aside0.mk (blk_below (g := gb307) (o := .cells #[.int .i64 t304, .int .i64 t305] 40 (0, 0)) (by (with_reducible repeat first | apply q1 | apply q2 | apply q3); exact BK307.out) hb)
                     have n4_ := Aside0.mk (blk_below (g := gb340) (o := .cells #[.int .i64 0, .int .i64 0] 40 (0, 0)) (by (with_reducible repeat first | apply q1 | apply q2 | apply q3); exact BK340.out) hb)
                     have n5_ := Aside0.mk (below_step (by repeat (first | (with_reducible first | exact HB.out | apply q4 | apply q5 | apply q6 | refine below_set ?_ GE301.out | refine below_set ?_ GE302.out | refine below_set ?_ GE303.out | refine below_set ?_ GE307.out | refine below_set ?_ GE340.out) | exact HB.out)) hb)
                     clear BK301 BK302 BK303 BK307 BK340 HB
                     have BK301 := n0_
                     have BK302 := n1_
                     have BK303 := n2_
                     have BK307 := n3_
                     have BK340 := n4_
                     have HB := n5_
                     clear n0_ n1_ n2_ n3_ n4_ n5_
                     (try clear hb)
                     (try clear hb2)
                     (try clear hk)
                     (try clear hi)
                     refine hK.out _ _ ⟨(blk_cell BK301.out 0).trans rfl, (blk_cell BK301.out 1).trans rfl, (blk_cell BK303.out 0).trans rfl, (blk_cell BK303.out 1).trans rfl⟩ (fun hHeld => ?_)
                     clear hK K
                     refine norm_ (a' := ?_) ?_ ?_
                     rotate_left
                     ·show Act.put _ (some 174) _ = _
                      simp only [Act.put, List.setIfInBounds_toArray, List.set_cons_zero, List.set_cons_succ, i64_w, i32_w]
                      rfl
                     refine pure_ (i := 7) (N := some 167) (v := ?_) (a' := ?_) #[true, true, true, true, true, true, true, true, false, false, true, false, false] rfl rfl (any_of HT_.out (by kernel_rfl)) (fun _ _ _ h => h) (Or.inl ⟨by rfl, ?_⟩) ?_ ?_
                     rotate_left
                     ·intro w'
                      go_simp
                      with_reducible rfl
                     rotate_left
                     ·simp only [Act.put, List.setIfInBounds_toArray, List.set_cons_zero, List.set_cons_succ, i64_w, i32_w]
                      rfl
                     refine pure_ (i := 8) (N := some 175) (v := ?_) (a' := ?_) #[true, true, true, true, true, true, true, true, true, false, true, false, false] rfl rfl (any_of HT_.out (by kernel_rfl)) (fun _ _ _ h => h) (Or.inl ⟨by rfl, ?_⟩) ?_ ?_
                     rotate_left
                     ·intro w'
                      go_simp
                      with_reducible rfl
                     rotate_left
                     ·simp only [Act.put, List.setIfInBounds_toArray, List.set_cons_zero, List.set_cons_succ, i64_w, i32_w]
                      rfl
                     refine pure_ (i := 9) (N := some 176) (v := ?_) (a' := ?_) #[true, true, true, true, true, true, true, true, true, true, true, false, false] rfl rfl (any_of HT_.out (by kernel_rfl)) (fun _ _ _ h => h) (Or.inl ⟨by rfl, ?_⟩) ?_ ?_
                     rotate_left
                     ·intro w'
                      go_simp
                      with_reducible rfl
                     rotate_left
                     ·simp only [Act.put, List.setIfInBounds_toArray, List.set_cons_zero, List.set_cons_succ, i64_w, i32_w]
                      rfl
                     exact norm_ (by simp only [putAll, Act.put, List.setIfInBounds_toArray, List.set_cons_zero, List.set_cons_succ]) (hCont (gb340) _ ⟨hHeld, (by (with_reducible repeat first | apply q1 | apply q2 | apply q3); exact BK301.out), (by (with_reducible repeat first | apply q1 | apply q2 | apply q3); exact BK302.out), (by (with_reducible repeat first | apply q1 | apply q2 | apply q3); exact BK303.out), (by (with_reducible repeat first | apply q1 | apply q2 | apply q3); exact BK307.out), (by (with_reducible repeat first | apply q1 | apply q2 | apply q3); exact BK340.out), GW340.out, GE340.out, NB301_340.out, NB340_301.out, NB302_340.out, NB340_302.out, NB303_340.out, NB340_303.out, NB307_340.out, NB340_307.out, (by repeat (first | (with_reducible first | exact HB.out | apply q4 | apply q5 | apply q6 | refine below_set ?_ GE301.out | refine below_set ?_ GE302.out | refine below_set ?_ GE303.out | refine below_set ?_ GE307.out | refine below_set ?_ GE340.out) | exact HB.out))⟩)
                   rintro gb340 w178 ⟨hS_, h0_, h1_, h2_, h3_, h4_, h5_, h6_, h7_, h8_, h9_, h10_, h11_, h12_, h13_, h14_, h15_⟩
                   have n0_ : Aside0 (w178.heap[gb301]? = some (.cells #[.int .i64 t295, .int .i64 t296] 38 (0, 0))) := ⟨h0_⟩
                   have n1_ : Aside0 (w178.heap[gb302]? = some (.cells #[.int .i64 t297, .int .i64 t298] 40 (0, 0))) := ⟨h1_⟩
                   have n2_ : Aside0 (w178.heap[gb303]? = some (.cells #[.int .i64 t299, .int .i64 t300] 40 (0, 0))) := ⟨h2_⟩
                   have n3_ : Aside0 (w178.heap[gb307]? = some (.cells #[.int .i64 t304, .int .i64 t305] 40 (0, 0))) := ⟨h3_⟩
                   have n4_ : Aside0 (w178.heap[gb340]? = some (.cells #[.int .i64 0, .int .i64 0] 40 (0, 0))) := ⟨h4_⟩
                   have n5_ : Aside0 (w.heap.size ≤ gb340) := ⟨h5_⟩
                   have n6_ : Aside0 (w.heap.size ≤ gb340) := ⟨h6_⟩
                   have n7_ : Aside0 (gb301 ≠ gb340) := ⟨h7_⟩
                   have n8_ : Aside0 (gb340 ≠ gb301) := ⟨h8_⟩
                   have n9_ : Aside0 (gb302 ≠ gb340) := ⟨h9_⟩
                   have n10_ : Aside0 (gb340 ≠ gb302) := ⟨h10_⟩
                   have n11_ : Aside0 (gb303 ≠ gb340) := ⟨h11_⟩
                   have n12_ : Aside0 (gb340 ≠ gb303) := ⟨h12_⟩
                   have n13_ : Aside0 (gb307 ≠ gb340) := ⟨h13_⟩
                   have n14_ : Aside0 (gb340 ≠ gb307) := ⟨h14_⟩
                   have n15_ : Aside0 (Below w.heap.size w w178) := ⟨h15_⟩
                   clear BK301 BK302 BK303 BK307 HB h0_ h1_ h2_ h3_ h4_ h5_ h6_ h7_ h8_ h9_ h10_ h11_ h12_ h13_ h14_ h15_
                   have BK301 := n0_
                   have BK302 := n1_
                   have BK303 := n2_
                   have BK307 := n3_
                   have BK340 := n4_
                   have GW340 := n5_
                   have GE340 := n6_
                   have NB301_340 := n7_
                   have NB340_301 := n8_
                   have NB302_340 := n9_
                   have NB340_302 := n10_
                   have NB303_340 := n11_
                   have NB340_303 := n12_
                   have NB307_340 := n13_
                   have NB340_307 := n14_
                   have HB := n15_
                   clear n0_ n1_ n2_ n3_ n4_ n5_ n6_ n7_ n8_ n9_ n10_ n11_ n12_ n13_ n14_ n15_
                   have hHeld : w178.cell? ⟨gb301, 0, none⟩ = some (.int .i64 t295) ∧ w178.cell? ⟨gb301, 1, none⟩ = some (.int .i64 t296) ∧ w178.cell? ⟨gb303, 0, none⟩ = some (.int .i64 t299) ∧ w178.cell? ⟨gb303, 1, none⟩ = some (.int .i64 t300) := hS_
                   refine norm_ (a' := ?_) ?_ ?_
                   rotate_left
                   ·simp only [putAll, Act.put, List.setIfInBounds_toArray, List.set_cons_zero, List.set_cons_succ]
                    rfl
                   refine one_ (i := 11) (N := none) #[true, true, true, true, true, true, true, true, true, true, true, true, false] rfl rfl (one_of HT_.out (by kernel_rfl)) (by decide) (fun K hK => ?_)
                   have hs179 : w178.cell? ⟨gb340, 0, none⟩ = some (.int .i64 0) := (blk_cell BK340.out 0).trans rfl
                   have hfs179 := blk_frozen BK340.out 0
                   have hms179_0 := NB340_301.out
                   have hms179_1 := NB340_302.out
                   have hms179_2 := NB340_303.out
                   have hms179_3 := NB340_307.out
                   have hs180 : w178.cell? ⟨gb340, 1, none⟩ = some (.int .i64 0) := (blk_cell BK340.out 1).trans rfl
                   have hfs180 := blk_frozen BK340.out 1
                   have hms180_0 := NB340_301.out
                   have hms180_1 := NB340_302.out
                   have hms180_2 := NB340_303.out
                   have hms180_3 := NB340_307.out
                   refine skip_ (w1 := ?_) (by rfl) rfl ?_ ?_
                   rotate_left
                   ·go_simp
                    rfl
                   refine hK.out _ _ ⟨((cell_far (p := ⟨gb340, _, none⟩) NB301_340.out _).trans (((cell_far (p := ⟨gb340, _, none⟩) NB301_340.out _).trans (hHeld.1)))), ((cell_far (p := ⟨gb340, _, none⟩) NB301_340.out _).trans (((cell_far (p := ⟨gb340, _, none⟩) NB301_340.out _).trans (hHeld.2.1)))), ((cell_far (p := ⟨gb340, _, none⟩) NB303_340.out _).trans (((cell_far (p := ⟨gb340, _, none⟩) NB303_340.out _).trans (hHeld.2.2.1)))), ((cell_far (p := ⟨gb340, _, none⟩) NB303_340.out _).trans (((cell_far (p := ⟨gb340, _, none⟩) NB303_340.out _).trans (hHeld.2.2.2))))⟩ (fun hHeld => ?_)
                   clear hK K
                   refine pure_ (i := 12) (N := some 25) (v := ?_) (a' := ?_) #[true, true, true, true, true, true, true, true, true, true, true, true, true] rfl rfl (any_of HT_.out (by kernel_rfl)) (fun _ _ _ h => h) (Or.inl ⟨by rfl, ?_⟩) ?_ ?_
                   rotate_left
                   ·intro w'
                    go_simp
                    with_reducible rfl
                   rotate_left
                   ·simp only [Act.put, List.setIfInBounds_toArray, List.set_cons_zero, List.set_cons_succ, i64_w, i32_w]
                    rfl
                   refine done_ (done_of HT_.out (by kernel_rfl)) ?_
                   have hnb184 := NB301_340.out
                   have hnc184 := NB340_301.out
                   have hcz185_0 : w178.cell? ⟨gb301, 0, none⟩ = some (.int .i64 t295) := (blk_cell BK301.out 0).trans rfl
                   have hcz185_1 : w178.cell? ⟨gb301, 1, none⟩ = some (.int .i64 t296) := (blk_cell BK301.out 1).trans rfl
                   have hfz185_0 := blk_frozen BK301.out 0
                   have hfz185_1 := blk_frozen BK301.out 1
                   have hnb188 := NB307_340.out
                   have hnc188 := NB340_307.out
                   have hcz189_0 : w178.cell? ⟨gb307, 0, none⟩ = some (.int .i64 t304) := (blk_cell BK307.out 0).trans rfl
                   have hcz189_1 : w178.cell? ⟨gb307, 1, none⟩ = some (.int .i64 t305) := (blk_cell BK307.out 1).trans rfl
                   have hfz189_0 := blk_frozen BK307.out 0
                   have hfz189_1 := blk_frozen BK307.out 1
                   have hnb190 := NB340_302.out
                   have hnc190 := NB302_340.out
                   have hnb191 := NB340_303.out
                   have hnc191 := NB303_340.out
                   have hcz192_0 : w178.cell? ⟨gb340, 0, none⟩ = some (.int .i64 0) := (blk_cell BK340.out 0).trans rfl
                   have hcz192_1 : w178.cell? ⟨gb340, 1, none⟩ = some (.int .i64 0) := (blk_cell BK340.out 1).trans rfl
                   have hfz192_0 := blk_frozen BK340.out 0
                   have hfz192_1 := blk_frozen BK340.out 1
                   try go_wp2_with (first | ((with_reducible refine gate_callee (f := 31) rfl ?_); refine goesL_ (some 181) rfl rfl Try.func31 (by kernel_rfl) rfl #[.agg #[.int .i64 t295, .int .i64 t296], .agg #[.int .i64 t304, .int .i64 t305], .agg #[.int .i64 t337, .int .i64 t338]] rfl (by (try simp only [List.map_toArray, List.map_cons, List.map_nil]); first | done | rfl | (simp only [List.length_drop, List.length_take]; rfl)) ?_; (with_reducible refine (impl_AddPoints.calls kj50 t295 t296 t304 t305 t337 t338 t341 t342 true _ A167.out).mono ?_); rintro e w193 ⟨rfl, hb⟩; refine ⟨_, rfl, ?_⟩; replace BK301 := Aside0.mk (blk_below (g := gb301) (o := .cells #[.int .i64 t295, .int .i64 t296] 38 (0, 0)) (by (with_reducible repeat first | apply q1 | apply q2 | apply q3); refine blk_far ?_ NB301_340.out _; (with_reducible repeat first | apply q1 | apply q2 | apply q3); refine blk_far ?_ NB301_340.out _; (with_reducible repeat first | apply q1 | apply q2 | apply q3); exact BK301.out) hb); replace BK302 := Aside0.mk (blk_below (g := gb302) (o := .cells #[.int .i64 t297, .int .i64 t298] 40 (0, 0)) (by (with_reducible repeat first | apply q1 | apply q2 | apply q3); refine blk_far ?_ NB302_340.out _; (with_reducible repeat first | apply q1 | apply q2 | apply q3); refine blk_far ?_ NB302_340.out _; (with_reducible repeat first | apply q1 | apply q2 | apply q3); exact BK302.out) hb); replace BK303 := Aside0.mk (blk_below (g := gb303) (o := .cells #[.int .i64 t299, .int .i64 t300] 40 (0, 0)) (by (with_reducible repeat first | apply q1 | apply q2 | apply q3); refine blk_far ?_ NB303_340.out _; (with_reducible repeat first | apply q1 | apply q2 | apply q3); refine blk_far ?_ NB303_340.out _; (with_reducible repeat first | apply q1 | apply q2 | apply q3); exact BK303.out) hb); replace BK307 := Aside0.mk (blk_below (g := gb307) (o := .cells #[.int .i64 t304, .int .i64 t305] 40 (0, 0)) (by (with_reducible repeat first | apply q1 | apply q2 | apply q3); refine blk_far ?_ NB307_340.out _; (with_reducible repeat first | apply q1 | apply q2 | apply q3); refine blk_far ?_ NB307_340.out _; (with_reducible repeat first | apply q1 | apply q2 | apply q3); exact BK307.out) hb); replace BK340 := Aside0.mk (blk_below (g := gb340) (o := .cells #[.int .i64 t337, .int .i64 t338] 40 (0, 0)) (by (with_reducible repeat first | apply q1 | apply q2 | apply q3); refine blk_put (cs := #[.int .i64 t337, .int .i64 0]) ?_ 1 _ rfl; (with_reducible repeat first | apply q1 | apply q2 | apply q3); refine blk_put (cs := #[.int .i64 0, .int .i64 0]) ?_ 0 _ rfl; (with_reducible repeat first | apply q1 | apply q2 | apply q3); exact BK340.out) hb); replace HB := Aside0.mk (below_step (by repeat (first | (with_reducible first | exact HB.out | apply q4 | apply q5 | apply q6 | refine below_set ?_ GE301.out | refine below_set ?_ GE302.out | refine below_set ?_ GE303.out | refine below_set ?_ GE307.out | refine below_set ?_ GE340.out) | exact HB.out)) hb); (try clear hb)) | ((with_reducible refine gate_dst (N := 26) rfl ?_); refine box_event ?hg (N := 26) ?hd (cs := #[.int .i64 0, .int .i64 0]) (t := 40) ?hr ?_; (case hd => rfl); (case hg => rfl); (case hr => first | (go_simp; done) | (go_simp; rfl)); intro gb344 hg w194 hbox hb; have BK344 := Aside0.mk (hbox); have GW344 := Aside0.mk ((by rw [hg]; exact (below_size (by repeat (first | (with_reducible first | exact HB.out | apply q4 | apply q5 | apply q6 | refine below_set ?_ GE301.out | refine below_set ?_ GE302.out | refine below_set ?_ GE303.out | refine below_set ?_ GE307.out | refine below_set ?_ GE340.out) | exact HB.out))) : w.heap.size ≤ gb344)); have GE344 := Aside0.mk ((by rw [hg]; exact (below_size (by repeat (first | (with_reducible first | exact HB.out | apply q4 | apply q5 | apply q6 | refine below_set ?_ GE301.out | refine below_set ?_ GE302.out | refine below_set ?_ GE303.out | refine below_set ?_ GE307.out | refine below_set ?_ GE340.out) | exact HB.out))) : w.heap.size ≤ gb344)); have NB301_344 := Aside0.mk ((by rw [hg]; exact Nat.ne_of_lt (blk_lt (g := gb301) (o := .cells #[.int .i64 t295, .int .i64 t296] 38 (0, 0)) (by (with_reducible repeat first | apply q1 | apply q2 | apply q3); exact BK301.out)) : gb301 ≠ gb344)); have NB344_301 := Aside0.mk ((by rw [hg]; exact Nat.ne_of_gt (blk_lt (g := gb301) (o := .cells #[.int .i64 t295, .int .i64 t296] 38 (0, 0)) (by (with_reducible repeat first | apply q1 | apply q2 | apply q3); exact BK301.out)) : gb344 ≠ gb301)); have NB302_344 := Aside0.mk ((by rw [hg]; exact Nat.ne_of_lt (blk_lt (g := gb302) (o := .cells #[.int .i64 t297, .int .i64 t298] 40 (0, 0)) (by (with_reducible repeat first | apply q1 | apply q2 | apply q3); exact BK302.out)) : gb302 ≠ gb344)); have NB344_302 := Aside0.mk ((by rw [hg]; exact Nat.ne_of_gt (blk_lt (g := gb302) (o := .cells #[.int .i64 t297, .int .i64 t298] 40 (0, 0)) (by (with_reducible repeat first | apply q1 | apply q2 | apply q3); exact BK302.out)) : gb344 ≠ gb302)); have NB303_344 := Aside0.mk ((by rw [hg]; exact Nat.ne_of_lt (blk_lt (g := gb303) (o := .cells #[.int .i64 t299, .int .i64 t300] 40 (0, 0)) (by (with_reducible repeat first | apply q1 | apply q2 | apply q3); exact BK303.out)) : gb303 ≠ gb344)); have NB344_303 := Aside0.mk ((by rw [hg]; exact Nat.ne_of_gt (blk_lt (g := gb303) (o := .cells #[.int .i64 t299, .int .i64 t300] 40 (0, 0)) (by (with_reducible repeat first | apply q1 | apply q2 | apply q3); exact BK303.out)) : gb344 ≠ gb303)); have NB307_344 := Aside0.mk ((by rw [hg]; exact Nat.ne_of_lt (blk_lt (g := gb307) (o := .cells #[.int .i64 t304, .int .i64 t305] 40 (0, 0)) (by (with_reducible repeat first | apply q1 | apply q2 | apply q3); exact BK307.out)) : gb307 ≠ gb344)); have NB344_307 := Aside0.mk ((by rw [hg]; exact Nat.ne_of_gt (blk_lt (g := gb307) (o := .cells #[.int .i64 t304, .int .i64 t305] 40 (0, 0)) (by (with_reducible repeat first | apply q1 | apply q2 | apply q3); exact BK307.out)) : gb344 ≠ gb307)); have NB340_344 := Aside0.mk ((by rw [hg]; exact Nat.ne_of_lt (blk_lt (g := gb340) (o := .cells #[.int .i64 t337, .int .i64 t338] 40 (0, 0)) (by (with_reducible repeat first | apply q1 | apply q2 | apply q3); exact BK340.out)) : gb340 ≠ gb344)); have NB344_340 := Aside0.mk ((by rw [hg]; exact Nat.ne_of_gt (blk_lt (g := gb340) (o := .cells #[.int .i64 t337, .int .i64 t338] 40 (0, 0)) (by (with_reducible repeat first | apply q1 | apply q2 | apply q3); exact BK340.out)) : gb344 ≠ gb340)); replace BK301 := Aside0.mk (blk_below (g := gb301) (o := .cells #[.int .i64 t295, .int .i64 t296] 38 (0, 0)) (by (with_reducible repeat first | apply q1 | apply q2 | apply q3); exact BK301.out) hb); replace BK302 := Aside0.mk (blk_below (g := gb302) (o := .cells #[.int .i64 t297, .int .i64 t298] 40 (0, 0)) (by (with_reducible repeat first | apply q1 | apply q2 | apply q3); exact BK302.out) hb); replace BK303 := Aside0.mk (blk_below (g := gb303) (o := .cells #[.int .i64 t299, .int .i64 t300] 40 (0, 0)) (by (with_reducible repeat first | apply q1 | apply q2 | apply q3); exact BK303.out) hb); replace BK307 := Aside0.mk (blk_below (g := gb307) (o := .cells #[.int .i64 t304, .int .i64 t305] 40 (0, 0)) (by (with_reducible repeat first | apply q1 | apply q2 | apply q3); exact BK307.out) hb); replace BK340 := Aside0.mk (blk_below (g := gb340) (o := .cells #[.int .i64 t337, .int .i64 t338] 40 (0, 0)) (by (with_reducible repeat first | apply q1 | apply q2 | apply q3); exact BK340.out) hb); replace HB := Aside0.mk (below_step (by repeat (first | (with_reducible first | exact HB.out | apply q4 | apply q5 | apply q6 | refine below_set ?_ GE301.out | refine below_set ?_ GE302.out | refine below_set ?_ GE303.out | refine below_set ?_ GE307.out | refine below_set ?_ GE340.out) | exact HB.out)) hb); clear hb hbox hg; have hnb195 := NB344_301.out; have hnc195 := NB301_344.out; have hnb196 := NB344_302.out; have hnc196 := NB302_344.out; have hnb197 := NB344_303.out; have hnc197 := NB303_344.out; have hnb198 := NB344_307.out; have hnc198 := NB307_344.out; have hnb199 := NB344_340.out; have hnc199 := NB340_344.out; have hcz200_0 : w194.cell? ⟨gb344, 0, none⟩ = some (.int .i64 0) := (blk_cell BK344.out 0).trans rfl; have hcz200_1 : w194.cell? ⟨gb344, 1, none⟩ = some (.int .i64 0) := (blk_cell BK344.out 1).trans rfl; have hfz200_0 := blk_frozen BK344.out 0; have hfz200_1 := blk_frozen BK344.out 1; have hcz201_0 : w194.cell? ⟨gb301, 0, none⟩ = some (.int .i64 t295) := (blk_cell BK301.out 0).trans rfl; have hcz201_1 : w194.cell? ⟨gb301, 1, none⟩ = some (.int .i64 t296) := (blk_cell BK301.out 1).trans rfl; have hfz201_0 := blk_frozen BK301.out 0; have hfz201_1 := blk_frozen BK301.out 1; have hnb202 := NB303_302.out; have hnc202 := NB302_303.out; have hcz203_0 : w194.cell? ⟨gb303, 0, none⟩ = some (.int .i64 t299) := (blk_cell BK303.out 0).trans rfl; have hcz203_1 : w194.cell? ⟨gb303, 1, none⟩ = some (.int .i64 t300) := (blk_cell BK303.out 1).trans rfl; have hfz203_0 := blk_frozen BK303.out 0; have hfz203_1 := blk_frozen BK303.out 1; have hcz204_0 : w194.cell? ⟨gb340, 0, none⟩ = some (.int .i64 t337) := (blk_cell BK340.out 0).trans rfl; have hcz204_1 : w194.cell? ⟨gb340, 1, none⟩ = some (.int .i64 t338) := (blk_cell BK340.out 1).trans rfl; have hfz204_0 := blk_frozen BK340.out 0; have hfz204_1 := blk_frozen BK340.out 1) | ((with_reducible refine gate_callee (f := 31) rfl ?_); refine goesL_ (some 188) rfl rfl Try.func31 (by kernel_rfl) rfl #[.agg #[.int .i64 t295, .int .i64 t296], .agg #[.int .i64 t299, .int .i64 t300], .agg #[.int .i64 t337, .int .i64 t338]] rfl (by (try simp only [List.map_toArray, List.map_cons, List.map_nil]); first | done | rfl | (simp only [List.length_drop, List.length_take]; rfl)) ?_; (with_reducible refine (impl_AddPoints.calls kj50 t295 t296 t299 t300 t337 t338 t345 t346 true _ A168.out).mono ?_); rintro e w205 ⟨rfl, hb⟩; refine ⟨_, rfl, ?_⟩; replace BK301 := Aside0.mk (blk_below (g := gb301) (o := .cells #[.int .i64 t295, .int .i64 t296] 38 (0, 0)) (by (with_reducible repeat first | apply q1 | apply q2 | apply q3); refine blk_far ?_ NB301_344.out _; (with_reducible repeat first | apply q1 | apply q2 | apply q3); refine blk_far ?_ NB301_344.out _; (with_reducible repeat first | apply q1 | apply q2 | apply q3); exact BK301.out) hb); replace BK302 := Aside0.mk (blk_below (g := gb302) (o := .cells #[.int .i64 t297, .int .i64 t298] 40 (0, 0)) (by (with_reducible repeat first | apply q1 | apply q2 | apply q3); refine blk_far ?_ NB302_344.out _; (with_reducible repeat first | apply q1 | apply q2 | apply q3); refine blk_far ?_ NB302_344.out _; (with_reducible repeat first | apply q1 | apply q2 | apply q3); exact BK302.out) hb); replace BK303 := Aside0.mk (blk_below (g := gb303) (o := .cells #[.int .i64 t299, .int .i64 t300] 40 (0, 0)) (by (with_reducible repeat first | apply q1 | apply q2 | apply q3); refine blk_far ?_ NB303_344.out _; (with_reducible repeat first | apply q1 | apply q2 | apply q3); refine blk_far ?_ NB303_344.out _; (with_reducible repeat first | apply q1 | apply q2 | apply q3); exact BK303.out) hb); replace BK307 := Aside0.mk (blk_below (g := gb307) (o := .cells #[.int .i64 t304, .int .i64 t305] 40 (0, 0)) (by (with_reducible repeat first | apply q1 | apply q2 | apply q3); refine blk_far ?_ NB307_344.out _; (with_reducible repeat first | apply q1 | apply q2 | apply q3); refine blk_far ?_ NB307_344.out _; (with_reducible repeat first | apply q1 | apply q2 | apply q3); exact BK307.out) hb); replace BK340 := Aside0.mk (blk_below (g := gb340) (o := .cells #[.int .i64 t337, .int .i64 t338] 40 (0, 0)) (by (with_reducible repeat first | apply q1 | apply q2 | apply q3); refine blk_far ?_ NB340_344.out _; (with_reducible repeat first | apply q1 | apply q2 | apply q3); refine blk_far ?_ NB340_344.out _; (with_reducible repeat first | apply q1 | apply q2 | apply q3); exact BK340.out) hb); replace BK344 := Aside0.mk (blk_below (g := gb344) (o := .cells #[.int .i64 t341, .int .i64 t342] 40 (0, 0)) (by (with_reducible repeat first | apply q1 | apply q2 | apply q3); refine blk_put (cs := #[.int .i64 t341, .int .i64 0]) ?_ 1 _ rfl; (with_reducible repeat first | apply q1 | apply q2 | apply q3); refine blk_put (cs := #[.int .i64 0, .int .i64 0]) ?_ 0 _ rfl; (with_reducible repeat first | apply q1 | apply q2 | apply q3); exact BK344.out) hb); replace HB := Aside0.mk (below_step (by repeat (first | (with_reducible first | exact HB.out | apply q4 | apply q5 | apply q6 | refine below_set ?_ GE301.out | refine below_set ?_ GE302.out | refine below_set ?_ GE303.out | refine below_set ?_ GE307.out | refine below_set ?_ GE340.out | refine below_set ?_ GE344.out) | exact HB.out)) hb); (try clear hb)) | ((with_reducible refine gate_dst (N := 28) rfl ?_); refine box_event ?hg (N := 28) ?hd (cs := #[.int .i64 0, .int .i64 0]) (t := 40) ?hr ?_; (case hd => rfl); (case hg => rfl); (case hr => first | (go_simp; done) | (go_simp; rfl)); intro gb348 hg w206 hbox hb; have BK348 := Aside0.mk (hbox); have GW348 := Aside0.mk ((by rw [hg]; exact (below_size (by repeat (first | (with_reducible first | exact HB.out | apply q4 | apply q5 | apply q6 | refine below_set ?_ GE301.out | refine below_set ?_ GE302.out | refine below_set ?_ GE303.out | refine below_set ?_ GE307.out | refine below_set ?_ GE340.out | refine below_set ?_ GE344.out) | exact HB.out))) : w.heap.size ≤ gb348)); have GE348 := Aside0.mk ((by rw [hg]; exact (below_size (by repeat (first | (with_reducible first | exact HB.out | apply q4 | apply q5 | apply q6 | refine below_set ?_ GE301.out | refine below_set ?_ GE302.out | refine below_set ?_ GE303.out | refine below_set ?_ GE307.out | refine below_set ?_ GE340.out | refine below_set ?_ GE344.out) | exact HB.out))) : w.heap.size ≤ gb348)); have NB301_348 := Aside0.mk ((by rw [hg]; exact Nat.ne_of_lt (blk_lt (g := gb301) (o := .cells #[.int .i64 t295, .int .i64 t296] 38 (0, 0)) (by (with_reducible repeat first | apply q1 | apply q2 | apply q3); exact BK301.out)) : gb301 ≠ gb348)); have NB348_301 := Aside0.mk ((by rw [hg]; exact Nat.ne_of_gt (blk_lt (g := gb301) (o := .cells #[.int .i64 t295, .int .i64 t296] 38 (0, 0)) (by (with_reducible repeat first | apply q1 | apply q2 | apply q3); exact BK301.out)) : gb348 ≠ gb301)); have NB302_348 := Aside0.mk ((by rw [hg]; exact Nat.ne_of_lt (blk_lt (g := gb302) (o := .cells #[.int .i64 t297, .int .i64 t298] 40 (0, 0)) (by (with_reducible repeat first | apply q1 | apply q2 | apply q3); exact BK302.out)) : gb302 ≠ gb348)); have NB348_302 := Aside0.mk ((by rw [hg]; exact Nat.ne_of_gt (blk_lt (g := gb302) (o := .cells #[.int .i64 t297, .int .i64 t298] 40 (0, 0)) (by (with_reducible repeat first | apply q1 | apply q2 | apply q3); exact BK302.out)) : gb348 ≠ gb302)); have NB303_348 := Aside0.mk ((by rw [hg]; exact Nat.ne_of_lt (blk_lt (g := gb303) (o := .cells #[.int .i64 t299, .int .i64 t300] 40 (0, 0)) (by (with_reducible repeat first | apply q1 | apply q2 | apply q3); exact BK303.out)) : gb303 ≠ gb348)); have NB348_303 := Aside0.mk ((by rw [hg]; exact Nat.ne_of_gt (blk_lt (g := gb303) (o := .cells #[.int .i64 t299, .int .i64 t300] 40 (0, 0)) (by (with_reducible repeat first | apply q1 | apply q2 | apply q3); exact BK303.out)) : gb348 ≠ gb303)); have NB307_348 := Aside0.mk ((by rw [hg]; exact Nat.ne_of_lt (blk_lt (g := gb307) (o := .cells #[.int .i64 t304, .int .i64 t305] 40 (0, 0)) (by (with_reducible repeat first | apply q1 | apply q2 | apply q3); exact BK307.out)) : gb307 ≠ gb348)); have NB348_307 := Aside0.mk ((by rw [hg]; exact Nat.ne_of_gt (blk_lt (g := gb307) (o := .cells #[.int .i64 t304, .int .i64 t305] 40 (0, 0)) (by (with_reducible repeat first | apply q1 | apply q2 | apply q3); exact BK307.out)) : gb348 ≠ gb307)); have NB340_348 := Aside0.mk ((by rw [hg]; exact Nat.ne_of_lt (blk_lt (g := gb340) (o := .cells #[.int .i64 t337, .int .i64 t338] 40 (0, 0)) (by (with_reducible repeat first | apply q1 | apply q2 | apply q3); exact BK340.out)) : gb340 ≠ gb348)); have NB348_340 := Aside0.mk ((by rw [hg]; exact Nat.ne_of_gt (blk_lt (g := gb340) (o := .cells #[.int .i64 t337, .int .i64 t338] 40 (0, 0)) (by (with_reducible repeat first | apply q1 | apply q2 | apply q3); exact BK340.out)) : gb348 ≠ gb340)); have NB344_348 := Aside0.mk ((by rw [hg]; exact Nat.ne_of_lt (blk_lt (g := gb344) (o := .cells #[.int .i64 t341, .int .i64 t342] 40 (0, 0)) (by (with_reducible repeat first | apply q1 | apply q2 | apply q3); exact BK344.out)) : gb344 ≠ gb348)); have NB348_344 := Aside0.mk ((by rw [hg]; exact Nat.ne_of_gt (blk_lt (g := gb344) (o := .cells #[.int .i64 t341, .int .i64 t342] 40 (0, 0)) (by (with_reducible repeat first | apply q1 | apply q2 | apply q3); exact BK344.out)) : gb348 ≠ gb344)); replace BK301 := Aside0.mk (blk_below (g := gb301) (o := .cells #[.int .i64 t295, .int .i64 t296] 38 (0, 0)) (by (with_reducible repeat first | apply q1 | apply q2 | apply q3); exact BK301.out) hb); replace BK302 := Aside0.mk (blk_below (g := gb302) (o := .cells #[.int .i64 t297, .int .i64 t298] 40 (0, 0)) (by (with_reducible repeat first | apply q1 | apply q2 | apply q3); exact BK302.out) hb); replace BK303 := Aside0.mk (blk_below (g := gb303) (o := .cells #[.int .i64 t299, .int .i64 t300] 40 (0, 0)) (by (with_reducible repeat first | apply q1 | apply q2 | apply q3); exact BK303.out) hb); replace BK307 := Aside0.mk (blk_below (g := gb307) (o := .cells #[.int .i64 t304, .int .i64 t305] 40 (0, 0)) (by (with_reducible repeat first | apply q1 | apply q2 | apply q3); exact BK307.out) hb); replace BK340 := Aside0.mk (blk_below (g := gb340) (o := .cells #[.int .i64 t337, .int .i64 t338] 40 (0, 0)) (by (with_reducible repeat first | apply q1 | apply q2 | apply q3); exact BK340.out) hb); replace BK344 := Aside0.mk (blk_below (g := gb344) (o := .cells #[.int .i64 t341, .int .i64 t342] 40 (0, 0)) (by (with_reducible repeat first | apply q1 | apply q2 | apply q3); exact BK344.out) hb); replace HB := Aside0.mk (below_step (by repeat (first | (with_reducible first | exact HB.out | apply q4 | apply q5 | apply q6 | refine below_set ?_ GE301.out | refine below_set ?_ GE302.out | refine below_set ?_ GE303.out | refine below_set ?_ GE307.out | refine below_set ?_ GE340.out | refine below_set ?_ GE344.out) | exact HB.out)) hb); clear hb hbox hg; have hnb207 := NB348_301.out; have hnc207 := NB301_348.out; have hnb208 := NB348_302.out; have hnc208 := NB302_348.out; have hnb209 := NB348_303.out; have hnc209 := NB303_348.out; have hnb210 := NB348_307.out; have hnc210 := NB307_348.out; have hnb211 := NB348_340.out; have hnc211 := NB340_348.out; have hnb212 := NB348_344.out; have hnc212 := NB344_348.out; have hcz213_0 : w206.cell? ⟨gb348, 0, none⟩ = some (.int .i64 0) := (blk_cell BK348.out 0).trans rfl; have hcz213_1 : w206.cell? ⟨gb348, 1, none⟩ = some (.int .i64 0) := (blk_cell BK348.out 1).trans rfl; have hfz213_0 := blk_frozen BK348.out 0; have hfz213_1 := blk_frozen BK348.out 1; have hcz214_0 : w206.cell? ⟨gb301, 0, none⟩ = some (.int .i64 t295) := (blk_cell BK301.out 0).trans rfl; have hcz214_1 : w206.cell? ⟨gb301, 1, none⟩ = some (.int .i64 t296) := (blk_cell BK301.out 1).trans rfl; have hfz214_0 := blk_frozen BK301.out 0; have hfz214_1 := blk_frozen BK301.out 1; have hcz215_0 : w206.cell? ⟨gb302, 0, none⟩ = some (.int .i64 t297) := (blk_cell BK302.out 0).trans rfl; have hcz215_1 : w206.cell? ⟨gb302, 1, none⟩ = some (.int .i64 t298) := (blk_cell BK302.out 1).trans rfl; have hfz215_0 := blk_frozen BK302.out 0; have hfz215_1 := blk_frozen BK302.out 1) | ((with_reducible refine gate_callee (f := 31) rfl ?_); refine goesL_ (some 195) rfl rfl Try.func31 (by kernel_rfl) rfl #[.agg #[.int .i64 t295, .int .i64 t296], .agg #[.int .i64 t297, .int .i64 t298], .agg #[.int .i64 t345, .int .i64 t346]] rfl (by (try simp only [List.map_toArray, List.map_cons, List.map_nil]); first | done | rfl | (simp only [List.length_drop, List.length_take]; rfl)) ?_; (with_reducible refine (impl_AddPoints.calls kj50 t295 t296 t297 t298 t345 t346 t349 t350 true _ A169.out).mono ?_); rintro e w216 ⟨rfl, hb⟩; refine ⟨_, rfl, ?_⟩; replace BK301 := Aside0.mk (blk_below (g := gb301) (o := .cells #[.int .i64 t295, .int .i64 t296] 38 (0, 0)) (by (with_reducible repeat first | apply q1 | apply q2 | apply q3); refine blk_far ?_ NB301_348.out _; (with_reducible repeat first | apply q1 | apply q2 | apply q3); refine blk_far ?_ NB301_348.out _; (with_reducible repeat first | apply q1 | apply q2 | apply q3); exact BK301.out) hb); replace BK302 := Aside0.mk (blk_below (g := gb302) (o := .cells #[.int .i64 t297, .int .i64 t298] 40 (0, 0)) (by (with_reducible repeat first | apply q1 | apply q2 | apply q3); refine blk_far ?_ NB302_348.out _; (with_reducible repeat first | apply q1 | apply q2 | apply q3); refine blk_far ?_ NB302_348.out _; (with_reducible repeat first | apply q1 | apply q2 | apply q3); exact BK302.out) hb); replace BK303 := Aside0.mk (blk_below (g := gb303) (o := .cells #[.int .i64 t299, .int .i64 t300] 40 (0, 0)) (by (with_reducible repeat first | apply q1 | apply q2 | apply q3); refine blk_far ?_ NB303_348.out _; (with_reducible repeat first | apply q1 | apply q2 | apply q3); refine blk_far ?_ NB303_348.out _; (with_reducible repeat first | apply q1 | apply q2 | apply q3); exact BK303.out) hb); replace BK307 := Aside0.mk (blk_below (g := gb307) (o := .cells #[.int .i64 t304, .int .i64 t305] 40 (0, 0)) (by (with_reducible repeat first | apply q1 | apply q2 | apply q3); refine blk_far ?_ NB307_348.out _; (with_reducible repeat first | apply q1 | apply q2 | apply q3); refine blk_far ?_ NB307_348.out _; (with_reducible repeat first | apply q1 | apply q2 | apply q3); exact BK307.out) hb); replace BK340 := Aside0.mk (blk_below (g := gb340) (o := .cells #[.int .i64 t337, .int .i64 t338] 40 (0, 0)) (by (with_reducible repeat first | apply q1 | apply q2 | apply q3); refine blk_far ?_ NB340_348.out _; (with_reducible repeat first | apply q1 | apply q2 | apply q3); refine blk_far ?_ NB340_348.out _; (with_reducible repeat first | apply q1 | apply q2 | apply q3); exact BK340.out) hb); replace BK344 := Aside0.mk (blk_below (g := gb344) (o := .cells #[.int .i64 t341, .int .i64 t342] 40 (0, 0)) (by (with_reducible repeat first | apply q1 | apply q2 | apply q3); refine blk_far ?_ NB344_348.out _; (with_reducible repeat first | apply q1 | apply q2 | apply q3); refine blk_far ?_ NB344_348.out _; (with_reducible repeat first | apply q1 | apply q2 | apply q3); exact BK344.out) hb); replace BK348 := Aside0.mk (blk_below (g := gb348) (o := .cells #[.int .i64 t345, .int .i64 t346] 40 (0, 0)) (by (with_reducible repeat first | apply q1 | apply q2 | apply q3); refine blk_put (cs := #[.int .i64 t345, .int .i64 0]) ?_ 1 _ rfl; (with_reducible repeat first | apply q1 | apply q2 | apply q3); refine blk_put (cs := #[.int .i64 0, .int .i64 0]) ?_ 0 _ rfl; (with_reducible repeat first | apply q1 | apply q2 | apply q3); exact BK348.out) hb); replace HB := Aside0.mk (below_step (by repeat (first | (with_reducible first | exact HB.out | apply q4 | apply q5 | apply q6 | refine below_set ?_ GE301.out | refine below_set ?_ GE302.out | refine below_set ?_ GE303.out | refine below_set ?_ GE307.out | refine below_set ?_ GE340.out | refine below_set ?_ GE344.out | refine below_set ?_ GE348.out) | exact HB.out)) hb); (try clear hb)) | ((with_reducible refine gate_dst (N := 30) rfl ?_); refine box_event ?hg (N := 30) ?hd (cs := #[.int .i64 0, .int .i64 0]) (t := 40) ?hr ?_; (case hd => rfl); (case hg => rfl); (case hr => first | (go_simp; done) | (go_simp; rfl)); intro gb352 hg w217 hbox hb; have BK352 := Aside0.mk (hbox); have GW352 := Aside0.mk ((by rw [hg]; exact (below_size (by repeat (first | (with_reducible first | exact HB.out | apply q4 | apply q5 | apply q6 | refine below_set ?_ GE301.out | refine below_set ?_ GE302.out | refine below_set ?_ GE303.out | refine below_set ?_ GE307.out | refine below_set ?_ GE340.out | refine below_set ?_ GE344.out | refine below_set ?_ GE348.out) | exact HB.out))) : w.heap.size ≤ gb352)); have GE352 := Aside0.mk ((by rw [hg]; exact (below_size (by repeat (first | (with_reducible first | exact HB.out | apply q4 | apply q5 | apply q6 | refine below_set ?_ GE301.out | refine below_set ?_ GE302.out | refine below_set ?_ GE303.out | refine below_set ?_ GE307.out | refine below_set ?_ GE340.out | refine below_set ?_ GE344.out | refine below_set ?_ GE348.out) | exact HB.out))) : w.heap.size ≤ gb352)); have NB301_352 := Aside0.mk ((by rw [hg]; exact Nat.ne_of_lt (blk_lt (g := gb301) (o := .cells #[.int .i64 t295, .int .i64 t296] 38 (0, 0)) (by (with_reducible repeat first | apply q1 | apply q2 | apply q3); exact BK301.out)) : gb301 ≠ gb352)); have NB352_301 := Aside0.mk ((by rw [hg]; exact Nat.ne_of_gt (blk_lt (g := gb301) (o := .cells #[.int .i64 t295, .int .i64 t296] 38 (0, 0)) (by (with_reducible repeat first | apply q1 | apply q2 | apply q3); exact BK301.out)) : gb352 ≠ gb301)); have NB302_352 := Aside0.mk ((by rw [hg]; exact Nat.ne_of_lt (blk_lt (g := gb302) (o := .cells #[.int .i64 t297, .int .i64 t298] 40 (0, 0)) (by (with_reducible repeat first | apply q1 | apply q2 | apply q3); exact BK302.out)) : gb302 ≠ gb352)); have NB352_302 := Aside0.mk ((by rw [hg]; exact Nat.ne_of_gt (blk_lt (g := gb302) (o := .cells #[.int .i64 t297, .int .i64 t298] 40 (0, 0)) (by (with_reducible repeat first | apply q1 | apply q2 | apply q3); exact BK302.out)) : gb352 ≠ gb302)); have NB303_352 := Aside0.mk ((by rw [hg]; exact Nat.ne_of_lt (blk_lt (g := gb303) (o := .cells #[.int .i64 t299, .int .i64 t300] 40 (0, 0)) (by (with_reducible repeat first | apply q1 | apply q2 | apply q3); exact BK303.out)) : gb303 ≠ gb352)); have NB352_303 := Aside0.mk ((by rw [hg]; exact Nat.ne_of_gt (blk_lt (g := gb303) (o := .cells #[.int .i64 t299, .int .i64 t300] 40 (0, 0)) (by (with_reducible repeat first | apply q1 | apply q2 | apply q3); exact BK303.out)) : gb352 ≠ gb303)); have NB307_352 := Aside0.mk ((by rw [hg]; exact Nat.ne_of_lt (blk_lt (g := gb307) (o := .cells #[.int .i64 t304, .int .i64 t305] 40 (0, 0)) (by (with_reducible repeat first | apply q1 | apply q2 | apply q3); exact BK307.out)) : gb307 ≠ gb352)); have NB352_307 := Aside0.mk ((by rw [hg]; exact Nat.ne_of_gt (blk_lt (g := gb307) (o := .cells #[.int .i64 t304, .int .i64 t305] 40 (0, 0)) (by (with_reducible repeat first | apply q1 | apply q2 | apply q3); exact BK307.out)) : gb352 ≠ gb307)); have NB340_352 := Aside0.mk ((by rw [hg]; exact Nat.ne_of_lt (blk_lt (g := gb340) (o := .cells #[.int .i64 t337, .int .i64 t338] 40 (0, 0)) (by (with_reducible repeat first | apply q1 | apply q2 | apply q3); exact BK340.out)) : gb340 ≠ gb352)); have NB352_340 := Aside0.mk ((by rw [hg]; exact Nat.ne_of_gt (blk_lt (g := gb340) (o := .cells #[.int .i64 t337, .int .i64 t338] 40 (0, 0)) (by (with_reducible repeat first | apply q1 | apply q2 | apply q3); exact BK340.out)) : gb352 ≠ gb340)); have NB344_352 := Aside0.mk ((by rw [hg]; exact Nat.ne_of_lt (blk_lt (g := gb344) (o := .cells #[.int .i64 t341, .int .i64 t342] 40 (0, 0)) (by (with_reducible repeat first | apply q1 | apply q2 | apply q3); exact BK344.out)) : gb344 ≠ gb352)); have NB352_344 := Aside0.mk ((by rw [hg]; exact Nat.ne_of_gt (blk_lt (g := gb344) (o := .cells #[.int .i64 t341, .int .i64 t342] 40 (0, 0)) (by (with_reducible repeat first | apply q1 | apply q2 | apply q3); exact BK344.out)) : gb352 ≠ gb344)); have NB348_352 := Aside0.mk ((by rw [hg]; exact Nat.ne_of_lt (blk_lt (g := gb348) (o := .cells #[.int .i64 t345, .int .i64 t346] 40 (0, 0)) (by (with_reducible repeat first | apply q1 | apply q2 | apply q3); exact BK348.out)) : gb348 ≠ gb352)); have NB352_348 := Aside0.mk ((by rw [hg]; exact Nat.ne_of_gt (blk_lt (g := gb348) (o := .cells #[.int .i64 t345, .int .i64 t346] 40 (0, 0)) (by (with_reducible repeat first | apply q1 | apply q2 | apply q3); exact BK348.out)) : gb352 ≠ gb348)); replace BK301 := Aside0.mk (blk_below (g := gb301) (o := .cells #[.int .i64 t295, .int .i64 t296] 38 (0, 0)) (by (with_reducible repeat first | apply q1 | apply q2 | apply q3); exact BK301.out) hb); replace BK302 := Aside0.mk (blk_below (g := gb302) (o := .cells #[.int .i64 t297, .int .i64 t298] 40 (0, 0)) (by (with_reducible repeat first | apply q1 | apply q2 | apply q3); exact BK302.out) hb); replace BK303 := Aside0.mk (blk_below (g := gb303) (o := .cells #[.int .i64 t299, .int .i64 t300] 40 (0, 0)) (by (with_reducible repeat first | apply q1 | apply q2 | apply q3); exact BK303.out) hb); replace BK307 := Aside0.mk (blk_below (g := gb307) (o := .cells #[.int .i64 t304, .int .i64 t305] 40 (0, 0)) (by (with_reducible repeat first | apply q1 | apply q2 | apply q3); exact BK307.out) hb); replace BK340 := Aside0.mk (blk_below (g := gb340) (o := .cells #[.int .i64 t337, .int .i64 t338] 40 (0, 0)) (by (with_reducible repeat first | apply q1 | apply q2 | apply q3); exact BK340.out) hb); replace BK344 := Aside0.mk (blk_below (g := gb344) (o := .cells #[.int .i64 t341, .int .i64 t342] 40 (0, 0)) (by (with_reducible repeat first | apply q1 | apply q2 | apply q3); exact BK344.out) hb); replace BK348 := Aside0.mk (blk_below (g := gb348) (o := .cells #[.int .i64 t345, .int .i64 t346] 40 (0, 0)) (by (with_reducible repeat first | apply q1 | apply q2 | apply q3); exact BK348.out) hb); replace HB := Aside0.mk (below_step (by repeat (first | (with_reducible first | exact HB.out | apply q4 | apply q5 | apply q6 | refine below_set ?_ GE301.out | refine below_set ?_ GE302.out | refine below_set ?_ GE303.out | refine below_set ?_ GE307.out | refine below_set ?_ GE340.out | refine below_set ?_ GE344.out | refine below_set ?_ GE348.out) | exact HB.out)) hb); clear hb hbox hg; have hnb218 := NB352_301.out; have hnc218 := NB301_352.out; have hnb219 := NB352_302.out; have hnc219 := NB302_352.out; have hnb220 := NB352_303.out; have hnc220 := NB303_352.out; have hnb221 := NB352_307.out; have hnc221 := NB307_352.out; have hnb222 := NB352_340.out; have hnc222 := NB340_352.out; have hnb223 := NB352_344.out; have hnc223 := NB344_352.out; have hnb224 := NB352_348.out; have hnc224 := NB348_352.out; have hcz225_0 : w217.cell? ⟨gb352, 0, none⟩ = some (.int .i64 0) := (blk_cell BK352.out 0).trans rfl; have hcz225_1 : w217.cell? ⟨gb352, 1, none⟩ = some (.int .i64 0) := (blk_cell BK352.out 1).trans rfl; have hfz225_0 := blk_frozen BK352.out 0; have hfz225_1 := blk_frozen BK352.out 1; have hcz226_0 : w217.cell? ⟨gb344, 0, none⟩ = some (.int .i64 t341) := (blk_cell BK344.out 0).trans rfl; have hcz226_1 : w217.cell? ⟨gb344, 1, none⟩ = some (.int .i64 t342) := (blk_cell BK344.out 1).trans rfl; have hfz226_0 := blk_frozen BK344.out 0; have hfz226_1 := blk_frozen BK344.out 1))
                   all_goals (try exact absurd ‹some undef = some (Value.bool _)› (by simp [undef]))
                   go_meet
                   case rel => exact ⟨_, H', ⟨by have := HJ6.out; have := HJ50.out; first | omega | exact Nat.le_refl _⟩, ⟨by repeat (first | (with_reducible first | exact HB.out | apply q4 | apply q5 | apply q6 | refine below_set ?_ GE301.out | refine below_set ?_ GE302.out | refine below_set ?_ GE303.out | refine below_set ?_ GE307.out | refine below_set ?_ GE340.out | refine below_set ?_ GE344.out | refine below_set ?_ GE348.out | refine below_set ?_ GE352.out) | exact HB.out)⟩⟩
                ·replace c173 := Bool.eq_false_iff.mpr c173
                 subst c173
                 have H1 : (some false) = some r := by rw [if_neg (show ¬ (false = true) by decide)] at H; exact H
                 clear H
                 have H := H1
                 clear H1
                 exact absurd ((Option.some.inj H).trans HR_.out) (by decide)
               ·replace c172 := Bool.eq_false_iff.mpr c172
                subst c172
                have H1 : (some false) = some r := by rw [if_neg (show ¬ (false = true) by decide)] at H; exact H
                clear H
                have H := H1
                clear H1
                exact absurd ((Option.some.inj H).trans HR_.out) (by decide)
              ·replace c171 := Bool.eq_false_iff.mpr c171
               subst c171
               have H1 : (some false) = some r := by rw [if_neg (show ¬ (false = true) by decide)] at H; exact H
               clear H
               have H := H1
               clear H1
               exact absurd ((Option.some.inj H).trans HR_.out) (by decide)
             ·replace c170 := Bool.eq_false_iff.mpr c170
              subst c170
              have H1 : (some false) = some r := by rw [if_neg (show ¬ (false = true) by decide)] at H; exact H
              clear H
              have H := H1
              clear H1
              exact absurd ((Option.some.inj H).trans HR_.out) (by decide)
        ·replace c44 := Bool.eq_false_iff.mpr c44
         subst c44
         have H1 : (laws_FnGroup.j2 kj6 l1) = some r := by rw [if_neg (show ¬ (false = true) by decide)] at H; exact H
         clear H
         have H := H1
         clear H1
         as_aux_lemma =>
          have H' := Aside0.mk H
          clear H
          go_wp2
          all_goals (try exact absurd ‹some undef = some (Value.bool _)› (by simp [undef]))
          go_meet
          case rel => exact ⟨_, H', ⟨by have := HJ6.out; first | omega | exact Nat.le_refl _⟩, ⟨by repeat (first | (with_reducible first | exact HB.out | apply q4 | apply q5 | apply q6 | refine below_set ?_ GE301.out | refine below_set ?_ GE302.out | refine below_set ?_ GE303.out | refine below_set ?_ GE307.out) | exact HB.out)⟩⟩
      case rest =>
       as_aux_lemma =>
        clear HC43
        try clear c1
        try clear c2
        try clear p2
        try clear c3
        try clear c4
        try clear p6
        try clear c10
        try clear c17
        try clear c18
        try clear c19
        try clear c20
        try clear c21
        try clear c22
        try clear c31
        try clear c38
        try clear c44
        try clear p64
        try clear c170
        try clear c171
        try clear c172
        try clear c173
        try clear c174
        try clear c174b0
        try clear c181
        try clear c182
        try clear c183
        try clear c184
        try clear c186
        try clear c187
        try clear c188
        try clear c190
        try clear c191
        try clear c195
        try clear c196
        try clear c197
        try clear c198
        try clear c199
        try clear c202
        try clear c207
        try clear c208
        try clear c209
        try clear c210
        try clear c211
        try clear c212
        try clear c218
        try clear c219
        try clear c220
        try clear c221
        try clear c222
        try clear c223
        try clear c224
        try clear hcz185_0
        try clear hcz185_1
        try clear hcz189_0
        try clear hcz189_1
        try clear hcz192_0
        try clear hcz192_1
        try clear hcz200_0
        try clear hcz200_1
        try clear hcz201_0
        try clear hcz201_1
        try clear hcz203_0
        try clear hcz203_1
        try clear hcz204_0
        try clear hcz204_1
        try clear hcz213_0
        try clear hcz213_1
        try clear hcz214_0
        try clear hcz214_1
        try clear hcz215_0
        try clear hcz215_1
        try clear hcz225_0
        try clear hcz225_1
        try clear hcz226_0
        try clear hcz226_1
        try clear hfz185_0
        try clear hfz185_1
        try clear hfz189_0
        try clear hfz189_1
        try clear hfz192_0
        try clear hfz192_1
        try clear hfz200_0
        try clear hfz200_1
        try clear hfz201_0
        try clear hfz201_1
        try clear hfz203_0
        try clear hfz203_1
        try clear hfz204_0
        try clear hfz204_1
        try clear hfz213_0
        try clear hfz213_1
        try clear hfz214_0
        try clear hfz214_1
        try clear hfz215_0
        try clear hfz215_1
        try clear hfz225_0
        try clear hfz225_1
        try clear hfz226_0
        try clear hfz226_1
        obtain ⟨kq, HA, HJ42, HB⟩ := hcut
        cases kq with
        | zero => exact absurd HA.out (by simp [laws_FnGroup.j2])
        | succ kj42 =>
         have H := HA.out
         clear HA
         simp only [laws_FnGroup.j2] at H
         replace H := Option.bind_eq_some_iff.mp H
         obtain ⟨⟨t353, t354, t355, t356⟩, A2270, H⟩ := H
         replace H : ((impl_OnCurve.f kj42 t353 t354 t355 t356).bind fun bt359 => ((spec_OnCurve.f kj42 t353 t354 t355 t356).bind fun bt361 => ((impl_NegPoint.f kj42 t353 t354 t355 t356).bind fun bt363 => ((spec_NegPoint.f kj42 t353 t354 t355 t356).bind fun bt367 => ((impl_ZeroPoint.f kj42 t353 t354).bind fun bt371 => ((spec_ZeroPoint.f kj42 t353 t354).bind fun bt375 => (if (bt359.2 == bt361.2) = true then (if (bt359.1 == bt361.1) = true then (if (bt363.2.2 == bt367.2.2) = true then (if (bt363.1 == bt367.1 && (bt363.2.1 == bt367.2.1)) = true then (if (bt371.2.2 == bt375.2.2) = true then (some (bt371.1 == bt375.1 && (bt371.2.1 == bt375.2.1))) else (some false)) else (some false)) else (some false)) else (some false)) else (some false)))))))) = some r := H
         have A227 := Aside0.mk A2270
         clear A2270
         replace H := Option.bind_eq_some_iff.mp H
         obtain ⟨⟨t359, t360⟩, A2280, H⟩ := H
         replace H : ((spec_OnCurve.f kj42 t353 t354 t355 t356).bind fun bt361 => ((impl_NegPoint.f kj42 t353 t354 t355 t356).bind fun bt363 => ((spec_NegPoint.f kj42 t353 t354 t355 t356).bind fun bt367 => ((impl_ZeroPoint.f kj42 t353 t354).bind fun bt371 => ((spec_ZeroPoint.f kj42 t353 t354).bind fun bt375 => (if (t360 == bt361.2) = true then (if (t359 == bt361.1) = true then (if (bt363.2.2 == bt367.2.2) = true then (if (bt363.1 == bt367.1 && (bt363.2.1 == bt367.2.1)) = true then (if (bt371.2.2 == bt375.2.2) = true then (some (bt371.1 == bt375.1 && (bt371.2.1 == bt375.2.1))) else (some false)) else (some false)) else (some false)) else (some false)) else (some false))))))) = some r := H
         have A228 := Aside0.mk A2280
         clear A2280
         replace H := Option.bind_eq_some_iff.mp H
         obtain ⟨⟨t361, t362⟩, A2290, H⟩ := H
         replace H : ((impl_NegPoint.f kj42 t353 t354 t355 t356).bind fun bt363 => ((spec_NegPoint.f kj42 t353 t354 t355 t356).bind fun bt367 => ((impl_ZeroPoint.f kj42 t353 t354).bind fun bt371 => ((spec_ZeroPoint.f kj42 t353 t354).bind fun bt375 => (if (t360 == t362) = true then (if (t359 == t361) = true then (if (bt363.2.2 == bt367.2.2) = true then (if (bt363.1 == bt367.1 && (bt363.2.1 == bt367.2.1)) = true then (if (bt371.2.2 == bt375.2.2) = true then (some (bt371.1 == bt375.1 && (bt371.2.1 == bt375.2.1))) else (some false)) else (some false)) else (some false)) else (some false)) else (some false)))))) = some r := H
         have A229 := Aside0.mk A2290
         clear A2290
         replace H := Option.bind_eq_some_iff.mp H
         obtain ⟨⟨t363, t364, t365⟩, A2300, H⟩ := H
         replace H : ((spec_NegPoint.f kj42 t353 t354 t355 t356).bind fun bt367 => ((impl_ZeroPoint.f kj42 t353 t354).bind fun bt371 => ((spec_ZeroPoint.f kj42 t353 t354).bind fun bt375 => (if (t360 == t362) = true then (if (t359 == t361) = true then (if (t365 == bt367.2.2) = true then (if (t363 == bt367.1 && (t364 == bt367.2.1)) = true then (if (bt371.2.2 == bt375.2.2) = true then (some (bt371.1 == bt375.1 && (bt371.2.1 == bt375.2.1))) else (some false)) else (some false)) else (some false)) else (some false)) else (some false))))) = some r := H
         have A230 := Aside0.mk A2300
         clear A2300
         replace H := Option.bind_eq_some_iff.mp H
         obtain ⟨⟨t367, t368, t369⟩, A2310, H⟩ := H
         replace H : ((impl_ZeroPoint.f kj42 t353 t354).bind fun bt371 => ((spec_ZeroPoint.f kj42 t353 t354).bind fun bt375 => (if (t360 == t362) = true then (if (t359 == t361) = true then (if (t365 == t369) = true then (if (t363 == t367 && (t364 == t368)) = true then (if (bt371.2.2 == bt375.2.2) = true then (some (bt371.1 == bt375.1 && (bt371.2.1 == bt375.2.1))) else (some false)) else (some false)) else (some false)) else (some false)) else (some false)))) = some r := H
         have A231 := Aside0.mk A2310
         clear A2310
         replace H := Option.bind_eq_some_iff.mp H
         obtain ⟨⟨t371, t372, t373⟩, A2320, H⟩ := H
         replace H : ((spec_ZeroPoint.f kj42 t353 t354).bind fun bt375 => (if (t360 == t362) = true then (if (t359 == t361) = true then (if (t365 == t369) = true then (if (t363 == t367 && (t364 == t368)) = true then (if (t373 == bt375.2.2) = true then (some (t371 == bt375.1 && (t372 == bt375.2.1))) else (some false)) else (some false)) else (some false)) else (some false)) else (some false))) = some r := H
         have A232 := Aside0.mk A2320
         clear A2320
         replace H := Option.bind_eq_some_iff.mp H
         obtain ⟨⟨t375, t376, t377⟩, A2330, H⟩ := H
         replace H : (if (t360 == t362) = true then (if (t359 == t361) = true then (if (t365 == t369) = true then (if (t363 == t367 && (t364 == t368)) = true then (if (t373 == t377) = true then (some (t371 == t375 && (t372 == t376))) else (some false)) else (some false)) else (some false)) else (some false)) else (some false)) = some r := H
         have A233 := Aside0.mk A2330
         clear A2330
         by_cases c234 : (t360 == t362) = true
         ·rw [if_pos c234] at H
          have c234b0 : (t360 == t362) = true := c234
          (try (have c234b1 : decide (t360 = t362) = true := by simpa using c234))
          (try (have c234b2 : (t360 == t362) = true := by simpa using c234))
          clear c234
          by_cases c235 : (t359 == t361) = true
          ·rw [if_pos c235] at H
           have c235b0 : (t359 == t361) = true := c235
           (try (have c235b1 : decide (t359 = t361) = true := by simpa using c235))
           (try (have c235b2 : (t359 == t361) = true := by simpa using c235))
           clear c235
           by_cases c236 : (t365 == t369) = true
           ·rw [if_pos c236] at H
            have c236b0 : (t365 == t369) = true := c236
            (try (have c236b1 : decide (t365 = t369) = true := by simpa using c236))
            (try (have c236b2 : (t365 == t369) = true := by simpa using c236))
            clear c236
            by_cases c237 : (t363 == t367 && (t364 == t368)) = true
            ·rw [if_pos c237] at H
             have c237b0 : (t363 == t367 && (t364 == t368)) = true := c237
             (try (have c237b1 : decide (t363 = t367 && (t364 == t368)) = true := by simpa using c237))
             (try (have c237b2 : (t363 == t367 && (t364 == t368)) = true := by simpa using c237))
             clear c237
             by_cases c238 : (t373 == t377) = true
             ·rw [if_pos c238] at H
              have c238b0 : (t373 == t377) = true := c238
              (try (have c238b1 : decide (t373 = t377) = true := by simpa using c238))
              (try (have c238b2 : (t373 == t377) = true := by simpa using c238))
              clear c238
              as_aux_lemma =>
               obtain rfl := Option.some.inj H
               go_wp2_with (first | ((with_reducible refine gate_callee (f := 39) rfl ?_); refine goesL_ (some 219) rfl rfl Try.func39 (by kernel_rfl) rfl #[.slice A1 l1.length c1] rfl (by (try simp only [List.map_toArray, List.map_cons, List.map_nil]); first | done | rfl | (simp only [List.length_drop, List.length_take]; rfl)) ?_; (with_reducible refine (spec_DrawOnCurve.calls kj42 _ _ l1 t353 t354 t355 t356 _ ?side1 ?side2 A227.out).mono ?_); (case side1 => repeat (first | exact (Kd.C_below HR1.out HB.out) | (with_reducible refine Kd.C_alloc ?_ _) | (with_reducible refine Kd.C_drewN ?_ _) | (with_reducible refine Kd.C_drew ?_))); (case side2 => exact HC1.out); rintro e w239 ⟨rfl, hb⟩; refine ⟨_, rfl, ?_⟩; replace HB := bS_ HB hb; (try clear hb)) | ((with_reducible refine gate_dst (N := 32) rfl ?_); refine box_event ?hg (N := 32) ?hd (cs := #[.int .i64 0, .int .i64 0]) (t := 38) ?hr ?_; (case hd => rfl); (case hg => rfl); (case hr => first | (go_simp; done) | (go_simp; rfl)); intro gb357 hg w240 hbox hb; have BK357 := Aside0.mk (hbox); have GW357 := Aside0.mk ((by rw [hg]; exact (below_size (bU_ HB)) : w.heap.size ≤ gb357)); have GE357 := Aside0.mk ((by rw [hg]; exact (below_size (bU_ HB)) : w.heap.size ≤ gb357)); replace HB := bS_ HB hb; clear hb hbox hg) | ((with_reducible refine gate_dst (N := 33) rfl ?_); refine box_event ?hg (N := 33) ?hd (cs := #[.int .i64 0, .int .i64 0]) (t := 40) ?hr ?_; (case hd => rfl); (case hg => rfl); (case hr => first | (go_simp; done) | (go_simp; rfl)); intro gb358 hg w241 hbox hb; have BK358 := Aside0.mk (hbox); have GW358 := Aside0.mk ((by rw [hg]; exact (below_size (by repeat (first | (with_reducible first | exact HB.out | apply q4 | apply q5 | apply q6 | refine below_set ?_ GE357.out) | exact HB.out))) : w.heap.size ≤ gb358)); have GE358 := Aside0.mk ((by rw [hg]; exact (below_size (by repeat (first | (with_reducible first | exact HB.out | apply q4 | apply q5 | apply q6 | refine below_set ?_ GE357.out) | exact HB.out))) : w.heap.size ≤ gb358)); have NB357_358 := Aside0.mk ((by rw [hg]; exact Nat.ne_of_lt (blk_lt (g := gb357) (o := .cells #[.int .i64 0, .int .i64 0] 38 (0, 0)) (by (with_reducible repeat first | apply q1 | apply q2 | apply q3); exact BK357.out)) : gb357 ≠ gb358)); have NB358_357 := Aside0.mk ((by rw [hg]; exact Nat.ne_of_gt (blk_lt (g := gb357) (o := .cells #[.int .i64 0, .int .i64 0] 38 (0, 0)) (by (with_reducible repeat first | apply q1 | apply q2 | apply q3); exact BK357.out)) : gb358 ≠ gb357)); replace BK357 := Aside0.mk (blk_below (g := gb357) (o := .cells #[.int .i64 0, .int .i64 0] 38 (0, 0)) (by (with_reducible repeat first | apply q1 | apply q2 | apply q3); exact BK357.out) hb); replace HB := Aside0.mk (below_step (by repeat (first | (with_reducible first | exact HB.out | apply q4 | apply q5 | apply q6 | refine below_set ?_ GE357.out) | exact HB.out)) hb); clear hb hbox hg; have hnb242 := NB357_358.out; have hnc242 := NB358_357.out; have hcz243_0 : w241.cell? ⟨gb357, 0, none⟩ = some (.int .i64 0) := (blk_cell BK357.out 0).trans rfl; have hcz243_1 : w241.cell? ⟨gb357, 1, none⟩ = some (.int .i64 0) := (blk_cell BK357.out 1).trans rfl; have hfz243_0 := blk_frozen BK357.out 0; have hfz243_1 := blk_frozen BK357.out 1; have hcz244_0 : w241.cell? ⟨gb358, 0, none⟩ = some (.int .i64 0) := (blk_cell BK358.out 0).trans rfl; have hcz244_1 : w241.cell? ⟨gb358, 1, none⟩ = some (.int .i64 0) := (blk_cell BK358.out 1).trans rfl; have hfz244_0 := blk_frozen BK358.out 0; have hfz244_1 := blk_frozen BK358.out 1) | ((with_reducible refine gate_callee (f := 35) rfl ?_); refine goesL_ (some 225) rfl rfl Try.func35 (by kernel_rfl) rfl #[.agg #[.int .i64 t353, .int .i64 t354], .agg #[.int .i64 t355, .int .i64 t356]] rfl (by (try simp only [List.map_toArray, List.map_cons, List.map_nil]); first | done | rfl | (simp only [List.length_drop, List.length_take]; rfl)) ?_; (with_reducible refine (impl_OnCurve.calls kj42 t353 t354 t355 t356 t359 t360 _ A228.out).mono ?_); rintro e w245 ⟨rfl, hb⟩; refine ⟨_, rfl, ?_⟩; replace BK357 := Aside0.mk (blk_below (g := gb357) (o := .cells #[.int .i64 t353, .int .i64 t354] 38 (0, 0)) (by (with_reducible repeat first | apply q1 | apply q2 | apply q3); refine blk_far ?_ NB357_358.out _; (with_reducible repeat first | apply q1 | apply q2 | apply q3); refine blk_far ?_ NB357_358.out _; (with_reducible repeat first | apply q1 | apply q2 | apply q3); refine blk_put (cs := #[.int .i64 t353, .int .i64 0]) ?_ 1 _ rfl; (with_reducible repeat first | apply q1 | apply q2 | apply q3); refine blk_put (cs := #[.int .i64 0, .int .i64 0]) ?_ 0 _ rfl; (with_reducible repeat first | apply q1 | apply q2 | apply q3); exact BK357.out) hb); replace BK358 := Aside0.mk (blk_below (g := gb358) (o := .cells #[.int .i64 t355, .int .i64 t356] 40 (0, 0)) (by (with_reducible repeat first | apply q1 | apply q2 | apply q3); refine blk_put (cs := #[.int .i64 t355, .int .i64 0]) ?_ 1 _ rfl; (with_reducible repeat first | apply q1 | apply q2 | apply q3); refine blk_put (cs := #[.int .i64 0, .int .i64 0]) ?_ 0 _ rfl; (with_reducible repeat first | apply q1 | apply q2 | apply q3); refine blk_far ?_ NB358_357.out _; (with_reducible repeat first | apply q1 | apply q2 | apply q3); refine blk_far ?_ NB358_357.out _; (with_reducible repeat first | apply q1 | apply q2 | apply q3); exact BK358.out) hb); replace HB := Aside0.mk (below_step (by repeat (first | (with_reducible first | exact HB.out | apply q4 | apply q5 | apply q6 | refine below_set ?_ GE357.out | refine below_set ?_ GE358.out) | exact HB.out)) hb); (try clear hb); have hcz246_0 : w245.cell? ⟨gb357, 0, none⟩ = some (.int .i64 t353) := (blk_cell BK357.out 0).trans rfl; have hcz246_1 : w245.cell? ⟨gb357, 1, none⟩ = some (.int .i64 t354) := (blk_cell BK357.out 1).trans rfl; have hfz246_0 := blk_frozen BK357.out 0; have hfz246_1 := blk_frozen BK357.out 1; have hcz247_0 : w245.cell? ⟨gb358, 0, none⟩ = some (.int .i64 t355) := (blk_cell BK358.out 0).trans rfl; have hcz247_1 : w245.cell? ⟨gb358, 1, none⟩ = some (.int .i64 t356) := (blk_cell BK358.out 1).trans rfl; have hfz247_0 := blk_frozen BK358.out 0; have hfz247_1 := blk_frozen BK358.out 1) | ((with_reducible refine gate_callee (f := 40) rfl ?_); refine goesL_ (some 231) rfl rfl Try.func40 (by kernel_rfl) rfl #[.agg #[.int .i64 t353, .int .i64 t354], .agg #[.int .i64 t355, .int .i64 t356]] rfl (by (try simp only [List.map_toArray, List.map_cons, List.map_nil]); first | done | rfl | (simp only [List.length_drop, List.length_take]; rfl)) ?_; (with_reducible refine (spec_OnCurve.calls kj42 t353 t354 t355 t356 t361 t362 _ A229.out).mono ?_); rintro e w248 ⟨rfl, hb⟩; refine ⟨_, rfl, ?_⟩; replace BK357 := Aside0.mk (blk_below (g := gb357) (o := .cells #[.int .i64 t353, .int .i64 t354] 38 (0, 0)) (by (with_reducible repeat first | apply q1 | apply q2 | apply q3); exact BK357.out) hb); replace BK358 := Aside0.mk (blk_below (g := gb358) (o := .cells #[.int .i64 t355, .int .i64 t356] 40 (0, 0)) (by (with_reducible repeat first | apply q1 | apply q2 | apply q3); exact BK358.out) hb); replace HB := Aside0.mk (below_step (by repeat (first | (with_reducible first | exact HB.out | apply q4 | apply q5 | apply q6 | refine below_set ?_ GE357.out | refine below_set ?_ GE358.out) | exact HB.out)) hb); (try clear hb); have hcz249_0 : w248.cell? ⟨gb357, 0, none⟩ = some (.int .i64 t353) := (blk_cell BK357.out 0).trans rfl; have hcz249_1 : w248.cell? ⟨gb357, 1, none⟩ = some (.int .i64 t354) := (blk_cell BK357.out 1).trans rfl; have hfz249_0 := blk_frozen BK357.out 0; have hfz249_1 := blk_frozen BK357.out 1; have hcz250_0 : w248.cell? ⟨gb358, 0, none⟩ = some (.int .i64 t355) := (blk_cell BK358.out 0).trans rfl; have hcz250_1 : w248.cell? ⟨gb358, 1, none⟩ = some (.int .i64 t356) := (blk_cell BK358.out 1).trans rfl; have hfz250_0 := blk_frozen BK358.out 0; have hfz250_1 := blk_frozen BK358.out 1) | ((with_reducible refine gate_callee (f := 37) rfl ?_); refine goesL_ (some 237) rfl rfl Try.func37 (by kernel_rfl) rfl #[.agg #[.int .i64 t353, .int .i64 t354], .agg #[.int .i64 t355, .int .i64 t356]] rfl (by (try simp only [List.map_toArray, List.map_cons, List.map_nil]); first | done | rfl | (simp only [List.length_drop, List.length_take]; rfl)) ?_; (with_reducible refine (impl_NegPoint.calls kj42 t353 t354 t355 t356 t363 t364 t365 _ A230.out).mono ?_); rintro e w251 ⟨rfl, hb⟩; refine ⟨_, rfl, ?_⟩; replace BK357 := Aside0.mk (blk_below (g := gb357) (o := .cells #[.int .i64 t353, .int .i64 t354] 38 (0, 0)) (by (with_reducible repeat first | apply q1 | apply q2 | apply q3); exact BK357.out) hb); replace BK358 := Aside0.mk (blk_below (g := gb358) (o := .cells #[.int .i64 t355, .int .i64 t356] 40 (0, 0)) (by (with_reducible repeat first | apply q1 | apply q2 | apply q3); exact BK358.out) hb); replace HB := Aside0.mk (below_step (by repeat (first | (with_reducible first | exact HB.out | apply q4 | apply q5 | apply q6 | refine below_set ?_ GE357.out | refine below_set ?_ GE358.out) | exact HB.out)) hb); (try clear hb)) | ((with_reducible refine gate_dst (N := 38) rfl ?_); refine box_event ?hg (N := 38) ?hd (cs := #[.int .i64 0, .int .i64 0]) (t := 40) ?hr ?_; (case hd => rfl); (case hg => rfl); (case hr => first | (go_simp; done) | (go_simp; rfl)); intro gb366 hg w252 hbox hb; have BK366 := Aside0.mk (hbox); have GW366 := Aside0.mk ((by rw [hg]; exact (below_size (by repeat (first | (with_reducible first | exact HB.out | apply q4 | apply q5 | apply q6 | refine below_set ?_ GE357.out | refine below_set ?_ GE358.out) | exact HB.out))) : w.heap.size ≤ gb366)); have GE366 := Aside0.mk ((by rw [hg]; exact (below_size (by repeat (first | (with_reducible first | exact HB.out | apply q4 | apply q5 | apply q6 | refine below_set ?_ GE357.out | refine below_set ?_ GE358.out) | exact HB.out))) : w.heap.size ≤ gb366)); have NB357_366 := Aside0.mk ((by rw [hg]; exact Nat.ne_of_lt (blk_lt (g := gb357) (o := .cells #[.int .i64 t353, .int .i64 t354] 38 (0, 0)) (by (with_reducible repeat first | apply q1 | apply q2 | apply q3); exact BK357.out)) : gb357 ≠ gb366)); have NB366_357 := Aside0.mk ((by rw [hg]; exact Nat.ne_of_gt (blk_lt (g := gb357) (o := .cells #[.int .i64 t353, .int .i64 t354] 38 (0, 0)) (by (with_reducible repeat first | apply q1 | apply q2 | apply q3); exact BK357.out)) : gb366 ≠ gb357)); have NB358_366 := Aside0.mk ((by rw [hg]; exact Nat.ne_of_lt (blk_lt (g := gb358) (o := .cells #[.int .i64 t355, .int .i64 t356] 40 (0, 0)) (by (with_reducible repeat first | apply q1 | apply q2 | apply q3); exact BK358.out)) : gb358 ≠ gb366)); have NB366_358 := Aside0.mk ((by rw [hg]; exact Nat.ne_of_gt (blk_lt (g := gb358) (o := .cells #[.int .i64 t355, .int .i64 t356] 40 (0, 0)) (by (with_reducible repeat first | apply q1 | apply q2 | apply q3); exact BK358.out)) : gb366 ≠ gb358)); replace BK357 := Aside0.mk (blk_below (g := gb357) (o := .cells #[.int .i64 t353, .int .i64 t354] 38 (0, 0)) (by (with_reducible repeat first | apply q1 | apply q2 | apply q3); exact BK357.out) hb); replace BK358 := Aside0.mk (blk_below (g := gb358) (o := .cells #[.int .i64 t355, .int .i64 t356] 40 (0, 0)) (by (with_reducible repeat first | apply q1 | apply q2 | apply q3); exact BK358.out) hb); replace HB := Aside0.mk (below_step (by repeat (first | (with_reducible first | exact HB.out | apply q4 | apply q5 | apply q6 | refine below_set ?_ GE357.out | refine below_set ?_ GE358.out) | exact HB.out)) hb); clear hb hbox hg; have hnb253 := NB366_357.out; have hnc253 := NB357_366.out; have hnb254 := NB366_358.out; have hnc254 := NB358_366.out; have hcz255_0 : w252.cell? ⟨gb366, 0, none⟩ = some (.int .i64 0) := (blk_cell BK366.out 0).trans rfl; have hcz255_1 : w252.cell? ⟨gb366, 1, none⟩ = some (.int .i64 0) := (blk_cell BK366.out 1).trans rfl; have hfz255_0 := blk_frozen BK366.out 0; have hfz255_1 := blk_frozen BK366.out 1; have hcz256_0 : w252.cell? ⟨gb357, 0, none⟩ = some (.int .i64 t353) := (blk_cell BK357.out 0).trans rfl; have hcz256_1 : w252.cell? ⟨gb357, 1, none⟩ = some (.int .i64 t354) := (blk_cell BK357.out 1).trans rfl; have hfz256_0 := blk_frozen BK357.out 0; have hfz256_1 := blk_frozen BK357.out 1; have hcz257_0 : w252.cell? ⟨gb358, 0, none⟩ = some (.int .i64 t355) := (blk_cell BK358.out 0).trans rfl; have hcz257_1 : w252.cell? ⟨gb358, 1, none⟩ = some (.int .i64 t356) := (blk_cell BK358.out 1).trans rfl; have hfz257_0 := blk_frozen BK358.out 0; have hfz257_1 := blk_frozen BK358.out 1) | ((with_reducible refine gate_callee (f := 41) rfl ?_); refine goesL_ (some 243) rfl rfl Try.func41 (by kernel_rfl) rfl #[.agg #[.int .i64 t353, .int .i64 t354], .agg #[.int .i64 t355, .int .i64 t356]] rfl (by (try simp only [List.map_toArray, List.map_cons, List.map_nil]); first | done | rfl | (simp only [List.length_drop, List.length_take]; rfl)) ?_; (with_reducible refine (spec_NegPoint.calls kj42 t353 t354 t355 t356 t367 t368 t369 _ A231.out).mono ?_); rintro e w258 ⟨rfl, hb⟩; refine ⟨_, rfl, ?_⟩; replace BK357 := Aside0.mk (blk_below (g := gb357) (o := .cells #[.int .i64 t353, .int .i64 t354] 38 (0, 0)) (by (with_reducible repeat first | apply q1 | apply q2 | apply q3); refine blk_far ?_ NB357_366.out _; (with_reducible repeat first | apply q1 | apply q2 | apply q3); refine blk_far ?_ NB357_366.out _; (with_reducible repeat first | apply q1 | apply q2 | apply q3); exact BK357.out) hb); replace BK358 := Aside0.mk (blk_below (g := gb358) (o := .cells #[.int .i64 t355, .int .i64 t356] 40 (0, 0)) (by (with_reducible repeat first | apply q1 | apply q2 | apply q3); refine blk_far ?_ NB358_366.out _; (with_reducible repeat first | apply q1 | apply q2 | apply q3); refine blk_far ?_ NB358_366.out _; (with_reducible repeat first | apply q1 | apply q2 | apply q3); exact BK358.out) hb); replace BK366 := Aside0.mk (blk_below (g := gb366) (o := .cells #[.int .i64 t363, .int .i64 t364] 40 (0, 0)) (by (with_reducible repeat first | apply q1 | apply q2 | apply q3); refine blk_put (cs := #[.int .i64 t363, .int .i64 0]) ?_ 1 _ rfl; (with_reducible repeat first | apply q1 | apply q2 | apply q3); refine blk_put (cs := #[.int .i64 0, .int .i64 0]) ?_ 0 _ rfl; (with_reducible repeat first | apply q1 | apply q2 | apply q3); exact BK366.out) hb); replace HB := Aside0.mk (below_step (by repeat (first | (with_reducible first | exact HB.out | apply q4 | apply q5 | apply q6 | refine below_set ?_ GE357.out | refine below_set ?_ GE358.out | refine below_set ?_ GE366.out) | exact HB.out)) hb); (try clear hb)) | ((with_reducible refine gate_dst (N := 40) rfl ?_); refine box_event ?hg (N := 40) ?hd (cs := #[.int .i64 0, .int .i64 0]) (t := 40) ?hr ?_; (case hd => rfl); (case hg => rfl); (case hr => first | (go_simp; done) | (go_simp; rfl)); intro gb370 hg w259 hbox hb; have BK370 := Aside0.mk (hbox); have GW370 := Aside0.mk ((by rw [hg]; exact (below_size (by repeat (first | (with_reducible first | exact HB.out | apply q4 | apply q5 | apply q6 | refine below_set ?_ GE357.out | refine below_set ?_ GE358.out | refine below_set ?_ GE366.out) | exact HB.out))) : w.heap.size ≤ gb370)); have GE370 := Aside0.mk ((by rw [hg]; exact (below_size (by repeat (first | (with_reducible first | exact HB.out | apply q4 | apply q5 | apply q6 | refine below_set ?_ GE357.out | refine below_set ?_ GE358.out | refine below_set ?_ GE366.out) | exact HB.out))) : w.heap.size ≤ gb370)); have NB357_370 := Aside0.mk ((by rw [hg]; exact Nat.ne_of_lt (blk_lt (g := gb357) (o := .cells #[.int .i64 t353, .int .i64 t354] 38 (0, 0)) (by (with_reducible repeat first | apply q1 | apply q2 | apply q3); exact BK357.out)) : gb357 ≠ gb370)); have NB370_357 := Aside0.mk ((by rw [hg]; exact Nat.ne_of_gt (blk_lt (g := gb357) (o := .cells #[.int .i64 t353, .int .i64 t354] 38 (0, 0)) (by (with_reducible repeat first | apply q1 | apply q2 | apply q3); exact BK357.out)) : gb370 ≠ gb357)); have NB358_370 := Aside0.mk ((by rw [hg]; exact Nat.ne_of_lt (blk_lt (g := gb358) (o := .cells #[.int .i64 t355, .int .i64 t356] 40 (0, 0)) (by (with_reducible repeat first | apply q1 | apply q2 | apply q3); exact BK358.out)) : gb358 ≠ gb370)); have NB370_358 := Aside0.mk ((by rw [hg]; exact Nat.ne_of_gt (blk_lt (g := gb358) (o := .cells #[.int .i64 t355, .int .i64 t356] 40 (0, 0)) (by (with_reducible repeat first | apply q1 | apply q2 | apply q3); exact BK358.out)) : gb370 ≠ gb358)); have NB366_370 := Aside0.mk ((by rw [hg]; exact Nat.ne_of_lt (blk_lt (g := gb366) (o := .cells #[.int .i64 t363, .int .i64 t364] 40 (0, 0)) (by (with_reducible repeat first | apply q1 | apply q2 | apply q3); exact BK366.out)) : gb366 ≠ gb370)); have NB370_366 := Aside0.mk ((by rw [hg]; exact Nat.ne_of_gt (blk_lt (g := gb366) (o := .cells #[.int .i64 t363, .int .i64 t364] 40 (0, 0)) (by (with_reducible repeat first | apply q1 | apply q2 | apply q3); exact BK366.out)) : gb370 ≠ gb366)); replace BK357 := Aside0.mk (blk_below (g := gb357) (o := .cells #[.int .i64 t353, .int .i64 t354] 38 (0, 0)) (by (with_reducible repeat first | apply q1 | apply q2 | apply q3); exact BK357.out) hb); replace BK358 := Aside0.mk (blk_below (g := gb358) (o := .cells #[.int .i64 t355, .int .i64 t356] 40 (0, 0)) (by (with_reducible repeat first | apply q1 | apply q2 | apply q3); exact BK358.out) hb); replace BK366 := Aside0.mk (blk_below (g := gb366) (o := .cells #[.int .i64 t363, .int .i64 t364] 40 (0, 0)) (by (with_reducible repeat first | apply q1 | apply q2 | apply q3); exact BK366.out) hb); replace HB := Aside0.mk (below_step (by repeat (first | (with_reducible first | exact HB.out | apply q4 | apply q5 | apply q6 | refine below_set ?_ GE357.out | refine below_set ?_ GE358.out | refine below_set ?_ GE366.out) | exact HB.out)) hb); clear hb hbox hg; have hnb260 := NB370_357.out; have hnc260 := NB357_370.out; have hnb261 := NB370_358.out; have hnc261 := NB358_370.out; have hnb262 := NB370_366.out; have hnc262 := NB366_370.out; have hcz263_0 : w259.cell? ⟨gb370, 0, none⟩ = some (.int .i64 0) := (blk_cell BK370.out 0).trans rfl; have hcz263_1 : w259.cell? ⟨gb370, 1, none⟩ = some (.int .i64 0) := (blk_cell BK370.out 1).trans rfl; have hfz263_0 := blk_frozen BK370.out 0; have hfz263_1 := blk_frozen BK370.out 1; have hcz264_0 : w259.cell? ⟨gb357, 0, none⟩ = some (.int .i64 t353) := (blk_cell BK357.out 0).trans rfl; have hcz264_1 : w259.cell? ⟨gb357, 1, none⟩ = some (.int .i64 t354) := (blk_cell BK357.out 1).trans rfl; have hfz264_0 := blk_frozen BK357.out 0; have hfz264_1 := blk_frozen BK357.out 1) | ((with_reducible refine gate_callee (f := 36) rfl ?_); refine goesL_ (some 248) rfl rfl Try.func36 (by kernel_rfl) rfl #[.agg #[.int .i64 t353, .int .i64 t354]] rfl (by (try simp only [List.map_toArray, List.map_cons, List.map_nil]); first | done | rfl | (simp only [List.length_drop, List.length_take]; rfl)) ?_; (with_reducible refine (impl_ZeroPoint.calls kj42 t353 t354 t371 t372 t373 _ A232.out).mono ?_); rintro e w265 ⟨rfl, hb⟩; refine ⟨_, rfl, ?_⟩; replace BK357 := Aside0.mk (blk_below (g := gb357) (o := .cells #[.int .i64 t353, .int .i64 t354] 38 (0, 0)) (by (with_reducible repeat first | apply q1 | apply q2 | apply q3); refine blk_far ?_ NB357_370.out _; (with_reducible repeat first | apply q1 | apply q2 | apply q3); refine blk_far ?_ NB357_370.out _; (with_reducible repeat first | apply q1 | apply q2 | apply q3); exact BK357.out) hb); replace BK358 := Aside0.mk (blk_below (g := gb358) (o := .cells #[.int .i64 t355, .int .i64 t356] 40 (0, 0)) (by (with_reducible repeat first | apply q1 | apply q2 | apply q3); refine blk_far ?_ NB358_370.out _; (with_reducible repeat first | apply q1 | apply q2 | apply q3); refine blk_far ?_ NB358_370.out _; (with_reducible repeat first | apply q1 | apply q2 | apply q3); exact BK358.out) hb); replace BK366 := Aside0.mk (blk_below (g := gb366) (o := .cells #[.int .i64 t363, .int .i64 t364] 40 (0, 0)) (by (with_reducible repeat first | apply q1 | apply q2 | apply q3); refine blk_far ?_ NB366_370.out _; (with_reducible repeat first | apply q1 | apply q2 | apply q3); refine blk_far ?_ NB366_370.out _; (with_reducible repeat first | apply q1 | apply q2 | apply q3); exact BK366.out) hb); replace BK370 := Aside0.mk (blk_below (g := gb370) (o := .cells #[.int .i64 t367, .int .i64 t368] 40 (0, 0)) (by (with_reducible repeat first | apply q1 | apply q2 | apply q3); refine blk_put (cs := #[.int .i64 t367, .int .i64 0]) ?_ 1 _ rfl; (with_reducible repeat first | apply q1 | apply q2 | apply q3); refine blk_put (cs := #[.int .i64 0, .int .i64 0]) ?_ 0 _ rfl; (with_reducible repeat first | apply q1 | apply q2 | apply q3); exact BK370.out) hb); replace HB := Aside0.mk (below_step (by repeat (first | (with_reducible first | exact HB.out | apply q4 | apply q5 | apply q6 | refine below_set ?_ GE357.out | refine below_set ?_ GE358.out | refine below_set ?_ GE366.out | refine below_set ?_ GE370.out) | exact HB.out)) hb); (try clear hb)) | ((with_reducible refine gate_dst (N := 42) rfl ?_); refine box_event ?hg (N := 42) ?hd (cs := #[.int .i64 0, .int .i64 0]) (t := 40) ?hr ?_; (case hd => rfl); (case hg => rfl); (case hr => first | (go_simp; done) | (go_simp; rfl)); intro gb374 hg w266 hbox hb; have BK374 := Aside0.mk (hbox); have GW374 := Aside0.mk ((by rw [hg]; exact (below_size (by repeat (first | (with_reducible first | exact HB.out | apply q4 | apply q5 | apply q6 | refine below_set ?_ GE357.out | refine below_set ?_ GE358.out | refine below_set ?_ GE366.out | refine below_set ?_ GE370.out) | exact HB.out))) : w.heap.size ≤ gb374)); have GE374 := Aside0.mk ((by rw [hg]; exact (below_size (by repeat (first | (with_reducible first | exact HB.out | apply q4 | apply q5 | apply q6 | refine below_set ?_ GE357.out | refine below_set ?_ GE358.out | refine below_set ?_ GE366.out | refine below_set ?_ GE370.out) | exact HB.out))) : w.heap.size ≤ gb374)); have NB357_374 := Aside0.mk ((by rw [hg]; exact Nat.ne_of_lt (blk_lt (g := gb357) (o := .cells #[.int .i64 t353, .int .i64 t354] 38 (0, 0)) (by (with_reducible repeat first | apply q1 | apply q2 | apply q3); exact BK357.out)) : gb357 ≠ gb374)); have NB374_357 := Aside0.mk ((by rw [hg]; exact Nat.ne_of_gt (blk_lt (g := gb357) (o := .cells #[.int .i64 t353, .int .i64 t354] 38 (0, 0)) (by (with_reducible repeat first | apply q1 | apply q2 | apply q3); exact BK357.out)) : gb374 ≠ gb357)); have NB358_374 := Aside0.mk ((by rw [hg]; exact Nat.ne_of_lt (blk_lt (g := gb358) (o := .cells #[.int .i64 t355, .int .i64 t356] 40 (0, 0)) (by (with_reducible repeat first | apply q1 | apply q2 | apply q3); exact BK358.out)) : gb358 ≠ gb374)); have NB374_358 := Aside0.mk ((by rw [hg]; exact Nat.ne_of_gt (blk_lt (g := gb358) (o := .cells #[.int .i64 t355, .int .i64 t356] 40 (0, 0)) (by (with_reducible repeat first | apply q1 | apply q2 | apply q3); exact BK358.out)) : gb374 ≠ gb358)); have NB366_374 := Aside0.mk ((by rw [hg]; exact Nat.ne_of_lt (blk_lt (g := gb366) (o := .cells #[.int .i64 t363, .int .i64 t364] 40 (0, 0)) (by (with_reducible repeat first | apply q1 | apply q2 | apply q3); exact BK366.out)) : gb366 ≠ gb374)); have NB374_366 := Aside0.mk ((by rw [hg]; exact Nat.ne_of_gt (blk_lt (g := gb366) (o := .cells #[.int .i64 t363, .int .i64 t364] 40 (0, 0)) (by (with_reducible repeat first | apply q1 | apply q2 | apply q3); exact BK366.out)) : gb374 ≠ gb366)); have NB370_374 := Aside0.mk ((by rw [hg]; exact Nat.ne_of_lt (blk_lt (g := gb370) (o := .cells #[.int .i64 t367, .int .i64 t368] 40 (0, 0)) (by (with_reducible repeat first | apply q1 | apply q2 | apply q3); exact BK370.out)) : gb370 ≠ gb374)); have NB374_370 := Aside0.mk ((by rw [hg]; exact Nat.ne_of_gt (blk_lt (g := gb370) (o := .cells #[.int .i64 t367, .int .i64 t368] 40 (0, 0)) (by (with_reducible repeat first | apply q1 | apply q2 | apply q3); exact BK370.out)) : gb374 ≠ gb370)); replace BK357 := Aside0.mk (blk_below (g := gb357) (o := .cells #[.int .i64 t353, .int .i64 t354] 38 (0, 0)) (by (with_reducible repeat first | apply q1 | apply q2 | apply q3); exact BK357.out) hb); replace BK358 := Aside0.mk (blk_below (g := gb358) (o := .cells #[.int .i64 t355, .int .i64 t356] 40 (0, 0)) (by (with_reducible repeat first | apply q1 | apply q2 | apply q3); exact BK358.out) hb); replace BK366 := Aside0.mk (blk_below (g := gb366) (o := .cells #[.int .i64 t363, .int .i64 t364] 40 (0, 0)) (by (with_reducible repeat first | apply q1 | apply q2 | apply q3); exact BK366.out) hb); replace BK370 := Aside0.mk (blk_below (g := gb370) (o := .cells #[.int .i64 t367, .int .i64 t368] 40 (0, 0)) (by (with_reducible repeat first | apply q1 | apply q2 | apply q3); exact BK370.out) hb); replace HB := Aside0.mk (below_step (by repeat (first | (with_reducible first | exact HB.out | apply q4 | apply q5 | apply q6 | refine below_set ?_ GE357.out | refine below_set ?_ GE358.out | refine below_set ?_ GE366.out | refine below_set ?_ GE370.out) | exact HB.out)) hb); clear hb hbox hg; have hnb267 := NB374_357.out; have hnc267 := NB357_374.out; have hnb268 := NB374_358.out; have hnc268 := NB358_374.out; have hnb269 := NB374_366.out; have hnc269 := NB366_374.out; have hnb270 := NB374_370.out; have hnc270 := NB370_374.out; have hcz271_0 : w266.cell? ⟨gb374, 0, none⟩ = some (.int .i64 0) := (blk_cell BK374.out 0).trans rfl; have hcz271_1 : w266.cell? ⟨gb374, 1, none⟩ = some (.int .i64 0) := (blk_cell BK374.out 1).trans rfl; have hfz271_0 := blk_frozen BK374.out 0; have hfz271_1 := blk_frozen BK374.out 1; have hcz272_0 : w266.cell? ⟨gb357, 0, none⟩ = some (.int .i64 t353) := (blk_cell BK357.out 0).trans rfl; have hcz272_1 : w266.cell? ⟨gb357, 1, none⟩ = some (.int .i64 t354) := (blk_cell BK357.out 1).trans rfl; have hfz272_0 := blk_frozen BK357.out 0; have hfz272_1 := blk_frozen BK357.out 1) | ((with_reducible refine gate_callee (f := 42) rfl ?_); refine goesL_ (some 253) rfl rfl Try.func42 (by kernel_rfl) rfl #[.agg #[.int .i64 t353, .int .i64 t354]] rfl (by (try simp only [List.map_toArray, List.map_cons, List.map_nil]); first | done | rfl | (simp only [List.length_drop, List.length_take]; rfl)) ?_; (with_reducible refine (spec_ZeroPoint.calls kj42 t353 t354 t375 t376 t377 _ A233.out).mono ?_); rintro e w273 ⟨rfl, hb⟩; refine ⟨_, rfl, ?_⟩; replace BK357 := Aside0.mk (blk_below (g := gb357) (o := .cells #[.int .i64 t353, .int .i64 t354] 38 (0, 0)) (by (with_reducible repeat first | apply q1 | apply q2 | apply q3); refine blk_far ?_ NB357_374.out _; (with_reducible repeat first | apply q1 | apply q2 | apply q3); refine blk_far ?_ NB357_374.out _; (with_reducible repeat first | apply q1 | apply q2 | apply q3); exact BK357.out) hb); replace BK358 := Aside0.mk (blk_below (g := gb358) (o := .cells #[.int .i64 t355, .int .i64 t356] 40 (0, 0)) (by (with_reducible repeat first | apply q1 | apply q2 | apply q3); refine blk_far ?_ NB358_374.out _; (with_reducible repeat first | apply q1 | apply q2 | apply q3); refine blk_far ?_ NB358_374.out _; (with_reducible repeat first | apply q1 | apply q2 | apply q3); exact BK358.out) hb); replace BK366 := Aside0.mk (blk_below (g := gb366) (o := .cells #[.int .i64 t363, .int .i64 t364] 40 (0, 0)) (by (with_reducible repeat first | apply q1 | apply q2 | apply q3); refine blk_far ?_ NB366_374.out _; (with_reducible repeat first | apply q1 | apply q2 | apply q3); refine blk_far ?_ NB366_374.out _; (with_reducible repeat first | apply q1 | apply q2 | apply q3); exact BK366.out) hb); replace BK370 := Aside0.mk (blk_below (g := gb370) (o := .cells #[.int .i64 t367, .int .i64 t368] 40 (0, 0)) (by (with_reducible repeat first | apply q1 | apply q2 | apply q3); refine blk_far ?_ NB370_374.out _; (with_reducible repeat first | apply q1 | apply q2 | apply q3); refine blk_far ?_ NB370_374.out _; (with_reducible repeat first | apply q1 | apply q2 | apply q3); exact BK370.out) hb); replace BK374 := Aside0.mk (blk_below (g := gb374) (o := .cells #[.int .i64 t371, .int .i64 t372] 40 (0, 0)) (by (with_reducible repeat first | apply q1 | apply q2 | apply q3); refine blk_put (cs := #[.int .i64 t371, .int .i64 0]) ?_ 1 _ rfl; (with_reducible repeat first | apply q1 | apply q2 | apply q3); refine blk_put (cs := #[.int .i64 0, .int .i64 0]) ?_ 0 _ rfl; (with_reducible repeat first | apply q1 | apply q2 | apply q3); exact BK374.out) hb); replace HB := Aside0.mk (below_step (by repeat (first | (with_reducible first | exact HB.out | apply q4 | apply q5 | apply q6 | refine below_set ?_ GE357.out | refine below_set ?_ GE358.out | refine below_set ?_ GE366.out | refine below_set ?_ GE370.out | refine below_set ?_ GE374.out) | exact HB.out)) hb); (try clear hb)) | ((with_reducible refine gate_dst (N := 44) rfl ?_); refine box_event ?hg (N := 44) ?hd (cs := #[.int .i64 0, .int .i64 0]) (t := 40) ?hr ?_; (case hd => rfl); (case hg => rfl); (case hr => first | (go_simp; done) | (go_simp; rfl)); intro gb378 hg w274 hbox hb; have BK378 := Aside0.mk (hbox); have GW378 := Aside0.mk ((by rw [hg]; exact (below_size (by repeat (first | (with_reducible first | exact HB.out | apply q4 | apply q5 | apply q6 | refine below_set ?_ GE357.out | refine below_set ?_ GE358.out | refine below_set ?_ GE366.out | refine below_set ?_ GE370.out | refine below_set ?_ GE374.out) | exact HB.out))) : w.heap.size ≤ gb378)); have GE378 := Aside0.mk ((by rw [hg]; exact (below_size (by repeat (first | (with_reducible first | exact HB.out | apply q4 | apply q5 | apply q6 | refine below_set ?_ GE357.out | refine below_set ?_ GE358.out | refine below_set ?_ GE366.out | refine below_set ?_ GE370.out | refine below_set ?_ GE374.out) | exact HB.out))) : w.heap.size ≤ gb378)); have NB357_378 := Aside0.mk ((by rw [hg]; exact Nat.ne_of_lt (blk_lt (g := gb357) (o := .cells #[.int .i64 t353, .int .i64 t354] 38 (0, 0)) (by (with_reducible repeat first | apply q1 | apply q2 | apply q3); exact BK357.out)) : gb357 ≠ gb378)); have NB378_357 := Aside0.mk ((by rw [hg]; exact Nat.ne_of_gt (blk_lt (g := gb357) (o := .cells #[.int .i64 t353, .int .i64 t354] 38 (0, 0)) (by (with_reducible repeat first | apply q1 | apply q2 | apply q3); exact BK357.out)) : gb378 ≠ gb357)); have NB358_378 := Aside0.mk ((by rw [hg]; exact Nat.ne_of_lt (blk_lt (g := gb358) (o := .cells #[.int .i64 t355, .int .i64 t356] 40 (0, 0)) (by (with_reducible repeat first | apply q1 | apply q2 | apply q3); exact BK358.out)) : gb358 ≠ gb378)); have NB378_358 := Aside0.mk ((by rw [hg]; exact Nat.ne_of_gt (blk_lt (g := gb358) (o := .cells #[.int .i64 t355, .int .i64 t356] 40 (0, 0)) (by (with_reducible repeat first | apply q1 | apply q2 | apply q3); exact BK358.out)) : gb378 ≠ gb358)); have NB366_378 := Aside0.mk ((by rw [hg]; exact Nat.ne_of_lt (blk_lt (g := gb366) (o := .cells #[.int .i64 t363, .int .i64 t364] 40 (0, 0)) (by (with_reducible repeat first | apply q1 | apply q2 | apply q3); exact BK366.out)) : gb366 ≠ gb378)); have NB378_366 := Aside0.mk ((by rw [hg]; exact Nat.ne_of_gt (blk_lt (g := gb366) (o := .cells #[.int .i64 t363, .int .i64 t364] 40 (0, 0)) (by (with_reducible repeat first | apply q1 | apply q2 | apply q3); exact BK366.out)) : gb378 ≠ gb366)); have NB370_378 := Aside0.mk ((by rw [hg]; exact Nat.ne_of_lt (blk_lt (g := gb370) (o := .cells #[.int .i64 t367, .int .i64 t368] 40 (0, 0)) (by (with_reducible repeat first | apply q1 | apply q2 | apply q3); exact BK370.out)) : gb370 ≠ gb378)); have NB378_370 := Aside0.mk ((by rw [hg]; exact Nat.ne_of_gt (blk_lt (g := gb370) (o := .cells #[.int .i64 t367, .int .i64 t368] 40 (0, 0)) (by (with_reducible repeat first | apply q1 | apply q2 | apply q3); exact BK370.out)) : gb378 ≠ gb370)); have NB374_378 := Aside0.mk ((by rw [hg]; exact Nat.ne_of_lt (blk_lt (g := gb374) (o := .cells #[.int .i64 t371, .int .i64 t372] 40 (0, 0)) (by (with_reducible repeat first | apply q1 | apply q2 | apply q3); exact BK374.out)) : gb374 ≠ gb378)); have NB378_374 := Aside0.mk ((by rw [hg]; exact Nat.ne_of_gt (blk_lt (g := gb374) (o := .cells #[.int .i64 t371, .int .i64 t372] 40 (0, 0)) (by (with_reducible repeat first | apply q1 | apply q2 | apply q3); exact BK374.out)) : gb378 ≠ gb374)); replace BK357 := Aside0.mk (blk_below (g := gb357) (o := .cells #[.int .i64 t353, .int .i64 t354] 38 (0, 0)) (by (with_reducible repeat first | apply q1 | apply q2 | apply q3); exact BK357.out) hb); replace BK358 := Aside0.mk (blk_below (g := gb358) (o := .cells #[.int .i64 t355, .int .i64 t356] 40 (0, 0)) (by (with_reducible repeat first | apply q1 | apply q2 | apply q3); exact BK358.out) hb); replace BK366 := Aside0.mk (blk_below (g := gb366) (o := .cells #[.int .i64 t363, .int .i64 t364] 40 (0, 0)) (by (with_reducible repeat first | apply q1 | apply q2 | apply q3); exact BK366.out) hb); replace BK370 := Aside0.mk (blk_below (g := gb370) (o := .cells #[.int .i64 t367, .int .i64 t368] 40 (0, 0)) (by (with_reducible repeat first | apply q1 | apply q2 | apply q3); exact BK370.out) hb); replace BK374 := Aside0.mk (blk_below (g := gb374) (o := .cells #[.int .i64 t371, .int .i64 t372] 40 (0, 0)) (by (with_reducible repeat first | apply q1 | apply q2 | apply q3); exact BK374.out) hb); replace HB := Aside0.mk (below_step (by repeat (first | (with_reducible first | exact HB.out | apply q4 | apply q5 | apply q6 | refine below_set ?_ GE357.out | refine below_set ?_ GE358.out | refine below_set ?_ GE366.out | refine below_set ?_ GE370.out | refine below_set ?_ GE374.out) | exact HB.out)) hb); clear hb hbox hg; have hnb275 := NB378_357.out; have hnc275 := NB357_378.out; have hnb276 := NB378_358.out; have hnc276 := NB358_378.out; have hnb277 := NB378_366.out; have hnc277 := NB366_378.out; have hnb278 := NB378_370.out; have hnc278 := NB370_378.out; have hnb279 := NB378_374.out; have hnc279 := NB374_378.out; have hcz280_0 : w274.cell? ⟨gb378, 0, none⟩ = some (.int .i64 0) := (blk_cell BK378.out 0).trans rfl; have hcz280_1 : w274.cell? ⟨gb378, 1, none⟩ = some (.int .i64 0) := (blk_cell BK378.out 1).trans rfl; have hfz280_0 := blk_frozen BK378.out 0; have hfz280_1 := blk_frozen BK378.out 1; have hcz281_0 : w274.cell? ⟨gb366, 0, none⟩ = some (.int .i64 t363) := (blk_cell BK366.out 0).trans rfl; have hcz281_1 : w274.cell? ⟨gb366, 1, none⟩ = some (.int .i64 t364) := (blk_cell BK366.out 1).trans rfl; have hfz281_0 := blk_frozen BK366.out 0; have hfz281_1 := blk_frozen BK366.out 1; have hcz282_0 : w274.cell? ⟨gb370, 0, none⟩ = some (.int .i64 t367) := (blk_cell BK370.out 0).trans rfl; have hcz282_1 : w274.cell? ⟨gb370, 1, none⟩ = some (.int .i64 t368) := (blk_cell BK370.out 1).trans rfl; have hfz282_0 := blk_frozen BK370.out 0; have hfz282_1 := blk_frozen BK370.out 1; have hcz283_0 : w274.cell? ⟨gb374, 0, none⟩ = some (.int .i64 t371) := (blk_cell BK374.out 0).trans rfl; have hcz283_1 : w274.cell? ⟨gb374, 1, none⟩ = some (.int .i64 t372) := (blk_cell BK374.out 1).trans rfl; have hfz283_0 := blk_frozen BK374.out 0; have hfz283_1 := blk_frozen BK374.out 1))
               all_goals (try exact absurd ‹some undef = some (Value.bool _)› (by simp [undef]))
               go_ret
               exact ⟨by first | rfl | (simp [errW_none, errW_some] <;> rfl) | (simp [*, errW_none, errW_some] <;> rfl), by repeat (first | (with_reducible first | exact HB.out | apply q4 | apply q5 | apply q6 | refine below_set ?_ GE357.out | refine below_set ?_ GE358.out | refine below_set ?_ GE366.out | refine below_set ?_ GE370.out | refine below_set ?_ GE374.out | refine below_set ?_ GE378.out) | exact HB.out)⟩
             ·rw [if_neg c238] at H
              have c238b0 : (t373 == t377) = false := by simpa using c238
              (try (have c238b1 : decide (t373 = t377) = false := by simpa using c238))
              (try (have c238b2 : (t373 == t377) = false := by simpa using c238))
              (try (have c238b3 : ¬ (t373 = t377) := by simpa using c238))
              clear c238
              exact absurd ((Option.some.inj H).trans HR_.out) (by decide)
            ·rw [if_neg c237] at H
             have c237b0 : (t363 == t367 && (t364 == t368)) = false := by simpa using c237
             (try (have c237b1 : decide (t363 = t367 && (t364 == t368)) = false := by simpa using c237))
             (try (have c237b2 : (t363 == t367 && (t364 == t368)) = false := by simpa using c237))
             (try (have c237b3 : ¬ (t363 = t367 && (t364 == t368)) := by simpa using c237))
             clear c237
             exact absurd ((Option.some.inj H).trans HR_.out) (by decide)
           ·rw [if_neg c236] at H
            have c236b0 : (t365 == t369) = false := by simpa using c236
            (try (have c236b1 : decide (t365 = t369) = false := by simpa using c236))
            (try (have c236b2 : (t365 == t369) = false := by simpa using c236))
            (try (have c236b3 : ¬ (t365 = t369) := by simpa using c236))
            clear c236
            exact absurd ((Option.some.inj H).trans HR_.out) (by decide)
          ·rw [if_neg c235] at H
           have c235b0 : (t359 == t361) = false := by simpa using c235
           (try (have c235b1 : decide (t359 = t361) = false := by simpa using c235))
           (try (have c235b2 : (t359 == t361) = false := by simpa using c235))
           (try (have c235b3 : ¬ (t359 = t361) := by simpa using c235))
           clear c235
           exact absurd ((Option.some.inj H).trans HR_.out) (by decide)
         ·rw [if_neg c234] at H
          have c234b0 : (t360 == t362) = false := by simpa using c234
          (try (have c234b1 : decide (t360 = t362) = false := by simpa using c234))
          (try (have c234b2 : (t360 == t362) = false := by simpa using c234))
          (try (have c234b3 : ¬ (t360 = t362) := by simpa using c234))
          clear c234
          exact absurd ((Option.some.inj H).trans HR_.out) (by decide)

/-- THE ONE PURE STATEMENT of laws_FnGroup: yours. -/
theorem laws_FnGroup.walk (P : laws_FnGroup.Pure) (a0 : Option Addr) (len0 cap0 : Nat) (z0 : List Int) (a1 : Option Addr) (len1 cap1 : Nat) (z1 : List Int) (w : World) (w0 : (a0 = none ∧ len0 = 0 ∧ cap0 = 0 ∧ z0 = []) ∨ ∃ x, a0 = some x ∧ len0 ≤ cap0 ∧ cap0 ≤ maxLen ∧ z0.length = cap0 ∧ (∀ i, i < z0.length → w.cell? (x.add i) = some (.int .u8 (z0.getD i 0))) ∧ ∀ n ∈ z0, (Lit.int .u8 n).wf = true) (y0 : len0 * 1 ≤ 140737488351232) (w1 : (a1 = none ∧ len1 = 0 ∧ cap1 = 0 ∧ z1 = []) ∨ ∃ x, a1 = some x ∧ len1 ≤ cap1 ∧ cap1 ≤ maxLen ∧ z1.length = cap1 ∧ (∀ i, i < z1.length → w.cell? (x.add i) = some (.int .u8 (z1.getD i 0))) ∧ ∀ n ∈ z1, (Lit.int .u8 n).wf = true) (y1 : len1 * 1 ≤ 140737488351232) :
  Calls Try.prog 5 #[.slice a0 len0 cap0, .slice a1 len1 cap1] w fun e w' => e = .returned (.bool true) ∧ Below w.heap.size w w' := by
 obtain ⟨l0, rfl, hr0, hm0, hw0, hc0⟩ := ReadsInt.ofRowC w0
 obtain ⟨l1, rfl, hr1, hm1, hw1, hc1⟩ := ReadsInt.ofRowC w1
 obtain ⟨k, h⟩ := P l0 l1 hm0 y0 hw0 hm1 y1 hw1
 refine (laws_FnGroup.calls k _ _ l0 _ _ l1 true w rfl (Kd.C_of_reads (d := (0 : Int)) (h1 := fun _ => rfl) hr0) hc0 (Kd.C_of_reads (d := (0 : Int)) (h1 := fun _ => rfl) hr1) hc1 h).mono ?_
 rintro e w' ⟨rfl, hd⟩
 exact ⟨rfl, hd⟩

end
end Go.Proofs.Ytdlljfejfgfmgaa.PFnGroup
