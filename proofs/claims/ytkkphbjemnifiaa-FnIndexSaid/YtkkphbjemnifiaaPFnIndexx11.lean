-- Printed for this claim by a changed copy of the kit's printing program (wip/tools/patch_print.py); Lean checks it.
import Derived.Test.YtkkphbjemnifiaaPFnIndexx0
import Derived.Test.YtkkphbjemnifiaaPFnIndexx2
import Derived.Test.YtkkphbjemnifiaaPFnIndexx3
import Derived.Test.YtkkphbjemnifiaaPFnIndexx5
namespace Go.Proofs.Ytkkphbjemnifiaa.PFnIndex
open Go.RowKit Go.Proofs.YtkkphbjemnifiaaW.PrintWords Go.Proofs.YtkkphbjemnifiaaW.PrintLast Go.Proofs.YtkkphbjemnifiaaW.PrintMore
attribute [local go_sem] max2_int min2_int max_two min_two max_three min_three max_four min_four   -- for this text's walks alone
set_option linter.unusedVariables false
set_option linter.unusedSimpArgs false

noncomputable section
/-! ### spec_PutPair: function 33 -/
def spec_PutPair.f (k : Nat) (l0 : List (S74)) (a1_0 : ByteArray) (a1_1 : Int) : Option ((List (S74)) × Bool) := (spec_GoodIndex.f k l0).bind fun t287 => (if t287 = true then ((spec_l10Pairs.f k l0).bind fun t288 => ((some (([(⟨a1_0, a1_1⟩ : S51)] : List (S51)) : List (S51))).bind fun y291 => (if t288.length + y291.length < 5864062014805 then ((some (t288 ++ y291 : List (S51))).bind fun y294 => ((spec_GoodPairs.f k y294).bind fun t297 => (if t297 = true then ((spec_l10Index.f k y294).bind fun t298 => (some (t298, true))) else (some (([] : List (S74)), false))))) else (none)))) else (some (([] : List (S74)), false)))
theorem spec_PutPair.mono : ∀ a0 a1 a2 k, LeO (spec_PutPair.f k a0 a1 a2) (spec_PutPair.f (k + 1) a0 a1 a2) := by
 intro a0 a1 a2 k
 unfold spec_PutPair.f
 repeat' first
   | (with_reducible exact spec_GoodIndex.mono _ _)
   | (with_reducible exact spec_GoodPairs.mono _ _)
   | (with_reducible exact spec_l10Index.mono _ _)
   | (with_reducible exact spec_l10Pairs.mono _ _)
   | (with_reducible exact LeO.refl _)
   | (with_reducible exact LeO.none _)
   | (with_reducible refine LeO.ite ?_ ?_)
   | (with_reducible refine LeO.bind ?_ (fun _ => ?_))
   | exact LeO.none _
   | refine LeO.ite ?_ ?_
   | refine LeO.bind ?_ (fun _ => ?_)
set_option maxHeartbeats 8000000 in
set_option maxRecDepth 100000 in
theorem spec_PutPair.calls (k : Nat) (A0 : Option Addr) (c0 : Nat) (l0 : List (S74)) (a1_0 : ByteArray) (a1_1 : Int) (r1 : List (S74)) (r2 : Bool) (w : World) (hr0 : Kd.C k74 w A0 l0.length l0) (hc0 : l0.length ≤ c0) (h : spec_PutPair.f k l0 a1_0 a1_1 = some (r1, r2)) :
  Calls Try.prog 33 #[.slice A0 l0.length c0, .agg #[.string a1_0, .int .i64 a1_1]] w fun e w' => ∃ v0_ : Value, e = .returned (.tuple #[v0_, .bool r2]) ∧ Kd.S k74 74 w' w.heap.size (fun _ => True) v0_ r1 ∧ Below w.heap.size w w' := by
 have hu51 := Try.underlying51
 have HR0 := Aside0.mk hr0
 have HC0 := Aside0.mk hc0
 clear hr0 hc0
 have HB := Aside0.mk (Below.refl w.heap.size w)
 have H : ((spec_GoodIndex.f k l0).bind fun t287 => (if t287 = true then ((spec_l10Pairs.f k l0).bind fun t288 => ((some (([(⟨a1_0, a1_1⟩ : S51)] : List (S51)) : List (S51))).bind fun y291 => (if t288.length + y291.length < 5864062014805 then ((some (t288 ++ y291 : List (S51))).bind fun y294 => ((spec_GoodPairs.f k y294).bind fun t297 => (if t297 = true then ((spec_l10Index.f k y294).bind fun t298 => (some (t298, true))) else (some (([] : List (S74)), false))))) else (none)))) else (some (([] : List (S74)), false)))) = some (r1, r2) := h
 clear h
 replace H := Option.bind_eq_some_iff.mp H
 obtain ⟨t287, A30, H⟩ := H
 replace H : (if t287 = true then ((spec_l10Pairs.f k l0).bind fun t288 => ((some (([(⟨a1_0, a1_1⟩ : S51)] : List (S51)) : List (S51))).bind fun y291 => (if t288.length + y291.length < 5864062014805 then ((some (t288 ++ y291 : List (S51))).bind fun y294 => ((spec_GoodPairs.f k y294).bind fun t297 => (if t297 = true then ((spec_l10Index.f k y294).bind fun t298 => (some (t298, true))) else (some (([] : List (S74)), false))))) else (none)))) else (some (([] : List (S74)), false))) = some (r1, r2) := H
 have A3 := Aside0.mk A30
 clear A30
 by_cases c4 : t287 = true
 ·subst c4
  have H1 : ((spec_l10Pairs.f k l0).bind fun t288 => ((some (([(⟨a1_0, a1_1⟩ : S51)] : List (S51)) : List (S51))).bind fun y291 => (if t288.length + y291.length < 5864062014805 then ((some (t288 ++ y291 : List (S51))).bind fun y294 => ((spec_GoodPairs.f k y294).bind fun t297 => (if t297 = true then ((spec_l10Index.f k y294).bind fun t298 => (some (t298, true))) else (some (([] : List (S74)), false))))) else (none)))) = some (r1, r2) := by rw [if_pos rfl] at H; exact H
  clear H
  have H := H1
  clear H1
  replace H := Option.bind_eq_some_iff.mp H
  obtain ⟨t288, A50, H⟩ := H
  replace H : ((some (([(⟨a1_0, a1_1⟩ : S51)] : List (S51)) : List (S51))).bind fun y291 => (if t288.length + y291.length < 5864062014805 then ((some (t288 ++ y291 : List (S51))).bind fun y294 => ((spec_GoodPairs.f k y294).bind fun t297 => (if t297 = true then ((spec_l10Index.f k y294).bind fun t298 => (some (t298, true))) else (some (([] : List (S74)), false))))) else (none))) = some (r1, r2) := H
  have A5 := Aside0.mk A50
  clear A50
  obtain ⟨y291, hy291⟩ : ∃ y_ : List (S51), y_ = (([(⟨a1_0, a1_1⟩ : S51)] : List (S51))) := ⟨_, rfl⟩
  replace H : (if t288.length + y291.length < 5864062014805 then ((some (t288 ++ y291 : List (S51))).bind fun y294 => ((spec_GoodPairs.f k y294).bind fun t297 => (if t297 = true then ((spec_l10Index.f k y294).bind fun t298 => (some (t298, true))) else (some (([] : List (S74)), false))))) else (none)) = some (r1, r2) := by first | (rw [hy291]; with_reducible exact H) | (have H2_ := (Option.bind_some _ _).symm.trans H; rw [hy291]; with_reducible exact H2_) | (have H2_ := (Option.bind_some _ _).symm.trans H; with_reducible exact H2_) | with_reducible exact H | (rw [hy291]; exact H) | exact H
  have Ny291 := Aside0.mk hy291
  clear hy291
  by_cases c6 : t288.length + y291.length < 5864062014805
  ·rw [if_pos c6] at H
   have LMc6 := Aside0.mk c6
   clear c6
   obtain ⟨y294, hy294⟩ : ∃ y_ : List (S51), y_ = (t288 ++ y291) := ⟨_, rfl⟩
   replace H : ((spec_GoodPairs.f k y294).bind fun t297 => (if t297 = true then ((spec_l10Index.f k y294).bind fun t298 => (some (t298, true))) else (some (([] : List (S74)), false)))) = some (r1, r2) := by first | (rw [hy294]; with_reducible exact H) | (have H2_ := (Option.bind_some _ _).symm.trans H; rw [hy294]; with_reducible exact H2_) | (have H2_ := (Option.bind_some _ _).symm.trans H; with_reducible exact H2_) | with_reducible exact H | (rw [hy294]; exact H) | exact H
   have Ny294 := Aside0.mk hy294
   clear hy294
   replace H := Option.bind_eq_some_iff.mp H
   obtain ⟨t297, A70, H⟩ := H
   replace H : (if t297 = true then ((spec_l10Index.f k y294).bind fun t298 => (some (t298, true))) else (some (([] : List (S74)), false))) = some (r1, r2) := H
   have A7 := Aside0.mk A70
   clear A70
   by_cases c8 : t297 = true
   ·subst c8
    have H1 : ((spec_l10Index.f k y294).bind fun t298 => (some (t298, true))) = some (r1, r2) := by rw [if_pos rfl] at H; exact H
    clear H
    have H := H1
    clear H1
    replace H := Option.bind_eq_some_iff.mp H
    obtain ⟨t298, A90, H⟩ := H
    replace H : (some (t298, true)) = some (r1, r2) := H
    have A9 := Aside0.mk A90
    clear A90
    simp only [Option.some.injEq, Prod.mk.injEq] at H
    obtain ⟨rfl, rfl⟩ := H
    go_enter Try.func33, Try.ntmps33
    try go_wp2_with (first | ((with_reducible refine gate_dst (N := 3) rfl ?_); refine box_event ?hg (N := 3) ?hd (cs := #[.string a1_0, .int .i64 a1_1]) (t := 51) ?hr ?_; (case hd => rfl); (case hg => rfl); (case hr => go_simp); intro gb286 hg w10 hbox hb; have n0_ := Aside0.mk (below_step HB.out hb); have n1_ := Aside0.mk (hbox); have n2_ := Aside0.mk ((by rw [hg]; exact (below_size HB.out) : w.heap.size ≤ gb286)); have n3_ := Aside0.mk ((by rw [hg]; exact (below_size HB.out) : w.heap.size ≤ gb286)); clear HB; have HB := n0_; have BK286 := n1_; have GW286 := n2_; have GE286 := n3_; clear n0_ n1_ n2_ n3_; clear hb hbox hg) | ((with_reducible refine gate_callee (f := 12) rfl ?_); refine goesL_ (some 8) rfl rfl Try.func12 (by kernel_rfl) rfl #[.slice A0 l0.length c0] rfl (by simp only [List.map_toArray, List.map_cons, List.map_nil] <;> rfl) ?_; (with_reducible refine (spec_GoodIndex.calls k _ _ l0 true _ ?side1 ?side2 A3.out).mono ?_); (case side1 => exact (Kd.C_below HR0.out HB.out)); (case side2 => exact HC0.out); rintro e w11 ⟨rfl, hb⟩; refine ⟨_, rfl, ?_⟩; have n0_ := Aside0.mk (blk_below (g := gb286) (o := .cells #[.string a1_0, .int .i64 a1_1] 51 (0, 0)) BK286.out hb); have n1_ := Aside0.mk (below_step HB.out hb); clear BK286; clear HB; have BK286 := n0_; have HB := n1_; clear n0_ n1_; (try clear hb); (try clear hk); (try clear hi)))
    have n0_ := Aside0.mk (blk_drew BK286.out)
    have n1_ := Aside0.mk (below_drew1 HB.out)
    clear BK286
    clear HB
    have BK286 := n0_
    have HB := n1_
    clear n0_ n1_
    refine start_ (n := 6) (S := fun w' => w'.cell? ⟨gb286, 0, none⟩ = some (.string a1_0) ∧ w'.cell? ⟨gb286, 1, none⟩ = some (.int .i64 a1_1)) (ds := []) #[false, false, false, false, false, false] (by kernel_rfl) rfl rfl ⟨(blk_cell BK286.out 0).trans rfl, (blk_cell BK286.out 1).trans rfl⟩ (fun hHeld => ?_)
    generalize w11.drew = w12 at BK286 HB hHeld ⊢
    refine pure_ (i := 0) (N := some 10) (v := ?_) (a' := ?_) #[true, false, false, false, false, false] rfl rfl (by kernel_rfl) (fun _ _ _ h => h) (Or.inl ⟨by rfl, ?_⟩) ?_ ?_
    rotate_left
    ·intro w'
     go_simp
     with_reducible rfl
    rotate_left
    ·simp only [Act.put, List.setIfInBounds_toArray, List.set_cons_zero, List.set_cons_succ, i64_w, i32_w]
     rfl
    refine take_ (i := 2) (N := some 12) (v := ?_) (a' := ?_) #[true, false, true, false, false, false] rfl rfl (by kernel_rfl) (fun _ _ _ h => h) (Or.inl ⟨by rfl, ?_⟩) hHeld ?_ ?_
    rotate_left
    ·rintro w' ⟨s0, s1⟩
     go_simp
     with_reducible rfl
    rotate_left
    ·simp only [Act.put, List.setIfInBounds_toArray, List.set_cons_zero, List.set_cons_succ, i64_w, i32_w]
     rfl
    refine join_ (σ := Value × Value) 2 #[true, true, true, true, false, false] (fun s_ => [(11, s_.1), (13, s_.2)]) (fun s_ w' => (w'.cell? ⟨gb286, 0, none⟩ = some (.string a1_0) ∧ w'.cell? ⟨gb286, 1, none⟩ = some (.int .i64 a1_1)) ∧ (Kd.R k51 51 w' w.heap.size (fun k_ => some k_ ≠ (s_.2 : Value).ownBlock ∧ k_ ≠ gb286) s_.1 t288) ∧ (Kd.R k51 51 w' w.heap.size (fun k_ => some k_ ≠ (s_.1 : Value).ownBlock ∧ k_ ≠ gb286) s_.2 y291) ∧ (w'.heap[gb286]? = some (.cells #[.string a1_0, .int .i64 a1_1] 51 (0, 0))) ∧ (Below w.heap.size w w')) ?_ ?_
    rotate_left
    ·intro hCont
     refine two_ (i := 1) (j := 3) (Ni := some 11) (Nj := some 13) #[true, true, true, false, false, false] #[true, false, true, true, false, false] rfl rfl rfl rfl (by kernel_rfl) (by decide) (by decide) (fun K hK => ?_) (fun K hK => ?_)
     ·skip
      refine goes_ Try.func50 (by kernel_rfl) rfl #[.slice A0 l0.length c0] (by rfl) rfl rfl (by simp only [List.map_toArray, List.map_cons, List.map_nil] <;> rfl) ?_
      with_reducible refine (spec_l10Pairs.calls k _ _ l0 t288 _ ?side1 ?side2 A5.out).mono ?_
      (case side1 => exact (Kd.C_below HR0.out HB.out))
      (case side2 => exact HC0.out)
      rintro e w13 ⟨v289, rfl, ho0, hb⟩
      refine ⟨_, rfl, ?_⟩
      have n0_ := Aside0.mk (Kd.R_lower (Kd.R_newB ho0 (g := gb286) (o := .cells #[.string a1_0, .int .i64 a1_1] 51 (0, 0)) BK286.out) (below_size HB.out))
      have n1_ := Aside0.mk (blk_below (g := gb286) (o := .cells #[.string a1_0, .int .i64 a1_1] 51 (0, 0)) BK286.out hb)
      have n2_ := Aside0.mk (below_step HB.out hb)
      clear BK286
      clear HB
      have HO290 := n0_
      have BK286 := n1_
      have HB := n2_
      clear n0_ n1_ n2_
      (try clear hb)
      (try clear hb2)
      (try clear hk)
      (try clear hi)
      (try clear ho0)
      refine hK.out _ _ ⟨(blk_cell BK286.out 0).trans rfl, (blk_cell BK286.out 1).trans rfl⟩ (fun hHeld => ?_)
      clear hK K
      refine norm_ (a' := ?_) ?_ ?_
      rotate_left
      ·show Act.put _ (some 11) _ = _
       simp only [Act.put, List.setIfInBounds_toArray, List.set_cons_zero, List.set_cons_succ, i64_w, i32_w]
       rfl
      refine one_ (i := 3) (N := some 13) #[true, true, true, true, false, false] rfl rfl (by kernel_rfl) (by decide) (fun K hK => ?_)
      refine Kd.R_lit_step k51 _ 51 ?hg (N := 13) ?hd (xs := ([(⟨a1_0, a1_1⟩ : S51)] : List (S51))) (inner := [.string a1_0, .int .i64 a1_1]) (ok := fun _ => True) (okp := fun _ => True) ?hr ?hp (fun _ hk => hk) trivial (Below.refl _ _) (Nat.le_refl _) (by simp) ?_; (case hd => rfl); (case hg => rfl); (case hr => go_simp); (case hp => exact (Reps.c2 (show Kd.M k51 _ _ _ (⟨a1_0, a1_1⟩ : S51) [.string a1_0, .int .i64 a1_1] from (k51_mkM _ _ _ (⟨a1_0, a1_1⟩ : S51) )) (Reps.none _ _)))
      intro v292 w14 ho15 hb hg_ hnew_
      clear hg_ hnew_
      (first | rw [← Ny291.out] at ho15 | (simp only [Int.reduceToNat] at ho15; rw [← Ny291.out] at ho15))
      have n0_ := Aside0.mk (Kd.R_elder' HO290.out (Kd.R_base ho15) hb)
      have n1_ := Aside0.mk (Kd.R_lower (Kd.R_newB (Kd.R_new' ho15 (Kd.R_lt HO290.out)) (g := gb286) (o := .cells #[.string a1_0, .int .i64 a1_1] 51 (0, 0)) BK286.out) (below_size HB.out))
      have n2_ := Aside0.mk (blk_below (g := gb286) (o := .cells #[.string a1_0, .int .i64 a1_1] 51 (0, 0)) BK286.out hb)
      have n3_ := Aside0.mk (below_step HB.out hb)
      clear HO290
      clear BK286
      clear HB
      have HO290 := n0_
      have HO293 := n1_
      have BK286 := n2_
      have HB := n3_
      clear n0_ n1_ n2_ n3_
      clear hb ho15
      refine hK.out _ _ ⟨(blk_cell BK286.out 0).trans rfl, (blk_cell BK286.out 1).trans rfl⟩ (fun hHeld => ?_)
      clear hK K
      refine norm_ (a' := ?_) ?_ ?_
      rotate_left
      ·show Act.put _ (some 13) _ = _
       simp only [Act.put, List.setIfInBounds_toArray, List.set_cons_zero, List.set_cons_succ, i64_w, i32_w]
       rfl
      exact norm_ (by simp only [putAll, Act.put, List.setIfInBounds_toArray, List.set_cons_zero, List.set_cons_succ]) (hCont (v289, v292) _ ⟨hHeld, (by (with_reducible repeat (first | apply Kd.R_alloc | apply Kd.R_drewN | apply Kd.R_drew)); exact Kd.R_mono HO290.out (fun _ hk => ⟨hk.2, hk.1.2⟩)), (by (with_reducible repeat (first | apply Kd.R_alloc | apply Kd.R_drewN | apply Kd.R_drew)); exact Kd.R_mono HO293.out (fun _ hk => ⟨hk.1.2, hk.2⟩)), BK286.out, HB.out⟩)
     ·skip
      refine Kd.R_lit_step k51 _ 51 ?hg (N := 13) ?hd (xs := ([(⟨a1_0, a1_1⟩ : S51)] : List (S51))) (inner := [.string a1_0, .int .i64 a1_1]) (ok := fun _ => True) (okp := fun _ => True) ?hr ?hp (fun _ hk => hk) trivial (Below.refl _ _) (Nat.le_refl _) (by simp) ?_; (case hd => rfl); (case hg => rfl); (case hr => go_simp); (case hp => exact (Reps.c2 (show Kd.M k51 _ _ _ (⟨a1_0, a1_1⟩ : S51) [.string a1_0, .int .i64 a1_1] from (k51_mkM _ _ _ (⟨a1_0, a1_1⟩ : S51) )) (Reps.none _ _)))
      intro v292 w13 ho14 hb hg_ hnew_
      clear hg_ hnew_
      (first | rw [← Ny291.out] at ho14 | (simp only [Int.reduceToNat] at ho14; rw [← Ny291.out] at ho14))
      have n0_ := Aside0.mk (Kd.R_lower (Kd.R_newB ho14 (g := gb286) (o := .cells #[.string a1_0, .int .i64 a1_1] 51 (0, 0)) BK286.out) (below_size HB.out))
      have n1_ := Aside0.mk (blk_below (g := gb286) (o := .cells #[.string a1_0, .int .i64 a1_1] 51 (0, 0)) BK286.out hb)
      have n2_ := Aside0.mk (below_step HB.out hb)
      clear BK286
      clear HB
      have HO293 := n0_
      have BK286 := n1_
      have HB := n2_
      clear n0_ n1_ n2_
      clear hb ho14
      refine hK.out _ _ ⟨(blk_cell BK286.out 0).trans rfl, (blk_cell BK286.out 1).trans rfl⟩ (fun hHeld => ?_)
      clear hK K
      refine norm_ (a' := ?_) ?_ ?_
      rotate_left
      ·show Act.put _ (some 13) _ = _
       simp only [Act.put, List.setIfInBounds_toArray, List.set_cons_zero, List.set_cons_succ, i64_w, i32_w]
       rfl
      refine one_ (i := 1) (N := some 11) #[true, true, true, true, false, false] rfl rfl (by kernel_rfl) (by decide) (fun K hK => ?_)
      refine goes_ Try.func50 (by kernel_rfl) rfl #[.slice A0 l0.length c0] (by rfl) rfl rfl (by simp only [List.map_toArray, List.map_cons, List.map_nil] <;> rfl) ?_
      with_reducible refine (spec_l10Pairs.calls k _ _ l0 t288 _ ?side1 ?side2 A5.out).mono ?_
      (case side1 => exact (Kd.C_below HR0.out HB.out))
      (case side2 => exact HC0.out)
      rintro e w15 ⟨v289, rfl, ho0, hb⟩
      refine ⟨_, rfl, ?_⟩
      have n0_ := Aside0.mk (Kd.R_elder' HO293.out (Kd.R_base ho0) hb)
      have n1_ := Aside0.mk (Kd.R_lower (Kd.R_newB (Kd.R_new' ho0 (Kd.R_lt HO293.out)) (g := gb286) (o := .cells #[.string a1_0, .int .i64 a1_1] 51 (0, 0)) BK286.out) (below_size HB.out))
      have n2_ := Aside0.mk (blk_below (g := gb286) (o := .cells #[.string a1_0, .int .i64 a1_1] 51 (0, 0)) BK286.out hb)
      have n3_ := Aside0.mk (below_step HB.out hb)
      clear HO293
      clear BK286
      clear HB
      have HO293 := n0_
      have HO290 := n1_
      have BK286 := n2_
      have HB := n3_
      clear n0_ n1_ n2_ n3_
      (try clear hb)
      (try clear hb2)
      (try clear hk)
      (try clear hi)
      (try clear ho0)
      refine hK.out _ _ ⟨(blk_cell BK286.out 0).trans rfl, (blk_cell BK286.out 1).trans rfl⟩ (fun hHeld => ?_)
      clear hK K
      refine norm_ (a' := ?_) ?_ ?_
      rotate_left
      ·show Act.put _ (some 11) _ = _
       simp only [Act.put, List.setIfInBounds_toArray, List.set_cons_zero, List.set_cons_succ, i64_w, i32_w]
       rfl
      exact norm_ (by simp only [putAll, Act.put, List.setIfInBounds_toArray, List.set_cons_zero, List.set_cons_succ]) (hCont (v289, v292) _ ⟨hHeld, (by (with_reducible repeat (first | apply Kd.R_alloc | apply Kd.R_drewN | apply Kd.R_drew)); exact Kd.R_mono HO290.out (fun _ hk => ⟨hk.1.2, hk.2⟩)), (by (with_reducible repeat (first | apply Kd.R_alloc | apply Kd.R_drewN | apply Kd.R_drew)); exact Kd.R_mono HO293.out (fun _ hk => ⟨hk.2, hk.1.2⟩)), BK286.out, HB.out⟩)
    rintro ⟨v289, v292⟩ w16 ⟨hS_, h0_, h1_, h2_, h3_⟩
    have n0_ : Aside0 (Kd.R k51 51 w16 w.heap.size (fun k_ => some k_ ≠ (v292 : Value).ownBlock ∧ k_ ≠ gb286) v289 t288) := ⟨h0_⟩
    have n1_ : Aside0 (Kd.R k51 51 w16 w.heap.size (fun k_ => some k_ ≠ (v289 : Value).ownBlock ∧ k_ ≠ gb286) v292 y291) := ⟨h1_⟩
    have n2_ : Aside0 (w16.heap[gb286]? = some (.cells #[.string a1_0, .int .i64 a1_1] 51 (0, 0))) := ⟨h2_⟩
    have n3_ : Aside0 (Below w.heap.size w w16) := ⟨h3_⟩
    clear BK286
    clear HB
    clear h0_ h1_ h2_ h3_
    have HO290 := n0_
    have HO293 := n1_
    have BK286 := n2_
    have HB := n3_
    clear n0_ n1_ n2_ n3_
    have hHeld : w16.cell? ⟨gb286, 0, none⟩ = some (.string a1_0) ∧ w16.cell? ⟨gb286, 1, none⟩ = some (.int .i64 a1_1) := hS_
    obtain ⟨Ao18, co18, eo18⟩ := Kd.R_slice HO293.out
    (first | subst eo18 | (injection eo18 with f1_ f2_ f3_; have f4_ := f1_.symm; have f5_ := f3_.symm; clear f1_ f2_ f3_; subst f4_; subst f5_))
    refine norm_ (a' := ?_) ?_ ?_
    rotate_left
    ·simp only [putAll, Act.put, List.setIfInBounds_toArray, List.set_cons_zero, List.set_cons_succ]
     rfl
    refine one_ (i := 4) (N := some 14) #[true, true, true, true, true, false] rfl rfl (by kernel_rfl) (by decide) (fun K hK => ?_)
    refine Kd.R_append_rows_step k51 (w0 := w) w.heap.size (by rfl) (.tmp 11) (.tmp 13) 33 51 (.agg #[(.string ⟨#[]⟩), (.int .i64 0)]) 24 rfl Try.underlying33 info51 rfl (by decide) (by omega) v289 t288 y291 _ _ _ (fun k_ => some k_ ≠ (.slice Ao18 y291.length co18 : Value).ownBlock ∧ k_ ≠ gb286) (fun _ => False) rfl rfl ?aO ?aR (fun _ _ h => h) (fun _ h => h.elim) ?aF ?aB ?aS ?aL ?_
    (case aR => exact (Kd.R_reads' HO293.out).2.2)
    (case aB => exact HB.out)
    (case aF => exact (fun k_ hk => ⟨Kd.fresh' (Kd.R_lt HO293.out) k_ hk, Kd.freshB (g := gb286) (o := .cells #[.string a1_0, .int .i64 a1_1] 51 (0, 0)) BK286.out k_ hk⟩))
    (case aO => exact HO290.out)
    (case aS => exact (below_size HB.out))
    (case aL => have := LMc6.out; omega)
    intro v295 w17 ho hb hg hat
    rw [← Ny294.out] at ho
    have n0_ := Aside0.mk (blk_grown (g := gb286) (o := .cells #[.string a1_0, .int .i64 a1_1] 51 (0, 0)) BK286.out hg (Kd.R_away HO290.out (fun _ hk => hk.2)))
    have n1_ := Aside0.mk (Kd.R_after (ok := (fun k_ => k_ ≠ gb286)) (by (with_reducible repeat (first | apply Kd.R_alloc | apply Kd.R_drewN | apply Kd.R_drew)); exact Kd.R_mono HO293.out (fun _ hk => ⟨hk.2, hk.1⟩)) hg hat)
    have n2_ := Aside0.mk (hb)
    have n3_ := Aside0.mk (ho)
    clear BK286
    clear HO293
    clear HB
    clear HO290
    have BK286 := n0_
    have HO293 := n1_
    have HB := n2_
    have HO296 := n3_
    clear n0_ n1_ n2_ n3_
    clear ho hb hg hat
    refine hK.out _ _ ⟨(blk_cell BK286.out 0).trans rfl, (blk_cell BK286.out 1).trans rfl⟩ (fun hHeld => ?_)
    clear hK K
    refine norm_ (a' := ?_) ?_ ?_
    rotate_left
    ·show Act.put _ (some 14) _ = _
     simp only [Act.put, List.setIfInBounds_toArray, List.set_cons_zero, List.set_cons_succ, i64_w, i32_w]
     rfl
    refine pure_ (i := 5) (N := some 6) (v := ?_) (a' := ?_) #[true, true, true, true, true, true] rfl rfl (by kernel_rfl) (fun _ _ _ h => h) (Or.inl ⟨by rfl, ?_⟩) ?_ ?_
    rotate_left
    ·intro w'
     go_simp
     with_reducible rfl
    rotate_left
    ·simp only [Act.put, List.setIfInBounds_toArray, List.set_cons_zero, List.set_cons_succ, i64_w, i32_w]
     rfl
    refine done_ (by kernel_rfl) ?_
    obtain ⟨Ao19, co19, eo19⟩ := Kd.R_slice HO296.out
    subst eo19
    try go_wp2_with (first | ((with_reducible refine gate_callee (f := 51) rfl ?_); refine goesL_ (some 16) rfl rfl Try.func51 (by kernel_rfl) rfl #[.slice Ao19 y294.length co19] rfl (by simp only [List.map_toArray, List.map_cons, List.map_nil] <;> rfl) ?_; (with_reducible refine (spec_GoodPairs.calls k _ _ y294 true _ ?side1 ?side2 A7.out).mono ?_); (case side1 => exact (Kd.R_reads' HO296.out).2.2); (case side2 => exact (Kd.R_reads' HO296.out).2.1); rintro e w20 ⟨rfl, hb⟩; refine ⟨_, rfl, ?_⟩; have n0_ := Aside0.mk (Kd.R_below HO293.out hb); have n1_ := Aside0.mk (Kd.R_below HO296.out hb); have n2_ := Aside0.mk (blk_below (g := gb286) (o := .cells #[.string a1_0, .int .i64 a1_1] 51 (0, 0)) BK286.out hb); have n3_ := Aside0.mk (below_step HB.out hb); clear HO293; clear HO296; clear BK286; clear HB; have HO293 := n0_; have HO296 := n1_; have BK286 := n2_; have HB := n3_; clear n0_ n1_ n2_ n3_; (try clear hb); (try clear hk); (try clear hi)) | ((with_reducible refine gate_callee (f := 53) rfl ?_); refine goesL_ (some 19) rfl rfl Try.func53 (by kernel_rfl) rfl #[.slice Ao19 y294.length co19] rfl (by simp only [List.map_toArray, List.map_cons, List.map_nil] <;> rfl) ?_; (with_reducible refine (spec_l10Index.calls k _ _ y294 t298 _ ?side1 ?side2 A9.out).mono ?_); (case side1 => exact (Kd.R_reads' HO296.out).2.2); (case side2 => exact (Kd.R_reads' HO296.out).2.1); rintro e w21 ⟨v299, rfl, ho0, hb⟩; refine ⟨_, rfl, ?_⟩; have n0_ := Aside0.mk (Kd.R_below HO293.out hb); have n1_ := Aside0.mk (Kd.R_below HO296.out hb); have n2_ := Aside0.mk (Kd.S_lower ho0 (below_size HB.out)); have n3_ := Aside0.mk (blk_below (g := gb286) (o := .cells #[.string a1_0, .int .i64 a1_1] 51 (0, 0)) BK286.out hb); have n4_ := Aside0.mk (below_step HB.out hb); clear HO293; clear HO296; clear BK286; clear HB; have HO293 := n0_; have HO296 := n1_; have HO300 := n2_; have BK286 := n3_; have HB := n4_; clear n0_ n1_ n2_ n3_ n4_; (try clear hb); (try clear hk); (try clear hi); (try clear ho0)))
    go_ret2
    exact ⟨_, by first | rfl | (simp [errW_none, errW_some] <;> rfl) | (simp [*, errW_none, errW_some] <;> rfl), by (with_reducible repeat (first | apply Kd.S_alloc | apply Kd.S_drewN | apply Kd.S_drew)); exact HO300.out, by exact HB.out⟩
   ·replace c8 := Bool.eq_false_iff.mpr c8
    subst c8
    have H1 : (some (([] : List (S74)), false)) = some (r1, r2) := by rw [if_neg (show ¬ (false = true) by decide)] at H; exact H
    clear H
    have H := H1
    clear H1
    simp only [Option.some.injEq, Prod.mk.injEq] at H
    obtain ⟨rfl, rfl⟩ := H
    go_enter Try.func33, Try.ntmps33
    try go_wp2_with (first | ((with_reducible refine gate_dst (N := 3) rfl ?_); refine box_event ?hg (N := 3) ?hd (cs := #[.string a1_0, .int .i64 a1_1]) (t := 51) ?hr ?_; (case hd => rfl); (case hg => rfl); (case hr => go_simp); intro gb286 hg w22 hbox hb; have n0_ := Aside0.mk (below_step HB.out hb); have n1_ := Aside0.mk (hbox); have n2_ := Aside0.mk ((by rw [hg]; exact (below_size HB.out) : w.heap.size ≤ gb286)); have n3_ := Aside0.mk ((by rw [hg]; exact (below_size HB.out) : w.heap.size ≤ gb286)); clear HB; have HB := n0_; have BK286 := n1_; have GW286 := n2_; have GE286 := n3_; clear n0_ n1_ n2_ n3_; clear hb hbox hg) | ((with_reducible refine gate_callee (f := 12) rfl ?_); refine goesL_ (some 8) rfl rfl Try.func12 (by kernel_rfl) rfl #[.slice A0 l0.length c0] rfl (by simp only [List.map_toArray, List.map_cons, List.map_nil] <;> rfl) ?_; (with_reducible refine (spec_GoodIndex.calls k _ _ l0 true _ ?side1 ?side2 A3.out).mono ?_); (case side1 => exact (Kd.C_below HR0.out HB.out)); (case side2 => exact HC0.out); rintro e w23 ⟨rfl, hb⟩; refine ⟨_, rfl, ?_⟩; have n0_ := Aside0.mk (blk_below (g := gb286) (o := .cells #[.string a1_0, .int .i64 a1_1] 51 (0, 0)) BK286.out hb); have n1_ := Aside0.mk (below_step HB.out hb); clear BK286; clear HB; have BK286 := n0_; have HB := n1_; clear n0_ n1_; (try clear hb); (try clear hk); (try clear hi)))
    have n0_ := Aside0.mk (blk_drew BK286.out)
    have n1_ := Aside0.mk (below_drew1 HB.out)
    clear BK286
    clear HB
    have BK286 := n0_
    have HB := n1_
    clear n0_ n1_
    refine start_ (n := 6) (S := fun w' => w'.cell? ⟨gb286, 0, none⟩ = some (.string a1_0) ∧ w'.cell? ⟨gb286, 1, none⟩ = some (.int .i64 a1_1)) (ds := []) #[false, false, false, false, false, false] (by kernel_rfl) rfl rfl ⟨(blk_cell BK286.out 0).trans rfl, (blk_cell BK286.out 1).trans rfl⟩ (fun hHeld => ?_)
    generalize w23.drew = w24 at BK286 HB hHeld ⊢
    refine pure_ (i := 0) (N := some 10) (v := ?_) (a' := ?_) #[true, false, false, false, false, false] rfl rfl (by kernel_rfl) (fun _ _ _ h => h) (Or.inl ⟨by rfl, ?_⟩) ?_ ?_
    rotate_left
    ·intro w'
     go_simp
     with_reducible rfl
    rotate_left
    ·simp only [Act.put, List.setIfInBounds_toArray, List.set_cons_zero, List.set_cons_succ, i64_w, i32_w]
     rfl
    refine take_ (i := 2) (N := some 12) (v := ?_) (a' := ?_) #[true, false, true, false, false, false] rfl rfl (by kernel_rfl) (fun _ _ _ h => h) (Or.inl ⟨by rfl, ?_⟩) hHeld ?_ ?_
    rotate_left
    ·rintro w' ⟨s0, s1⟩
     go_simp
     with_reducible rfl
    rotate_left
    ·simp only [Act.put, List.setIfInBounds_toArray, List.set_cons_zero, List.set_cons_succ, i64_w, i32_w]
     rfl
    refine join_ (σ := Value × Value) 2 #[true, true, true, true, false, false] (fun s_ => [(11, s_.1), (13, s_.2)]) (fun s_ w' => (w'.cell? ⟨gb286, 0, none⟩ = some (.string a1_0) ∧ w'.cell? ⟨gb286, 1, none⟩ = some (.int .i64 a1_1)) ∧ (Kd.R k51 51 w' w.heap.size (fun k_ => some k_ ≠ (s_.2 : Value).ownBlock ∧ k_ ≠ gb286) s_.1 t288) ∧ (Kd.R k51 51 w' w.heap.size (fun k_ => some k_ ≠ (s_.1 : Value).ownBlock ∧ k_ ≠ gb286) s_.2 y291) ∧ (w'.heap[gb286]? = some (.cells #[.string a1_0, .int .i64 a1_1] 51 (0, 0))) ∧ (Below w.heap.size w w')) ?_ ?_
    rotate_left
    ·intro hCont
     refine two_ (i := 1) (j := 3) (Ni := some 11) (Nj := some 13) #[true, true, true, false, false, false] #[true, false, true, true, false, false] rfl rfl rfl rfl (by kernel_rfl) (by decide) (by decide) (fun K hK => ?_) (fun K hK => ?_)
     ·skip
      refine goes_ Try.func50 (by kernel_rfl) rfl #[.slice A0 l0.length c0] (by rfl) rfl rfl (by simp only [List.map_toArray, List.map_cons, List.map_nil] <;> rfl) ?_
      with_reducible refine (spec_l10Pairs.calls k _ _ l0 t288 _ ?side1 ?side2 A5.out).mono ?_
      (case side1 => exact (Kd.C_below HR0.out HB.out))
      (case side2 => exact HC0.out)
      rintro e w25 ⟨v289, rfl, ho0, hb⟩
      refine ⟨_, rfl, ?_⟩
      have n0_ := Aside0.mk (Kd.R_lower (Kd.R_newB ho0 (g := gb286) (o := .cells #[.string a1_0, .int .i64 a1_1] 51 (0, 0)) BK286.out) (below_size HB.out))
      have n1_ := Aside0.mk (blk_below (g := gb286) (o := .cells #[.string a1_0, .int .i64 a1_1] 51 (0, 0)) BK286.out hb)
      have n2_ := Aside0.mk (below_step HB.out hb)
      clear BK286
      clear HB
      have HO290 := n0_
      have BK286 := n1_
      have HB := n2_
      clear n0_ n1_ n2_
      (try clear hb)
      (try clear hb2)
      (try clear hk)
      (try clear hi)
      (try clear ho0)
      refine hK.out _ _ ⟨(blk_cell BK286.out 0).trans rfl, (blk_cell BK286.out 1).trans rfl⟩ (fun hHeld => ?_)
      clear hK K
      refine norm_ (a' := ?_) ?_ ?_
      rotate_left
      ·show Act.put _ (some 11) _ = _
       simp only [Act.put, List.setIfInBounds_toArray, List.set_cons_zero, List.set_cons_succ, i64_w, i32_w]
       rfl
      refine one_ (i := 3) (N := some 13) #[true, true, true, true, false, false] rfl rfl (by kernel_rfl) (by decide) (fun K hK => ?_)
      refine Kd.R_lit_step k51 _ 51 ?hg (N := 13) ?hd (xs := ([(⟨a1_0, a1_1⟩ : S51)] : List (S51))) (inner := [.string a1_0, .int .i64 a1_1]) (ok := fun _ => True) (okp := fun _ => True) ?hr ?hp (fun _ hk => hk) trivial (Below.refl _ _) (Nat.le_refl _) (by simp) ?_; (case hd => rfl); (case hg => rfl); (case hr => go_simp); (case hp => exact (Reps.c2 (show Kd.M k51 _ _ _ (⟨a1_0, a1_1⟩ : S51) [.string a1_0, .int .i64 a1_1] from (k51_mkM _ _ _ (⟨a1_0, a1_1⟩ : S51) )) (Reps.none _ _)))
      intro v292 w26 ho27 hb hg_ hnew_
      clear hg_ hnew_
      (first | rw [← Ny291.out] at ho27 | (simp only [Int.reduceToNat] at ho27; rw [← Ny291.out] at ho27))
      have n0_ := Aside0.mk (Kd.R_elder' HO290.out (Kd.R_base ho27) hb)
      have n1_ := Aside0.mk (Kd.R_lower (Kd.R_newB (Kd.R_new' ho27 (Kd.R_lt HO290.out)) (g := gb286) (o := .cells #[.string a1_0, .int .i64 a1_1] 51 (0, 0)) BK286.out) (below_size HB.out))
      have n2_ := Aside0.mk (blk_below (g := gb286) (o := .cells #[.string a1_0, .int .i64 a1_1] 51 (0, 0)) BK286.out hb)
      have n3_ := Aside0.mk (below_step HB.out hb)
      clear HO290
      clear BK286
      clear HB
      have HO290 := n0_
      have HO293 := n1_
      have BK286 := n2_
      have HB := n3_
      clear n0_ n1_ n2_ n3_
      clear hb ho27
      refine hK.out _ _ ⟨(blk_cell BK286.out 0).trans rfl, (blk_cell BK286.out 1).trans rfl⟩ (fun hHeld => ?_)
      clear hK K
      refine norm_ (a' := ?_) ?_ ?_
      rotate_left
      ·show Act.put _ (some 13) _ = _
       simp only [Act.put, List.setIfInBounds_toArray, List.set_cons_zero, List.set_cons_succ, i64_w, i32_w]
       rfl
      exact norm_ (by simp only [putAll, Act.put, List.setIfInBounds_toArray, List.set_cons_zero, List.set_cons_succ]) (hCont (v289, v292) _ ⟨hHeld, (by (with_reducible repeat (first | apply Kd.R_alloc | apply Kd.R_drewN | apply Kd.R_drew)); exact Kd.R_mono HO290.out (fun _ hk => ⟨hk.2, hk.1.2⟩)), (by (with_reducible repeat (first | apply Kd.R_alloc | apply Kd.R_drewN | apply Kd.R_drew)); exact Kd.R_mono HO293.out (fun _ hk => ⟨hk.1.2, hk.2⟩)), BK286.out, HB.out⟩)
     ·skip
      refine Kd.R_lit_step k51 _ 51 ?hg (N := 13) ?hd (xs := ([(⟨a1_0, a1_1⟩ : S51)] : List (S51))) (inner := [.string a1_0, .int .i64 a1_1]) (ok := fun _ => True) (okp := fun _ => True) ?hr ?hp (fun _ hk => hk) trivial (Below.refl _ _) (Nat.le_refl _) (by simp) ?_; (case hd => rfl); (case hg => rfl); (case hr => go_simp); (case hp => exact (Reps.c2 (show Kd.M k51 _ _ _ (⟨a1_0, a1_1⟩ : S51) [.string a1_0, .int .i64 a1_1] from (k51_mkM _ _ _ (⟨a1_0, a1_1⟩ : S51) )) (Reps.none _ _)))
      intro v292 w25 ho26 hb hg_ hnew_
      clear hg_ hnew_
      (first | rw [← Ny291.out] at ho26 | (simp only [Int.reduceToNat] at ho26; rw [← Ny291.out] at ho26))
      have n0_ := Aside0.mk (Kd.R_lower (Kd.R_newB ho26 (g := gb286) (o := .cells #[.string a1_0, .int .i64 a1_1] 51 (0, 0)) BK286.out) (below_size HB.out))
      have n1_ := Aside0.mk (blk_below (g := gb286) (o := .cells #[.string a1_0, .int .i64 a1_1] 51 (0, 0)) BK286.out hb)
      have n2_ := Aside0.mk (below_step HB.out hb)
      clear BK286
      clear HB
      have HO293 := n0_
      have BK286 := n1_
      have HB := n2_
      clear n0_ n1_ n2_
      clear hb ho26
      refine hK.out _ _ ⟨(blk_cell BK286.out 0).trans rfl, (blk_cell BK286.out 1).trans rfl⟩ (fun hHeld => ?_)
      clear hK K
      refine norm_ (a' := ?_) ?_ ?_
      rotate_left
      ·show Act.put _ (some 13) _ = _
       simp only [Act.put, List.setIfInBounds_toArray, List.set_cons_zero, List.set_cons_succ, i64_w, i32_w]
       rfl
      refine one_ (i := 1) (N := some 11) #[true, true, true, true, false, false] rfl rfl (by kernel_rfl) (by decide) (fun K hK => ?_)
      refine goes_ Try.func50 (by kernel_rfl) rfl #[.slice A0 l0.length c0] (by rfl) rfl rfl (by simp only [List.map_toArray, List.map_cons, List.map_nil] <;> rfl) ?_
      with_reducible refine (spec_l10Pairs.calls k _ _ l0 t288 _ ?side1 ?side2 A5.out).mono ?_
      (case side1 => exact (Kd.C_below HR0.out HB.out))
      (case side2 => exact HC0.out)
      rintro e w27 ⟨v289, rfl, ho0, hb⟩
      refine ⟨_, rfl, ?_⟩
      have n0_ := Aside0.mk (Kd.R_elder' HO293.out (Kd.R_base ho0) hb)
      have n1_ := Aside0.mk (Kd.R_lower (Kd.R_newB (Kd.R_new' ho0 (Kd.R_lt HO293.out)) (g := gb286) (o := .cells #[.string a1_0, .int .i64 a1_1] 51 (0, 0)) BK286.out) (below_size HB.out))
      have n2_ := Aside0.mk (blk_below (g := gb286) (o := .cells #[.string a1_0, .int .i64 a1_1] 51 (0, 0)) BK286.out hb)
      have n3_ := Aside0.mk (below_step HB.out hb)
      clear HO293
      clear BK286
      clear HB
      have HO293 := n0_
      have HO290 := n1_
      have BK286 := n2_
      have HB := n3_
      clear n0_ n1_ n2_ n3_
      (try clear hb)
      (try clear hb2)
      (try clear hk)
      (try clear hi)
      (try clear ho0)
      refine hK.out _ _ ⟨(blk_cell BK286.out 0).trans rfl, (blk_cell BK286.out 1).trans rfl⟩ (fun hHeld => ?_)
      clear hK K
      refine norm_ (a' := ?_) ?_ ?_
      rotate_left
      ·show Act.put _ (some 11) _ = _
       simp only [Act.put, List.setIfInBounds_toArray, List.set_cons_zero, List.set_cons_succ, i64_w, i32_w]
       rfl
      exact norm_ (by simp only [putAll, Act.put, List.setIfInBounds_toArray, List.set_cons_zero, List.set_cons_succ]) (hCont (v289, v292) _ ⟨hHeld, (by (with_reducible repeat (first | apply Kd.R_alloc | apply Kd.R_drewN | apply Kd.R_drew)); exact Kd.R_mono HO290.out (fun _ hk => ⟨hk.1.2, hk.2⟩)), (by (with_reducible repeat (first | apply Kd.R_alloc | apply Kd.R_drewN | apply Kd.R_drew)); exact Kd.R_mono HO293.out (fun _ hk => ⟨hk.2, hk.1.2⟩)), BK286.out, HB.out⟩)
    rintro ⟨v289, v292⟩ w28 ⟨hS_, h0_, h1_, h2_, h3_⟩
    have n0_ : Aside0 (Kd.R k51 51 w28 w.heap.size (fun k_ => some k_ ≠ (v292 : Value).ownBlock ∧ k_ ≠ gb286) v289 t288) := ⟨h0_⟩
    have n1_ : Aside0 (Kd.R k51 51 w28 w.heap.size (fun k_ => some k_ ≠ (v289 : Value).ownBlock ∧ k_ ≠ gb286) v292 y291) := ⟨h1_⟩
    have n2_ : Aside0 (w28.heap[gb286]? = some (.cells #[.string a1_0, .int .i64 a1_1] 51 (0, 0))) := ⟨h2_⟩
    have n3_ : Aside0 (Below w.heap.size w w28) := ⟨h3_⟩
    clear BK286
    clear HB
    clear h0_ h1_ h2_ h3_
    have HO290 := n0_
    have HO293 := n1_
    have BK286 := n2_
    have HB := n3_
    clear n0_ n1_ n2_ n3_
    have hHeld : w28.cell? ⟨gb286, 0, none⟩ = some (.string a1_0) ∧ w28.cell? ⟨gb286, 1, none⟩ = some (.int .i64 a1_1) := hS_
    obtain ⟨Ao30, co30, eo30⟩ := Kd.R_slice HO293.out
    (first | subst eo30 | (injection eo30 with f1_ f2_ f3_; have f4_ := f1_.symm; have f5_ := f3_.symm; clear f1_ f2_ f3_; subst f4_; subst f5_))
    refine norm_ (a' := ?_) ?_ ?_
    rotate_left
    ·simp only [putAll, Act.put, List.setIfInBounds_toArray, List.set_cons_zero, List.set_cons_succ]
     rfl
    refine one_ (i := 4) (N := some 14) #[true, true, true, true, true, false] rfl rfl (by kernel_rfl) (by decide) (fun K hK => ?_)
    refine Kd.R_append_rows_step k51 (w0 := w) w.heap.size (by rfl) (.tmp 11) (.tmp 13) 33 51 (.agg #[(.string ⟨#[]⟩), (.int .i64 0)]) 24 rfl Try.underlying33 info51 rfl (by decide) (by omega) v289 t288 y291 _ _ _ (fun k_ => some k_ ≠ (.slice Ao30 y291.length co30 : Value).ownBlock ∧ k_ ≠ gb286) (fun _ => False) rfl rfl ?aO ?aR (fun _ _ h => h) (fun _ h => h.elim) ?aF ?aB ?aS ?aL ?_
    (case aR => exact (Kd.R_reads' HO293.out).2.2)
    (case aB => exact HB.out)
    (case aF => exact (fun k_ hk => ⟨Kd.fresh' (Kd.R_lt HO293.out) k_ hk, Kd.freshB (g := gb286) (o := .cells #[.string a1_0, .int .i64 a1_1] 51 (0, 0)) BK286.out k_ hk⟩))
    (case aO => exact HO290.out)
    (case aS => exact (below_size HB.out))
    (case aL => have := LMc6.out; omega)
    intro v295 w29 ho hb hg hat
    rw [← Ny294.out] at ho
    have n0_ := Aside0.mk (blk_grown (g := gb286) (o := .cells #[.string a1_0, .int .i64 a1_1] 51 (0, 0)) BK286.out hg (Kd.R_away HO290.out (fun _ hk => hk.2)))
    have n1_ := Aside0.mk (Kd.R_after (ok := (fun k_ => k_ ≠ gb286)) (by (with_reducible repeat (first | apply Kd.R_alloc | apply Kd.R_drewN | apply Kd.R_drew)); exact Kd.R_mono HO293.out (fun _ hk => ⟨hk.2, hk.1⟩)) hg hat)
    have n2_ := Aside0.mk (hb)
    have n3_ := Aside0.mk (ho)
    clear BK286
    clear HO293
    clear HB
    clear HO290
    have BK286 := n0_
    have HO293 := n1_
    have HB := n2_
    have HO296 := n3_
    clear n0_ n1_ n2_ n3_
    clear ho hb hg hat
    refine hK.out _ _ ⟨(blk_cell BK286.out 0).trans rfl, (blk_cell BK286.out 1).trans rfl⟩ (fun hHeld => ?_)
    clear hK K
    refine norm_ (a' := ?_) ?_ ?_
    rotate_left
    ·show Act.put _ (some 14) _ = _
     simp only [Act.put, List.setIfInBounds_toArray, List.set_cons_zero, List.set_cons_succ, i64_w, i32_w]
     rfl
    refine pure_ (i := 5) (N := some 6) (v := ?_) (a' := ?_) #[true, true, true, true, true, true] rfl rfl (by kernel_rfl) (fun _ _ _ h => h) (Or.inl ⟨by rfl, ?_⟩) ?_ ?_
    rotate_left
    ·intro w'
     go_simp
     with_reducible rfl
    rotate_left
    ·simp only [Act.put, List.setIfInBounds_toArray, List.set_cons_zero, List.set_cons_succ, i64_w, i32_w]
     rfl
    refine done_ (by kernel_rfl) ?_
    obtain ⟨Ao31, co31, eo31⟩ := Kd.R_slice HO296.out
    subst eo31
    try go_wp2_with (first | ((with_reducible refine gate_callee (f := 51) rfl ?_); refine goesL_ (some 16) rfl rfl Try.func51 (by kernel_rfl) rfl #[.slice Ao31 y294.length co31] rfl (by simp only [List.map_toArray, List.map_cons, List.map_nil] <;> rfl) ?_; (with_reducible refine (spec_GoodPairs.calls k _ _ y294 false _ ?side1 ?side2 A7.out).mono ?_); (case side1 => exact (Kd.R_reads' HO296.out).2.2); (case side2 => exact (Kd.R_reads' HO296.out).2.1); rintro e w32 ⟨rfl, hb⟩; refine ⟨_, rfl, ?_⟩; have n0_ := Aside0.mk (Kd.R_below HO293.out hb); have n1_ := Aside0.mk (Kd.R_below HO296.out hb); have n2_ := Aside0.mk (blk_below (g := gb286) (o := .cells #[.string a1_0, .int .i64 a1_1] 51 (0, 0)) BK286.out hb); have n3_ := Aside0.mk (below_step HB.out hb); clear HO293; clear HO296; clear BK286; clear HB; have HO293 := n0_; have HO296 := n1_; have BK286 := n2_; have HB := n3_; clear n0_ n1_ n2_ n3_; (try clear hb); (try clear hk); (try clear hi)))
    go_ret2
    exact ⟨_, by first | rfl | (simp [errW_none, errW_some] <;> rfl) | (simp [*, errW_none, errW_some] <;> rfl), by first | exact Kd.S_nil _ _ _ _ _ | exact Kd.N_nil _ _ _ _ _ | exact Kd.V_nil _ _ _ _ _ | exact Kd.Q_nil _ _ _ _ _ | exact Kd.R_nil _ _ _ _ _, by exact HB.out⟩
  ·rw [if_neg c6] at H
   exact absurd H (by simp)
 ·replace c4 := Bool.eq_false_iff.mpr c4
  subst c4
  have H1 : (some (([] : List (S74)), false)) = some (r1, r2) := by rw [if_neg (show ¬ (false = true) by decide)] at H; exact H
  clear H
  have H := H1
  clear H1
  simp only [Option.some.injEq, Prod.mk.injEq] at H
  obtain ⟨rfl, rfl⟩ := H
  go_enter Try.func33, Try.ntmps33
  go_wp2_with (first | ((with_reducible refine gate_dst (N := 3) rfl ?_); refine box_event ?hg (N := 3) ?hd (cs := #[.string a1_0, .int .i64 a1_1]) (t := 51) ?hr ?_; (case hd => rfl); (case hg => rfl); (case hr => go_simp); intro gb286 hg w33 hbox hb; have n0_ := Aside0.mk (below_step HB.out hb); have n1_ := Aside0.mk (hbox); have n2_ := Aside0.mk ((by rw [hg]; exact (below_size HB.out) : w.heap.size ≤ gb286)); have n3_ := Aside0.mk ((by rw [hg]; exact (below_size HB.out) : w.heap.size ≤ gb286)); clear HB; have HB := n0_; have BK286 := n1_; have GW286 := n2_; have GE286 := n3_; clear n0_ n1_ n2_ n3_; clear hb hbox hg) | ((with_reducible refine gate_callee (f := 12) rfl ?_); refine goesL_ (some 8) rfl rfl Try.func12 (by kernel_rfl) rfl #[.slice A0 l0.length c0] rfl (by simp only [List.map_toArray, List.map_cons, List.map_nil] <;> rfl) ?_; (with_reducible refine (spec_GoodIndex.calls k _ _ l0 false _ ?side1 ?side2 A3.out).mono ?_); (case side1 => exact (Kd.C_below HR0.out HB.out)); (case side2 => exact HC0.out); rintro e w34 ⟨rfl, hb⟩; refine ⟨_, rfl, ?_⟩; have n0_ := Aside0.mk (blk_below (g := gb286) (o := .cells #[.string a1_0, .int .i64 a1_1] 51 (0, 0)) BK286.out hb); have n1_ := Aside0.mk (below_step HB.out hb); clear BK286; clear HB; have BK286 := n0_; have HB := n1_; clear n0_ n1_; (try clear hb); (try clear hk); (try clear hi)))
  go_ret2
  exact ⟨_, by first | rfl | (simp [errW_none, errW_some] <;> rfl) | (simp [*, errW_none, errW_some] <;> rfl), by first | exact Kd.S_nil _ _ _ _ _ | exact Kd.N_nil _ _ _ _ _ | exact Kd.V_nil _ _ _ _ _ | exact Kd.Q_nil _ _ _ _ _ | exact Kd.R_nil _ _ _ _ _, by exact HB.out⟩
end
end Go.Proofs.Ytkkphbjemnifiaa.PFnIndex
