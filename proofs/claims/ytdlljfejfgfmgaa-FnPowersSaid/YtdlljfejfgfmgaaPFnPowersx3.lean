-- Printed for this claim by a changed copy of the kit's printing program (wip/tools/patch_print.py); Lean checks it.
import Derived.Test.YtdlljfejfgfmgaaPFnPowersx0
import Derived.Test.YtdlljfejfgfmgaaPFnPowersx1
namespace Go.Proofs.Ytdlljfejfgfmgaa.PFnPowers
open Go.RowKit Go.Proofs.YtdlljfejfgfmgaaW.PrintWords Go.Proofs.YtdlljfejfgfmgaaW.PrintLast Go.Proofs.YtdlljfejfgfmgaaW.PrintMore
attribute [local go_sem] max2_int min2_int max_two min_two max_three min_three max_four min_four   -- for this text's walks alone
set_option linter.unusedVariables false
set_option linter.unusedSimpArgs false

noncomputable section
/-! ### impl_BothEuclid: function 15 -/
mutual
def impl_BothEuclid.l0 : Nat → List Int → List Int → Option (Int × Int × Int × Bool)
  | 0, _, _ => none
  | k + 1, F, S => if rd S 0 = 0 then (some (rd F 0, rd F 1, rd F 2, true)) else (impl_BothEuclid.l1 k (wrap64 (Int.tdiv (rd F 0) (rd S 0))) F S 0)
def impl_BothEuclid.l1 : Nat → Int → List Int → List Int → Nat → Option (Int × Int × Int × Bool)
  | 0, _, _, _, _ => none
  | k + 1, q, F, S, i => if i < 3 then (impl_BothEuclid.l1 k q (F.set i (rd S i)) (S.set i (wrap64 (rd F i - wrap64 (q * rd S i)))) (i + 1)) else (impl_BothEuclid.l0 k F S)
end
def impl_BothEuclid.f (k : Nat) (a0 : Int) (a1 : Int) : Option (Int × Int × Int × Bool) := (impl_within.f a0 0 1000000).bind fun t1 => (if t1 = true then ((impl_within.f a1 0 1000000).bind fun t2 => (if t2 = true then (if a0 = 0 then (if a1 = 0 then (some (0, 0, 0, false)) else (impl_BothEuclid.l0 k [a0, 1, 0] [a1, 0, 1])) else (impl_BothEuclid.l0 k [a0, 1, 0] [a1, 0, 1])) else (some (0, 0, 0, false)))) else (some (0, 0, 0, false)))
theorem impl_BothEuclid.mono_l : ∀ k, (∀ y0 y1, LeO (impl_BothEuclid.l0 k y0 y1) (impl_BothEuclid.l0 (k + 1) y0 y1)) ∧ (∀ y0 y1 y2 y3, LeO (impl_BothEuclid.l1 k y0 y1 y2 y3) (impl_BothEuclid.l1 (k + 1) y0 y1 y2 y3))
  | 0 => ⟨fun _ _ r h => by simp [impl_BothEuclid.l0] at h, fun _ _ _ _ r h => by simp [impl_BothEuclid.l1] at h⟩
  | k + 1 => by
    obtain ⟨ih0, ih1⟩ := impl_BothEuclid.mono_l k
    refine ⟨?_, ?_⟩
    · intro y0 y1
      unfold impl_BothEuclid.l0
      refine LeO.ite (LeO.refl _) (ih1 _ _ _ _)
    · intro y0 y1 y2 y3
      unfold impl_BothEuclid.l1
      refine LeO.ite (ih1 _ _ _ _) (ih0 _ _)
theorem impl_BothEuclid.mono : ∀ a0 a1 k, LeO (impl_BothEuclid.f k a0 a1) (impl_BothEuclid.f (k + 1) a0 a1) := by
  intro a0 a1 k
  have ih0 := (impl_BothEuclid.mono_l k).1
  unfold impl_BothEuclid.f
  refine LeO.bind (LeO.refl _) (fun _ => LeO.ite (LeO.bind (LeO.refl _) (fun _ => LeO.ite (LeO.ite (LeO.ite (LeO.refl _) (ih0 _ _)) (ih0 _ _)) (LeO.refl _))) (LeO.refl _))
def impl_BothEuclid.cells (F : List Int) : Array Value := (F.map (Value.int .i64)).toArray
theorem impl_BothEuclid.cell (F : List Int) (i : Nat) (h : i < F.length) : (impl_BothEuclid.cells F)[i]? = some (.int .i64 (rd F i)) := by
  simp [impl_BothEuclid.cells, rd, List.getD_eq_getElem?_getD, h]
theorem impl_BothEuclid.set (F : List Int) (i : Nat) (v : Int) : (impl_BothEuclid.cells F).setIfInBounds i (.int .i64 v) = impl_BothEuclid.cells (F.set i v) := by
  simp [impl_BothEuclid.cells, List.map_set]
theorem impl_BothEuclid.exec3 {W : World} {o : Oper} {a : Act} {p : Tmp} {v : Operand} {g : Nat} {x0 x1 x2 : Value} {y0 y1 y2 : Int} (ho : o.op = .store 72 (.tmp p) v) (hp : a.eval (.tmp p) = .pointer (some ⟨g, 0, none⟩)) (hv : a.eval v = .agg #[.int .i64 y0, .int .i64 y1, .int .i64 y2]) (hB : W.heap[g]? = some (.cells #[x0, x1, x2] 72 (0, 0))) :
    (execOp a.eval o).run Try.prog W = .ok .skip (((W.setCell ⟨g, 0, none⟩ (.int .i64 y0)).setCell ⟨g, 1, none⟩ (.int .i64 y1)).setCell ⟨g, 2, none⟩ (.int .i64 y2)) := by
  have c0 := blk_cell hB 0
  have z0 := blk_frozen hB 0
  have q1 := blk_set hB 0 (.int .i64 y0)
  have c1 := blk_cell q1 1
  have z1 := blk_frozen q1 1
  have q2 := blk_set q1 1 (.int .i64 y1)
  have c2 := blk_cell q2 2
  have z2 := blk_frozen q2 2
  simp at c0 c1 c2
  clear q1 q2 hB
  unfold execOp
  rw [ho]
  dsimp only
  rw [hp, hv]
  go_simp
set_option maxHeartbeats 8000000 in
set_option maxRecDepth 100000 in
theorem impl_BothEuclid.body (k : Nat) (a b : Int) (r1 r2 r3 : Int) (r4 : Bool) (w : World) (h1 : (impl_within.f a 0 1000000) = some true) (h2 : (impl_within.f b 0 1000000) = some true) (hz : (a == 0) = false) (h : impl_BothEuclid.l0 k [a, 1, 0] [b, 0, 1] = some (r1, r2, r3, r4)) :
    Calls Try.prog 15 #[.int .i64 a, .int .i64 b] w fun e w' => e = .returned (.tuple #[.int .i64 r1, .int .i64 r2, .int .i64 r3, .bool r4]) ∧ Below w.heap.size w w' := by
  have H1 := Aside0.mk h1
  have H2 := Aside0.mk h2
  have H' := Aside0.mk h
  clear h1 h2 h
  have HB := Aside0.mk (Below.refl w.heap.size w)
  go_enter Try.func15, Try.ntmps15
  go_wp2_with (first | (go_at_call 59; (with_reducible refine (impl_within.calls a 0 1000000 true _ H1.out).mono ?_); rintro e w' ⟨rfl, ⟨nd, rfl⟩⟩) | (go_at_call 59; (with_reducible refine (impl_within.calls b 0 1000000 true _ H2.out).mono ?_); rintro e w' ⟨rfl, ⟨nd, rfl⟩⟩) | ((with_reducible refine gate_dst (N := 8) rfl ?_); refine box_event ?hg (N := 8) ?hd (cs := #[.int .i64 0, .int .i64 0, .int .i64 0]) (t := 72) ?hr ?_; (case hd => rfl); (case hg => rfl); (case hr => first | (go_simp; done) | (go_simp; rfl)); intro g1 hg w2 hbox hb; have n0_ := Aside0.mk (below_step (by repeat (first | (with_reducible first | exact HB.out | apply below_alloc | apply pw_below_drewN | apply below_drew1) | exact HB.out)) hb); have n1_ := Aside0.mk hbox; have n2_ := Aside0.mk ((by rw [hg]; exact (below_size (by repeat (first | (with_reducible first | exact HB.out | apply below_alloc | apply pw_below_drewN | apply below_drew1) | exact HB.out))) : w.heap.size ≤ g1)); clear HB hb hbox hg; have HB := n0_; have BF := n1_; have GF := n2_; clear n0_ n1_ n2_) | ((with_reducible refine gate_dst (N := 9) rfl ?_); refine box_event ?hg (N := 9) ?hd (cs := #[.int .i64 0, .int .i64 0, .int .i64 0]) (t := 72) ?hr ?_; (case hd => rfl); (case hg => rfl); (case hr => first | (go_simp; done) | (go_simp; rfl)); intro g2 hg w3 hbox hb; have n0_ := Aside0.mk (below_step (by repeat (first | (with_reducible first | exact HB.out | apply below_alloc | apply pw_below_drewN | apply below_drew1) | exact HB.out)) hb); have n1_ := Aside0.mk hbox; have n2_ := Aside0.mk ((by rw [hg]; exact (below_size (by repeat (first | (with_reducible first | exact HB.out | apply below_alloc | apply pw_below_drewN | apply below_drew1) | exact HB.out))) : w.heap.size ≤ g2)); have n3_ := Aside0.mk (blk_below BF.out hb); have n4_ := Aside0.mk ((by rw [hg]; exact Nat.ne_of_lt (blk_lt BF.out)) : g1 ≠ g2); clear HB BF hb hbox hg; have HB := n0_; have BS := n1_; have GS := n2_; have BF := n3_; have NE := n4_; clear n0_ n1_ n2_ n3_ n4_) | ((with_reducible refine gate_store (p := 8) rfl ?_); refine store_event (p := 8) rfl rfl rfl (impl_BothEuclid.exec3 rfl rfl rfl BF.out) ?_; intro w4 hw; have n0_ := Aside0.mk ((by rw [hw]; exact (blk_set (blk_set (blk_set BF.out 0 _) 1 _) 2 _).trans rfl) : w4.heap[g1]? = some (.cells (impl_BothEuclid.cells [a, 1, 0]) 72 (0, 0))); have n1_ := Aside0.mk ((by rw [hw]; exact blk_far (blk_far (blk_far BS.out NE.out.symm _) NE.out.symm _) NE.out.symm _) : w4.heap[g2]? = some (.cells #[.int .i64 0, .int .i64 0, .int .i64 0] 72 (0, 0))); have n2_ := Aside0.mk ((by rw [hw]; exact below_set (below_set (below_set HB.out GF.out) GF.out) GF.out) : Below w.heap.size w w4); clear hw HB BF BS; have HB := n2_; have BF := n0_; have BS := n1_; clear n0_ n1_ n2_) | ((with_reducible refine gate_store (p := 9) rfl ?_); refine store_event (p := 9) rfl rfl rfl (impl_BothEuclid.exec3 rfl rfl rfl BS.out) ?_; intro w5 hw; have n0_ := Aside0.mk ((by rw [hw]; exact (blk_set (blk_set (blk_set BS.out 0 _) 1 _) 2 _).trans rfl) : w5.heap[g2]? = some (.cells (impl_BothEuclid.cells [b, 0, 1]) 72 (0, 0))); have n1_ := Aside0.mk ((by rw [hw]; exact blk_far (blk_far (blk_far BF.out NE.out _) NE.out _) NE.out _) : w5.heap[g1]? = some (.cells (impl_BothEuclid.cells [a, 1, 0]) 72 (0, 0))); have n2_ := Aside0.mk ((by rw [hw]; exact below_set (below_set (below_set HB.out GS.out) GS.out) GS.out) : Below w.heap.size w w5); clear hw HB BS BF; have HB := n2_; have BS := n0_; have BF := n1_; clear n0_ n1_ n2_))
  simp only [Act.put, List.setIfInBounds_toArray, List.set_cons_zero, List.set_cons_succ]
  go_loopg [] k (fun kq w' => ∃ (F S : List Int), F.length = 3 ∧ S.length = 3 ∧ Aside0 (impl_BothEuclid.l0 kq F S = some (r1, r2, r3, r4)) ∧ Aside0 (kq ≤ k) ∧ Aside0 (w'.heap[g1]? = some (.cells (impl_BothEuclid.cells F) 72 (0, 0))) ∧ Aside0 (w'.heap[g2]? = some (.cells (impl_BothEuclid.cells S) 72 (0, 0))) ∧ Aside0 (Below w.heap.size w w'))
  case atStart => exact ⟨[a, 1, 0], [b, 0, 1], rfl, rfl, H', ⟨Nat.le_refl _⟩, BF, BS, HB⟩
  case round =>
    clear H'
    obtain ⟨F, S, hF0, hS0, HA, HK1, BF, BS, HB⟩ := hrel
    have hF := Aside0.mk hF0
    have hS := Aside0.mk hS0
    cases gk with
    | zero => exact absurd HA.out (by simp [impl_BothEuclid.l0])
    | succ k1 =>
      have H := HA.out
      clear HA
      rw [impl_BothEuclid.l0] at H
      have cF0 : wr.cell? ⟨g1, 0, none⟩ = some (.int .i64 (rd F 0)) := (blk_cell BF.out 0).trans (impl_BothEuclid.cell F 0 (by omega))
      have cF1 : wr.cell? ⟨g1, 1, none⟩ = some (.int .i64 (rd F 1)) := (blk_cell BF.out 1).trans (impl_BothEuclid.cell F 1 (by omega))
      have cF2 : wr.cell? ⟨g1, 2, none⟩ = some (.int .i64 (rd F 2)) := (blk_cell BF.out 2).trans (impl_BothEuclid.cell F 2 (by omega))
      have cS0 : wr.cell? ⟨g2, 0, none⟩ = some (.int .i64 (rd S 0)) := (blk_cell BS.out 0).trans (impl_BothEuclid.cell S 0 (by omega))
      clear hF0 hS0
      by_cases c1 : rd S 0 = 0
      · rw [if_pos c1] at H
        have c1b0 : (rd S 0 == 0) = true := beq_iff_eq.mpr c1
        have c1b1 : (rd S 0 != 0) = false := bne_eq_false_iff_eq.mpr c1
        clear c1
        have H' := Aside0.mk (Option.some.inj H)
        clear H
        go_wp2
        repeat (go_quiet (fail); try go_wp2)
        have e := H'.out
        injection e with e1 e
        injection e with e2 e
        injection e with e3 e4
        subst e1 e2 e3 e4
        refine bodyPost_ret (results_list (rs := [.tmp 4, .tmp 5, .tmp 6, .tmp 7]) rfl (by simp) (.tmp (.tmp (.tmp (.tmp .nil))))) rfl ?_
        exact ⟨by first | rfl | (simp; done) | (simp [*]; done), by repeat (first | (with_reducible first | exact HB.out | apply below_alloc | apply pw_below_drewN | apply below_drew1) | exact HB.out)⟩
      · rw [if_neg c1] at H
        have c1b0 : (rd S 0 == 0) = false := beq_eq_false_iff_ne.mpr c1
        have c1b1 : (rd S 0 != 0) = true := bne_iff_ne.mpr c1
        have H' := Aside0.mk H
        clear H
        go_wp2
        generalize wrap64 (Int.tdiv (rd F 0) (rd S 0)) = q at H' ⊢
        go_loopg [40] k1 (fun kq v40 w' => ∃ (i : Nat) (F S : List Int), v40 = .int .i64 (i : Int) ∧ F.length = 3 ∧ S.length = 3 ∧ i ≤ 3 ∧ Aside0 (impl_BothEuclid.l1 kq q F S i = some (r1, r2, r3, r4)) ∧ Aside0 (kq ≤ k1) ∧ Aside0 (w'.heap[g1]? = some (.cells (impl_BothEuclid.cells F) 72 (0, 0))) ∧ Aside0 (w'.heap[g2]? = some (.cells (impl_BothEuclid.cells S) 72 (0, 0))) ∧ Aside0 (Below w.heap.size w w'))
        case atStart => exact ⟨0, F, S, by first | rfl | simp, hF.out, hS.out, by omega, H', ⟨Nat.le_refl _⟩, BF, BS, HB⟩
        case round =>
          clear H' c1 c1b0 c1b1 cF0 cF1 cF2 cS0 BF BS HB hF hS
          obtain ⟨i1, F, S, rfl, hF0, hS0, hi, HA, HK2, BF, BS, HB⟩ := hrel
          cases gk with
          | zero => exact absurd HA.out (by simp [impl_BothEuclid.l1])
          | succ k2 =>
            have H := HA.out
            clear HA
            rw [impl_BothEuclid.l1] at H
            by_cases c2 : i1 < 3
            · rw [if_pos c2] at H
              have H' := Aside0.mk H
              clear H
              have c2b0 : decide ((i1 : Int) < 3) = true := decide_eq_true (by omega)
              have c2b1 : (i1 : Int) < 3 := by omega
              have cF : wr.cell? ⟨g1, i1, none⟩ = some (.int .i64 (rd F i1)) := (blk_cell BF.out i1).trans (impl_BothEuclid.cell F i1 (by omega))
              have cS : wr.cell? ⟨g2, i1, none⟩ = some (.int .i64 (rd S i1)) := (blk_cell BS.out i1).trans (impl_BothEuclid.cell S i1 (by omega))
              have fF : wr.frozen? ⟨g1, i1, none⟩ = false := blk_frozen BF.out i1
              have fS : wr.frozen? ⟨g2, i1, none⟩ = false := blk_frozen BS.out i1
              have bS1 := Aside0.mk (blk_far BS.out (p := ⟨g1, i1, none⟩) NE.out.symm (.int .i64 (rd S i1)))
              have cS1 : (wr.setCell ⟨g1, i1, none⟩ (.int .i64 (rd S i1))).cell? ⟨g2, i1, none⟩ = some (.int .i64 (rd S i1)) := (blk_cell bS1.out i1).trans (impl_BothEuclid.cell S i1 (by omega))
              have bF2 := Aside0.mk ((blk_far (p := ⟨g2, i1, none⟩) (blk_set BF.out i1 (.int .i64 (rd S i1))) NE.out (.int .i64 (wrap64 (rd F i1 - wrap64 (q * rd S i1))))).trans (by rw [impl_BothEuclid.set]))
              have bS2 := Aside0.mk ((blk_set bS1.out i1 (.int .i64 (wrap64 (rd F i1 - wrap64 (q * rd S i1))))).trans (by rw [impl_BothEuclid.set]))
              have HB2 := Aside0.mk (below_set (v := .int .i64 (wrap64 (rd F i1 - wrap64 (q * rd S i1)))) (j := i1) (below_set (v := .int .i64 (rd S i1)) (j := i1) HB.out GF.out) GS.out)
              have hF := Aside0.mk hF0
              have hS := Aside0.mk hS0
              clear BF BS HB bS1 hF0 hS0
              go_wp2
              refine start_ (n := 18) (S := fun w' => w'.cell? ⟨g2, i1, none⟩ = some (.int .i64 (rd S i1))) (ds := [17]) #[false, false, false, false, false, false, false, false, false, false, false, false, false, false, false, false, false, false] (by kernel_rfl) rfl rfl (cS) (fun hHeld => ?_)
              refine pure_ (i := 0) (N := some 43) (v := ?_) (a' := ?_) #[true, false, false, false, false, false, false, false, false, false, false, false, false, false, false, false, false, false] rfl rfl (by kernel_rfl) (fun _ _ _ h => h) (Or.inl ⟨by rfl, ?_⟩) ?_ ?_
              rotate_left
              · intro w'
                go_simp
                with_reducible rfl
              rotate_left
              · simp only [Act.put, List.setIfInBounds_toArray, List.set_cons_zero, List.set_cons_succ, i64_w, i32_w]
                rfl
              refine pure_ (i := 1) (N := some 44) (v := ?_) (a' := ?_) #[true, true, false, false, false, false, false, false, false, false, false, false, false, false, false, false, false, false] rfl rfl (by kernel_rfl) (fun _ _ _ h => h) (Or.inl ⟨by rfl, ?_⟩) ?_ ?_
              rotate_left
              · intro w'
                go_simp
                with_reducible rfl
              rotate_left
              · simp only [Act.put, List.setIfInBounds_toArray, List.set_cons_zero, List.set_cons_succ, i64_w, i32_w]
                rfl
              refine pure_ (i := 2) (N := some 45) (v := ?_) (a' := ?_) #[true, true, true, false, false, false, false, false, false, false, false, false, false, false, false, false, false, false] rfl rfl (by kernel_rfl) (fun _ _ _ h => h) (Or.inl ⟨by rfl, ?_⟩) ?_ ?_
              rotate_left
              · intro w'
                go_simp
                with_reducible rfl
              rotate_left
              · simp only [Act.put, List.setIfInBounds_toArray, List.set_cons_zero, List.set_cons_succ, i64_w, i32_w]
                rfl
              refine pure_ (i := 3) (N := some 46) (v := ?_) (a' := ?_) #[true, true, true, true, false, false, false, false, false, false, false, false, false, false, false, false, false, false] rfl rfl (by kernel_rfl) (fun _ _ _ h => h) (Or.inl ⟨by rfl, ?_⟩) ?_ ?_
              rotate_left
              · intro w'
                go_simp
                with_reducible rfl
              rotate_left
              · simp only [Act.put, List.setIfInBounds_toArray, List.set_cons_zero, List.set_cons_succ, i64_w, i32_w]
                rfl
              refine pure_ (i := 5) (N := some 48) (v := ?_) (a' := ?_) #[true, true, true, true, false, true, false, false, false, false, false, false, false, false, false, false, false, false] rfl rfl (by kernel_rfl) (fun _ _ _ h => h) (Or.inl ⟨by rfl, ?_⟩) ?_ ?_
              rotate_left
              · intro w'
                go_simp
                with_reducible rfl
              rotate_left
              · simp only [Act.put, List.setIfInBounds_toArray, List.set_cons_zero, List.set_cons_succ, i64_w, i32_w]
                rfl
              refine pure_ (i := 6) (N := some 49) (v := ?_) (a' := ?_) #[true, true, true, true, false, true, true, false, false, false, false, false, false, false, false, false, false, false] rfl rfl (by kernel_rfl) (fun _ _ _ h => h) (Or.inl ⟨by rfl, ?_⟩) ?_ ?_
              rotate_left
              · intro w'
                go_simp
                with_reducible rfl
              rotate_left
              · simp only [Act.put, List.setIfInBounds_toArray, List.set_cons_zero, List.set_cons_succ, i64_w, i32_w]
                rfl
              refine pure_ (i := 8) (N := some 51) (v := ?_) (a' := ?_) #[true, true, true, true, false, true, true, false, true, false, false, false, false, false, false, false, false, false] rfl rfl (by kernel_rfl) (fun _ _ _ h => h) (Or.inl ⟨by rfl, ?_⟩) ?_ ?_
              rotate_left
              · intro w'
                go_simp
                with_reducible rfl
              rotate_left
              · simp only [Act.put, List.setIfInBounds_toArray, List.set_cons_zero, List.set_cons_succ, i64_w, i32_w]
                rfl
              refine pure_ (i := 9) (N := some 52) (v := ?_) (a' := ?_) #[true, true, true, true, false, true, true, false, true, true, false, false, false, false, false, false, false, false] rfl rfl (by kernel_rfl) (fun _ _ _ h => h) (Or.inl ⟨by rfl, ?_⟩) ?_ ?_
              rotate_left
              · intro w'
                go_simp
                with_reducible rfl
              rotate_left
              · simp only [Act.put, List.setIfInBounds_toArray, List.set_cons_zero, List.set_cons_succ, i64_w, i32_w]
                rfl
              refine pure_ (i := 10) (N := some 53) (v := ?_) (a' := ?_) #[true, true, true, true, false, true, true, false, true, true, true, false, false, false, false, false, false, false] rfl rfl (by kernel_rfl) (fun _ _ _ h => h) (Or.inl ⟨by rfl, ?_⟩) ?_ ?_
              rotate_left
              · intro w'
                go_simp
                with_reducible rfl
              rotate_left
              · simp only [Act.put, List.setIfInBounds_toArray, List.set_cons_zero, List.set_cons_succ, i64_w, i32_w]
                rfl
              refine take_ (i := 4) (N := some 47) (v := ?_) (a' := ?_) #[true, true, true, true, true, true, true, false, true, true, true, false, false, false, false, false, false, false] rfl rfl (by kernel_rfl) (fun _ _ _ h => h) (Or.inl ⟨by rfl, ?_⟩) hHeld ?_ ?_
              rotate_left
              · intro w' s0
                go_simp
                with_reducible rfl
              rotate_left
              · simp only [Act.put, List.setIfInBounds_toArray, List.set_cons_zero, List.set_cons_succ, i64_w, i32_w]
                rfl
              refine take_ (i := 11) (N := some 54) (v := ?_) (a' := ?_) #[true, true, true, true, true, true, true, false, true, true, true, true, false, false, false, false, false, false] rfl rfl (by kernel_rfl) (fun _ _ _ h => h) (Or.inl ⟨by rfl, ?_⟩) hHeld ?_ ?_
              rotate_left
              · intro w' s0
                go_simp
                with_reducible rfl
              rotate_left
              · simp only [Act.put, List.setIfInBounds_toArray, List.set_cons_zero, List.set_cons_succ, i64_w, i32_w]
                rfl
              refine pure_ (i := 12) (N := some 55) (v := ?_) (a' := ?_) #[true, true, true, true, true, true, true, false, true, true, true, true, true, false, false, false, false, false] rfl rfl (by kernel_rfl) (fun _ _ _ h => h) (Or.inl ⟨by rfl, ?_⟩) ?_ ?_
              rotate_left
              · intro w'
                go_simp
                with_reducible rfl
              rotate_left
              · simp only [Act.put, List.setIfInBounds_toArray, List.set_cons_zero, List.set_cons_succ, i64_w, i32_w]
                rfl
              refine one_ (i := 7) (N := some 50) #[true, true, true, true, true, true, true, true, true, true, true, true, true, false, false, false, false, false] rfl rfl (by kernel_rfl) (by decide) (fun K hK => ?_)
              refine value_ (w1 := ?_) (v := ?_) (by rfl) rfl ?_ ?_
              rotate_left 2
              · go_simp
                constructor
                · rfl
                · rfl
              refine hK.out _ _ (cS) (fun hHeld => ?_)
              clear hK K
              refine norm_ (a' := ?_) ?_ ?_
              rotate_left
              · show Act.put _ (some 50) _ = _
                simp only [Act.put, List.setIfInBounds_toArray, List.set_cons_zero, List.set_cons_succ, i64_w, i32_w]
                rfl
              refine pure_ (i := 13) (N := some 56) (v := ?_) (a' := ?_) #[true, true, true, true, true, true, true, true, true, true, true, true, true, true, false, false, false, false] rfl rfl (by kernel_rfl) (fun _ _ _ h => h) (Or.inl ⟨by rfl, ?_⟩) ?_ ?_
              rotate_left
              · intro w'
                go_simp
                with_reducible rfl
              rotate_left
              · simp only [Act.put, List.setIfInBounds_toArray, List.set_cons_zero, List.set_cons_succ, i64_w, i32_w]
                rfl
              refine pure_ (i := 14) (N := some 57) (v := ?_) (a' := ?_) #[true, true, true, true, true, true, true, true, true, true, true, true, true, true, true, false, false, false] rfl rfl (by kernel_rfl) (fun _ _ _ h => h) (Or.inl ⟨by rfl, ?_⟩) ?_ ?_
              rotate_left
              · intro w'
                go_simp
                with_reducible rfl
              rotate_left
              · simp only [Act.put, List.setIfInBounds_toArray, List.set_cons_zero, List.set_cons_succ, i64_w, i32_w]
                rfl
              refine one_ (i := 15) (N := none) #[true, true, true, true, true, true, true, true, true, true, true, true, true, true, true, true, false, false] rfl rfl (by kernel_rfl) (by decide) (fun K hK => ?_)
              refine skip_ (w1 := ?_) (by rfl) rfl ?_ ?_
              rotate_left
              · go_simp
                rfl
              refine hK.out _ _ (cS1) (fun hHeld => ?_)
              clear hK K
              refine pure_ (i := 16) (N := some 58) (v := ?_) (a' := ?_) #[true, true, true, true, true, true, true, true, true, true, true, true, true, true, true, true, true, false] rfl rfl (by kernel_rfl) (fun _ _ _ h => h) (Or.inl ⟨by rfl, ?_⟩) ?_ ?_
              rotate_left
              · intro w'
                go_simp
                with_reducible rfl
              rotate_left
              · simp only [Act.put, List.setIfInBounds_toArray, List.set_cons_zero, List.set_cons_succ, i64_w, i32_w]
                rfl
              refine last_ (i := 17) (N := none) #[true, true, true, true, true, true, true, true, true, true, true, true, true, true, true, true, true, true] rfl rfl (by kernel_rfl) (by decide) (fun K hK => ?_)
              refine skip_ (w1 := ?_) (by rfl) rfl ?_ ?_
              rotate_left
              · go_simp
                rfl
              refine hK.out _ _ ?_
              clear hK K
              refine done_ (by kernel_rfl) ?_
              go_wp2
              go_roundg k2
              case measure => have := HK1.out; have := HK2.out; omega
              case rel => exact ⟨i1 + 1, F.set i1 (rd S i1), S.set i1 (wrap64 (rd F i1 - wrap64 (q * rd S i1))), by first | rfl | (simp; done) | go_num, by rw [List.length_set]; exact hF.out, by rw [List.length_set]; exact hS.out, by omega, H', ⟨by have := HK2.out; omega⟩, ⟨by (with_reducible repeat (first | refine blk_drewN ?_ _ | refine blk_drew ?_)); exact bF2.out⟩, ⟨by (with_reducible repeat (first | refine blk_drewN ?_ _ | refine blk_drew ?_)); exact bS2.out⟩, ⟨by repeat (first | (with_reducible first | exact HB2.out | apply below_alloc | apply pw_below_drewN | apply below_drew1) | exact HB2.out)⟩⟩
            · rw [if_neg c2] at H
              have H' := Aside0.mk H
              clear H
              have c2b0 : decide ((i1 : Int) < 3) = false := decide_eq_false (by omega)
              have hF := Aside0.mk hF0
              have hS := Aside0.mk hS0
              clear hF0 hS0
              go_wp2
              go_roundg k2
              case measure => have := HK1.out; have := HK2.out; omega
              case rel => exact ⟨F, S, hF.out, hS.out, H', ⟨by have := HK1.out; have := HK2.out; omega⟩, BF, BS, HB⟩
set_option maxHeartbeats 8000000 in
set_option maxRecDepth 100000 in
theorem impl_BothEuclid.body2 (k : Nat) (a b : Int) (r1 r2 r3 : Int) (r4 : Bool) (w : World) (h1 : (impl_within.f a 0 1000000) = some true) (h2 : (impl_within.f b 0 1000000) = some true) (hz : (a == 0) = true) (hz2 : (b == 0) = false) (h : impl_BothEuclid.l0 k [a, 1, 0] [b, 0, 1] = some (r1, r2, r3, r4)) :
    Calls Try.prog 15 #[.int .i64 a, .int .i64 b] w fun e w' => e = .returned (.tuple #[.int .i64 r1, .int .i64 r2, .int .i64 r3, .bool r4]) ∧ Below w.heap.size w w' := by
  have H1 := Aside0.mk h1
  have H2 := Aside0.mk h2
  have H' := Aside0.mk h
  clear h1 h2 h
  have HB := Aside0.mk (Below.refl w.heap.size w)
  go_enter Try.func15, Try.ntmps15
  go_wp2_with (first | (go_at_call 59; (with_reducible refine (impl_within.calls a 0 1000000 true _ H1.out).mono ?_); rintro e w' ⟨rfl, ⟨nd, rfl⟩⟩) | (go_at_call 59; (with_reducible refine (impl_within.calls b 0 1000000 true _ H2.out).mono ?_); rintro e w' ⟨rfl, ⟨nd, rfl⟩⟩) | ((with_reducible refine gate_dst (N := 8) rfl ?_); refine box_event ?hg (N := 8) ?hd (cs := #[.int .i64 0, .int .i64 0, .int .i64 0]) (t := 72) ?hr ?_; (case hd => rfl); (case hg => rfl); (case hr => first | (go_simp; done) | (go_simp; rfl)); intro g1 hg w2 hbox hb; have n0_ := Aside0.mk (below_step (by repeat (first | (with_reducible first | exact HB.out | apply below_alloc | apply pw_below_drewN | apply below_drew1) | exact HB.out)) hb); have n1_ := Aside0.mk hbox; have n2_ := Aside0.mk ((by rw [hg]; exact (below_size (by repeat (first | (with_reducible first | exact HB.out | apply below_alloc | apply pw_below_drewN | apply below_drew1) | exact HB.out))) : w.heap.size ≤ g1)); clear HB hb hbox hg; have HB := n0_; have BF := n1_; have GF := n2_; clear n0_ n1_ n2_) | ((with_reducible refine gate_dst (N := 9) rfl ?_); refine box_event ?hg (N := 9) ?hd (cs := #[.int .i64 0, .int .i64 0, .int .i64 0]) (t := 72) ?hr ?_; (case hd => rfl); (case hg => rfl); (case hr => first | (go_simp; done) | (go_simp; rfl)); intro g2 hg w3 hbox hb; have n0_ := Aside0.mk (below_step (by repeat (first | (with_reducible first | exact HB.out | apply below_alloc | apply pw_below_drewN | apply below_drew1) | exact HB.out)) hb); have n1_ := Aside0.mk hbox; have n2_ := Aside0.mk ((by rw [hg]; exact (below_size (by repeat (first | (with_reducible first | exact HB.out | apply below_alloc | apply pw_below_drewN | apply below_drew1) | exact HB.out))) : w.heap.size ≤ g2)); have n3_ := Aside0.mk (blk_below BF.out hb); have n4_ := Aside0.mk ((by rw [hg]; exact Nat.ne_of_lt (blk_lt BF.out)) : g1 ≠ g2); clear HB BF hb hbox hg; have HB := n0_; have BS := n1_; have GS := n2_; have BF := n3_; have NE := n4_; clear n0_ n1_ n2_ n3_ n4_) | ((with_reducible refine gate_store (p := 8) rfl ?_); refine store_event (p := 8) rfl rfl rfl (impl_BothEuclid.exec3 rfl rfl rfl BF.out) ?_; intro w4 hw; have n0_ := Aside0.mk ((by rw [hw]; exact (blk_set (blk_set (blk_set BF.out 0 _) 1 _) 2 _).trans rfl) : w4.heap[g1]? = some (.cells (impl_BothEuclid.cells [a, 1, 0]) 72 (0, 0))); have n1_ := Aside0.mk ((by rw [hw]; exact blk_far (blk_far (blk_far BS.out NE.out.symm _) NE.out.symm _) NE.out.symm _) : w4.heap[g2]? = some (.cells #[.int .i64 0, .int .i64 0, .int .i64 0] 72 (0, 0))); have n2_ := Aside0.mk ((by rw [hw]; exact below_set (below_set (below_set HB.out GF.out) GF.out) GF.out) : Below w.heap.size w w4); clear hw HB BF BS; have HB := n2_; have BF := n0_; have BS := n1_; clear n0_ n1_ n2_) | ((with_reducible refine gate_store (p := 9) rfl ?_); refine store_event (p := 9) rfl rfl rfl (impl_BothEuclid.exec3 rfl rfl rfl BS.out) ?_; intro w5 hw; have n0_ := Aside0.mk ((by rw [hw]; exact (blk_set (blk_set (blk_set BS.out 0 _) 1 _) 2 _).trans rfl) : w5.heap[g2]? = some (.cells (impl_BothEuclid.cells [b, 0, 1]) 72 (0, 0))); have n1_ := Aside0.mk ((by rw [hw]; exact blk_far (blk_far (blk_far BF.out NE.out _) NE.out _) NE.out _) : w5.heap[g1]? = some (.cells (impl_BothEuclid.cells [a, 1, 0]) 72 (0, 0))); have n2_ := Aside0.mk ((by rw [hw]; exact below_set (below_set (below_set HB.out GS.out) GS.out) GS.out) : Below w.heap.size w w5); clear hw HB BS BF; have HB := n2_; have BS := n0_; have BF := n1_; clear n0_ n1_ n2_))
  simp only [Act.put, List.setIfInBounds_toArray, List.set_cons_zero, List.set_cons_succ]
  go_loopg [] k (fun kq w' => ∃ (F S : List Int), F.length = 3 ∧ S.length = 3 ∧ Aside0 (impl_BothEuclid.l0 kq F S = some (r1, r2, r3, r4)) ∧ Aside0 (kq ≤ k) ∧ Aside0 (w'.heap[g1]? = some (.cells (impl_BothEuclid.cells F) 72 (0, 0))) ∧ Aside0 (w'.heap[g2]? = some (.cells (impl_BothEuclid.cells S) 72 (0, 0))) ∧ Aside0 (Below w.heap.size w w'))
  case atStart => exact ⟨[a, 1, 0], [b, 0, 1], rfl, rfl, H', ⟨Nat.le_refl _⟩, BF, BS, HB⟩
  case round =>
    clear H'
    obtain ⟨F, S, hF0, hS0, HA, HK1, BF, BS, HB⟩ := hrel
    have hF := Aside0.mk hF0
    have hS := Aside0.mk hS0
    cases gk with
    | zero => exact absurd HA.out (by simp [impl_BothEuclid.l0])
    | succ k1 =>
      have H := HA.out
      clear HA
      rw [impl_BothEuclid.l0] at H
      have cF0 : wr.cell? ⟨g1, 0, none⟩ = some (.int .i64 (rd F 0)) := (blk_cell BF.out 0).trans (impl_BothEuclid.cell F 0 (by omega))
      have cF1 : wr.cell? ⟨g1, 1, none⟩ = some (.int .i64 (rd F 1)) := (blk_cell BF.out 1).trans (impl_BothEuclid.cell F 1 (by omega))
      have cF2 : wr.cell? ⟨g1, 2, none⟩ = some (.int .i64 (rd F 2)) := (blk_cell BF.out 2).trans (impl_BothEuclid.cell F 2 (by omega))
      have cS0 : wr.cell? ⟨g2, 0, none⟩ = some (.int .i64 (rd S 0)) := (blk_cell BS.out 0).trans (impl_BothEuclid.cell S 0 (by omega))
      clear hF0 hS0
      by_cases c1 : rd S 0 = 0
      · rw [if_pos c1] at H
        have c1b0 : (rd S 0 == 0) = true := beq_iff_eq.mpr c1
        have c1b1 : (rd S 0 != 0) = false := bne_eq_false_iff_eq.mpr c1
        clear c1
        have H' := Aside0.mk (Option.some.inj H)
        clear H
        go_wp2
        repeat (go_quiet (fail); try go_wp2)
        have e := H'.out
        injection e with e1 e
        injection e with e2 e
        injection e with e3 e4
        subst e1 e2 e3 e4
        refine bodyPost_ret (results_list (rs := [.tmp 4, .tmp 5, .tmp 6, .tmp 7]) rfl (by simp) (.tmp (.tmp (.tmp (.tmp .nil))))) rfl ?_
        exact ⟨by first | rfl | (simp; done) | (simp [*]; done), by repeat (first | (with_reducible first | exact HB.out | apply below_alloc | apply pw_below_drewN | apply below_drew1) | exact HB.out)⟩
      · rw [if_neg c1] at H
        have c1b0 : (rd S 0 == 0) = false := beq_eq_false_iff_ne.mpr c1
        have c1b1 : (rd S 0 != 0) = true := bne_iff_ne.mpr c1
        have H' := Aside0.mk H
        clear H
        go_wp2
        generalize wrap64 (Int.tdiv (rd F 0) (rd S 0)) = q at H' ⊢
        go_loopg [40] k1 (fun kq v40 w' => ∃ (i : Nat) (F S : List Int), v40 = .int .i64 (i : Int) ∧ F.length = 3 ∧ S.length = 3 ∧ i ≤ 3 ∧ Aside0 (impl_BothEuclid.l1 kq q F S i = some (r1, r2, r3, r4)) ∧ Aside0 (kq ≤ k1) ∧ Aside0 (w'.heap[g1]? = some (.cells (impl_BothEuclid.cells F) 72 (0, 0))) ∧ Aside0 (w'.heap[g2]? = some (.cells (impl_BothEuclid.cells S) 72 (0, 0))) ∧ Aside0 (Below w.heap.size w w'))
        case atStart => exact ⟨0, F, S, by first | rfl | simp, hF.out, hS.out, by omega, H', ⟨Nat.le_refl _⟩, BF, BS, HB⟩
        case round =>
          clear H' c1 c1b0 c1b1 cF0 cF1 cF2 cS0 BF BS HB hF hS
          obtain ⟨i1, F, S, rfl, hF0, hS0, hi, HA, HK2, BF, BS, HB⟩ := hrel
          cases gk with
          | zero => exact absurd HA.out (by simp [impl_BothEuclid.l1])
          | succ k2 =>
            have H := HA.out
            clear HA
            rw [impl_BothEuclid.l1] at H
            by_cases c2 : i1 < 3
            · rw [if_pos c2] at H
              have H' := Aside0.mk H
              clear H
              have c2b0 : decide ((i1 : Int) < 3) = true := decide_eq_true (by omega)
              have c2b1 : (i1 : Int) < 3 := by omega
              have cF : wr.cell? ⟨g1, i1, none⟩ = some (.int .i64 (rd F i1)) := (blk_cell BF.out i1).trans (impl_BothEuclid.cell F i1 (by omega))
              have cS : wr.cell? ⟨g2, i1, none⟩ = some (.int .i64 (rd S i1)) := (blk_cell BS.out i1).trans (impl_BothEuclid.cell S i1 (by omega))
              have fF : wr.frozen? ⟨g1, i1, none⟩ = false := blk_frozen BF.out i1
              have fS : wr.frozen? ⟨g2, i1, none⟩ = false := blk_frozen BS.out i1
              have bS1 := Aside0.mk (blk_far BS.out (p := ⟨g1, i1, none⟩) NE.out.symm (.int .i64 (rd S i1)))
              have cS1 : (wr.setCell ⟨g1, i1, none⟩ (.int .i64 (rd S i1))).cell? ⟨g2, i1, none⟩ = some (.int .i64 (rd S i1)) := (blk_cell bS1.out i1).trans (impl_BothEuclid.cell S i1 (by omega))
              have bF2 := Aside0.mk ((blk_far (p := ⟨g2, i1, none⟩) (blk_set BF.out i1 (.int .i64 (rd S i1))) NE.out (.int .i64 (wrap64 (rd F i1 - wrap64 (q * rd S i1))))).trans (by rw [impl_BothEuclid.set]))
              have bS2 := Aside0.mk ((blk_set bS1.out i1 (.int .i64 (wrap64 (rd F i1 - wrap64 (q * rd S i1))))).trans (by rw [impl_BothEuclid.set]))
              have HB2 := Aside0.mk (below_set (v := .int .i64 (wrap64 (rd F i1 - wrap64 (q * rd S i1)))) (j := i1) (below_set (v := .int .i64 (rd S i1)) (j := i1) HB.out GF.out) GS.out)
              have hF := Aside0.mk hF0
              have hS := Aside0.mk hS0
              clear BF BS HB bS1 hF0 hS0
              go_wp2
              refine start_ (n := 18) (S := fun w' => w'.cell? ⟨g2, i1, none⟩ = some (.int .i64 (rd S i1))) (ds := [17]) #[false, false, false, false, false, false, false, false, false, false, false, false, false, false, false, false, false, false] (by kernel_rfl) rfl rfl (cS) (fun hHeld => ?_)
              refine pure_ (i := 0) (N := some 43) (v := ?_) (a' := ?_) #[true, false, false, false, false, false, false, false, false, false, false, false, false, false, false, false, false, false] rfl rfl (by kernel_rfl) (fun _ _ _ h => h) (Or.inl ⟨by rfl, ?_⟩) ?_ ?_
              rotate_left
              · intro w'
                go_simp
                with_reducible rfl
              rotate_left
              · simp only [Act.put, List.setIfInBounds_toArray, List.set_cons_zero, List.set_cons_succ, i64_w, i32_w]
                rfl
              refine pure_ (i := 1) (N := some 44) (v := ?_) (a' := ?_) #[true, true, false, false, false, false, false, false, false, false, false, false, false, false, false, false, false, false] rfl rfl (by kernel_rfl) (fun _ _ _ h => h) (Or.inl ⟨by rfl, ?_⟩) ?_ ?_
              rotate_left
              · intro w'
                go_simp
                with_reducible rfl
              rotate_left
              · simp only [Act.put, List.setIfInBounds_toArray, List.set_cons_zero, List.set_cons_succ, i64_w, i32_w]
                rfl
              refine pure_ (i := 2) (N := some 45) (v := ?_) (a' := ?_) #[true, true, true, false, false, false, false, false, false, false, false, false, false, false, false, false, false, false] rfl rfl (by kernel_rfl) (fun _ _ _ h => h) (Or.inl ⟨by rfl, ?_⟩) ?_ ?_
              rotate_left
              · intro w'
                go_simp
                with_reducible rfl
              rotate_left
              · simp only [Act.put, List.setIfInBounds_toArray, List.set_cons_zero, List.set_cons_succ, i64_w, i32_w]
                rfl
              refine pure_ (i := 3) (N := some 46) (v := ?_) (a' := ?_) #[true, true, true, true, false, false, false, false, false, false, false, false, false, false, false, false, false, false] rfl rfl (by kernel_rfl) (fun _ _ _ h => h) (Or.inl ⟨by rfl, ?_⟩) ?_ ?_
              rotate_left
              · intro w'
                go_simp
                with_reducible rfl
              rotate_left
              · simp only [Act.put, List.setIfInBounds_toArray, List.set_cons_zero, List.set_cons_succ, i64_w, i32_w]
                rfl
              refine pure_ (i := 5) (N := some 48) (v := ?_) (a' := ?_) #[true, true, true, true, false, true, false, false, false, false, false, false, false, false, false, false, false, false] rfl rfl (by kernel_rfl) (fun _ _ _ h => h) (Or.inl ⟨by rfl, ?_⟩) ?_ ?_
              rotate_left
              · intro w'
                go_simp
                with_reducible rfl
              rotate_left
              · simp only [Act.put, List.setIfInBounds_toArray, List.set_cons_zero, List.set_cons_succ, i64_w, i32_w]
                rfl
              refine pure_ (i := 6) (N := some 49) (v := ?_) (a' := ?_) #[true, true, true, true, false, true, true, false, false, false, false, false, false, false, false, false, false, false] rfl rfl (by kernel_rfl) (fun _ _ _ h => h) (Or.inl ⟨by rfl, ?_⟩) ?_ ?_
              rotate_left
              · intro w'
                go_simp
                with_reducible rfl
              rotate_left
              · simp only [Act.put, List.setIfInBounds_toArray, List.set_cons_zero, List.set_cons_succ, i64_w, i32_w]
                rfl
              refine pure_ (i := 8) (N := some 51) (v := ?_) (a' := ?_) #[true, true, true, true, false, true, true, false, true, false, false, false, false, false, false, false, false, false] rfl rfl (by kernel_rfl) (fun _ _ _ h => h) (Or.inl ⟨by rfl, ?_⟩) ?_ ?_
              rotate_left
              · intro w'
                go_simp
                with_reducible rfl
              rotate_left
              · simp only [Act.put, List.setIfInBounds_toArray, List.set_cons_zero, List.set_cons_succ, i64_w, i32_w]
                rfl
              refine pure_ (i := 9) (N := some 52) (v := ?_) (a' := ?_) #[true, true, true, true, false, true, true, false, true, true, false, false, false, false, false, false, false, false] rfl rfl (by kernel_rfl) (fun _ _ _ h => h) (Or.inl ⟨by rfl, ?_⟩) ?_ ?_
              rotate_left
              · intro w'
                go_simp
                with_reducible rfl
              rotate_left
              · simp only [Act.put, List.setIfInBounds_toArray, List.set_cons_zero, List.set_cons_succ, i64_w, i32_w]
                rfl
              refine pure_ (i := 10) (N := some 53) (v := ?_) (a' := ?_) #[true, true, true, true, false, true, true, false, true, true, true, false, false, false, false, false, false, false] rfl rfl (by kernel_rfl) (fun _ _ _ h => h) (Or.inl ⟨by rfl, ?_⟩) ?_ ?_
              rotate_left
              · intro w'
                go_simp
                with_reducible rfl
              rotate_left
              · simp only [Act.put, List.setIfInBounds_toArray, List.set_cons_zero, List.set_cons_succ, i64_w, i32_w]
                rfl
              refine take_ (i := 4) (N := some 47) (v := ?_) (a' := ?_) #[true, true, true, true, true, true, true, false, true, true, true, false, false, false, false, false, false, false] rfl rfl (by kernel_rfl) (fun _ _ _ h => h) (Or.inl ⟨by rfl, ?_⟩) hHeld ?_ ?_
              rotate_left
              · intro w' s0
                go_simp
                with_reducible rfl
              rotate_left
              · simp only [Act.put, List.setIfInBounds_toArray, List.set_cons_zero, List.set_cons_succ, i64_w, i32_w]
                rfl
              refine take_ (i := 11) (N := some 54) (v := ?_) (a' := ?_) #[true, true, true, true, true, true, true, false, true, true, true, true, false, false, false, false, false, false] rfl rfl (by kernel_rfl) (fun _ _ _ h => h) (Or.inl ⟨by rfl, ?_⟩) hHeld ?_ ?_
              rotate_left
              · intro w' s0
                go_simp
                with_reducible rfl
              rotate_left
              · simp only [Act.put, List.setIfInBounds_toArray, List.set_cons_zero, List.set_cons_succ, i64_w, i32_w]
                rfl
              refine pure_ (i := 12) (N := some 55) (v := ?_) (a' := ?_) #[true, true, true, true, true, true, true, false, true, true, true, true, true, false, false, false, false, false] rfl rfl (by kernel_rfl) (fun _ _ _ h => h) (Or.inl ⟨by rfl, ?_⟩) ?_ ?_
              rotate_left
              · intro w'
                go_simp
                with_reducible rfl
              rotate_left
              · simp only [Act.put, List.setIfInBounds_toArray, List.set_cons_zero, List.set_cons_succ, i64_w, i32_w]
                rfl
              refine one_ (i := 7) (N := some 50) #[true, true, true, true, true, true, true, true, true, true, true, true, true, false, false, false, false, false] rfl rfl (by kernel_rfl) (by decide) (fun K hK => ?_)
              refine value_ (w1 := ?_) (v := ?_) (by rfl) rfl ?_ ?_
              rotate_left 2
              · go_simp
                constructor
                · rfl
                · rfl
              refine hK.out _ _ (cS) (fun hHeld => ?_)
              clear hK K
              refine norm_ (a' := ?_) ?_ ?_
              rotate_left
              · show Act.put _ (some 50) _ = _
                simp only [Act.put, List.setIfInBounds_toArray, List.set_cons_zero, List.set_cons_succ, i64_w, i32_w]
                rfl
              refine pure_ (i := 13) (N := some 56) (v := ?_) (a' := ?_) #[true, true, true, true, true, true, true, true, true, true, true, true, true, true, false, false, false, false] rfl rfl (by kernel_rfl) (fun _ _ _ h => h) (Or.inl ⟨by rfl, ?_⟩) ?_ ?_
              rotate_left
              · intro w'
                go_simp
                with_reducible rfl
              rotate_left
              · simp only [Act.put, List.setIfInBounds_toArray, List.set_cons_zero, List.set_cons_succ, i64_w, i32_w]
                rfl
              refine pure_ (i := 14) (N := some 57) (v := ?_) (a' := ?_) #[true, true, true, true, true, true, true, true, true, true, true, true, true, true, true, false, false, false] rfl rfl (by kernel_rfl) (fun _ _ _ h => h) (Or.inl ⟨by rfl, ?_⟩) ?_ ?_
              rotate_left
              · intro w'
                go_simp
                with_reducible rfl
              rotate_left
              · simp only [Act.put, List.setIfInBounds_toArray, List.set_cons_zero, List.set_cons_succ, i64_w, i32_w]
                rfl
              refine one_ (i := 15) (N := none) #[true, true, true, true, true, true, true, true, true, true, true, true, true, true, true, true, false, false] rfl rfl (by kernel_rfl) (by decide) (fun K hK => ?_)
              refine skip_ (w1 := ?_) (by rfl) rfl ?_ ?_
              rotate_left
              · go_simp
                rfl
              refine hK.out _ _ (cS1) (fun hHeld => ?_)
              clear hK K
              refine pure_ (i := 16) (N := some 58) (v := ?_) (a' := ?_) #[true, true, true, true, true, true, true, true, true, true, true, true, true, true, true, true, true, false] rfl rfl (by kernel_rfl) (fun _ _ _ h => h) (Or.inl ⟨by rfl, ?_⟩) ?_ ?_
              rotate_left
              · intro w'
                go_simp
                with_reducible rfl
              rotate_left
              · simp only [Act.put, List.setIfInBounds_toArray, List.set_cons_zero, List.set_cons_succ, i64_w, i32_w]
                rfl
              refine last_ (i := 17) (N := none) #[true, true, true, true, true, true, true, true, true, true, true, true, true, true, true, true, true, true] rfl rfl (by kernel_rfl) (by decide) (fun K hK => ?_)
              refine skip_ (w1 := ?_) (by rfl) rfl ?_ ?_
              rotate_left
              · go_simp
                rfl
              refine hK.out _ _ ?_
              clear hK K
              refine done_ (by kernel_rfl) ?_
              go_wp2
              go_roundg k2
              case measure => have := HK1.out; have := HK2.out; omega
              case rel => exact ⟨i1 + 1, F.set i1 (rd S i1), S.set i1 (wrap64 (rd F i1 - wrap64 (q * rd S i1))), by first | rfl | (simp; done) | go_num, by rw [List.length_set]; exact hF.out, by rw [List.length_set]; exact hS.out, by omega, H', ⟨by have := HK2.out; omega⟩, ⟨by (with_reducible repeat (first | refine blk_drewN ?_ _ | refine blk_drew ?_)); exact bF2.out⟩, ⟨by (with_reducible repeat (first | refine blk_drewN ?_ _ | refine blk_drew ?_)); exact bS2.out⟩, ⟨by repeat (first | (with_reducible first | exact HB2.out | apply below_alloc | apply pw_below_drewN | apply below_drew1) | exact HB2.out)⟩⟩
            · rw [if_neg c2] at H
              have H' := Aside0.mk H
              clear H
              have c2b0 : decide ((i1 : Int) < 3) = false := decide_eq_false (by omega)
              have hF := Aside0.mk hF0
              have hS := Aside0.mk hS0
              clear hF0 hS0
              go_wp2
              go_roundg k2
              case measure => have := HK1.out; have := HK2.out; omega
              case rel => exact ⟨F, S, hF.out, hS.out, H', ⟨by have := HK1.out; have := HK2.out; omega⟩, BF, BS, HB⟩
set_option maxHeartbeats 8000000 in
set_option maxRecDepth 100000 in
theorem impl_BothEuclid.z1 (a b : Int) (w : World) (h1 : (impl_within.f a 0 1000000) = some false) :
    Calls Try.prog 15 #[.int .i64 a, .int .i64 b] w fun e w' => e = .returned (.tuple #[.int .i64 0, .int .i64 0, .int .i64 0, .bool false]) ∧ Below w.heap.size w w' := by
  have H1 := Aside0.mk h1
  clear h1
  have HB := Aside0.mk (Below.refl w.heap.size w)
  go_enter Try.func15, Try.ntmps15
  go_wp2_with (first | (go_at_call 59; (with_reducible refine (impl_within.calls a 0 1000000 false _ H1.out).mono ?_); rintro e w' ⟨rfl, ⟨nd, rfl⟩⟩))
  refine bodyPost_ret (results_list (rs := [.tmp 4, .tmp 5, .tmp 6, .tmp 7]) rfl (by simp) (.tmp (.tmp (.tmp (.tmp .nil))))) rfl ?_
  exact ⟨by first | rfl | (simp; done) | (simp [*]; done), by repeat (first | (with_reducible first | exact HB.out | apply below_alloc | apply pw_below_drewN | apply below_drew1) | exact HB.out)⟩
set_option maxHeartbeats 8000000 in
set_option maxRecDepth 100000 in
theorem impl_BothEuclid.z2 (a b : Int) (w : World) (h1 : (impl_within.f a 0 1000000) = some true) (h2 : (impl_within.f b 0 1000000) = some false) :
    Calls Try.prog 15 #[.int .i64 a, .int .i64 b] w fun e w' => e = .returned (.tuple #[.int .i64 0, .int .i64 0, .int .i64 0, .bool false]) ∧ Below w.heap.size w w' := by
  have H1 := Aside0.mk h1
  have H2 := Aside0.mk h2
  clear h1 h2
  have HB := Aside0.mk (Below.refl w.heap.size w)
  go_enter Try.func15, Try.ntmps15
  go_wp2_with (first | (go_at_call 59; (with_reducible refine (impl_within.calls a 0 1000000 true _ H1.out).mono ?_); rintro e w' ⟨rfl, ⟨nd, rfl⟩⟩) | (go_at_call 59; (with_reducible refine (impl_within.calls b 0 1000000 false _ H2.out).mono ?_); rintro e w' ⟨rfl, ⟨nd, rfl⟩⟩))
  refine bodyPost_ret (results_list (rs := [.tmp 4, .tmp 5, .tmp 6, .tmp 7]) rfl (by simp) (.tmp (.tmp (.tmp (.tmp .nil))))) rfl ?_
  exact ⟨by first | rfl | (simp; done) | (simp [*]; done), by repeat (first | (with_reducible first | exact HB.out | apply below_alloc | apply pw_below_drewN | apply below_drew1) | exact HB.out)⟩
set_option maxHeartbeats 8000000 in
set_option maxRecDepth 100000 in
theorem impl_BothEuclid.z3 (a b : Int) (w : World) (h1 : (impl_within.f a 0 1000000) = some true) (h2 : (impl_within.f b 0 1000000) = some true) (hz : (a == 0) = true) (hz2 : (b == 0) = true) :
    Calls Try.prog 15 #[.int .i64 a, .int .i64 b] w fun e w' => e = .returned (.tuple #[.int .i64 0, .int .i64 0, .int .i64 0, .bool false]) ∧ Below w.heap.size w w' := by
  have H1 := Aside0.mk h1
  have H2 := Aside0.mk h2
  clear h1 h2
  have HB := Aside0.mk (Below.refl w.heap.size w)
  go_enter Try.func15, Try.ntmps15
  go_wp2_with (first | (go_at_call 59; (with_reducible refine (impl_within.calls a 0 1000000 true _ H1.out).mono ?_); rintro e w' ⟨rfl, ⟨nd, rfl⟩⟩) | (go_at_call 59; (with_reducible refine (impl_within.calls b 0 1000000 true _ H2.out).mono ?_); rintro e w' ⟨rfl, ⟨nd, rfl⟩⟩))
  refine bodyPost_ret (results_list (rs := [.tmp 4, .tmp 5, .tmp 6, .tmp 7]) rfl (by simp) (.tmp (.tmp (.tmp (.tmp .nil))))) rfl ?_
  exact ⟨by first | rfl | (simp; done) | (simp [*]; done), by repeat (first | (with_reducible first | exact HB.out | apply below_alloc | apply pw_below_drewN | apply below_drew1) | exact HB.out)⟩
theorem impl_BothEuclid.calls (k : Nat) (a0 : Int) (a1 : Int) (r1 : Int) (r2 : Int) (r3 : Int) (r4 : Bool) (w : World) (h : impl_BothEuclid.f k a0 a1 = some (r1, r2, r3, r4)) :
    Calls Try.prog 15 #[.int .i64 a0, .int .i64 a1] w fun e w' => e = .returned (.tuple #[.int .i64 r1, .int .i64 r2, .int .i64 r3, .bool r4]) ∧ Below w.heap.size w w' := by
  unfold impl_BothEuclid.f at h
  obtain ⟨t1, e1, h⟩ := Option.bind_eq_some_iff.mp h
  have zero : ∀ {r1 r2 r3 : Int} {r4 : Bool}, (some ((0 : Int), (0 : Int), (0 : Int), false) = some (r1, r2, r3, r4)) → r1 = 0 ∧ r2 = 0 ∧ r3 = 0 ∧ r4 = false := fun h => by
    injection h with h
    injection h with h1 h
    injection h with h2 h
    injection h with h3 h4
    exact ⟨h1.symm, h2.symm, h3.symm, h4.symm⟩
  cases t1 with
  | false =>
    rw [if_neg (by decide)] at h
    obtain ⟨rfl, rfl, rfl, rfl⟩ := zero h
    exact impl_BothEuclid.z1 a0 a1 w e1
  | true =>
    rw [if_pos rfl] at h
    obtain ⟨t2, e2, h⟩ := Option.bind_eq_some_iff.mp h
    cases t2 with
    | false =>
      rw [if_neg (by decide)] at h
      obtain ⟨rfl, rfl, rfl, rfl⟩ := zero h
      exact impl_BothEuclid.z2 a0 a1 w e1 e2
    | true =>
      rw [if_pos rfl] at h
      by_cases c0 : a0 = 0
      · rw [if_pos c0] at h
        by_cases c1 : a1 = 0
        · rw [if_pos c1] at h
          obtain ⟨rfl, rfl, rfl, rfl⟩ := zero h
          exact impl_BothEuclid.z3 a0 a1 w e1 e2 (beq_iff_eq.mpr c0) (beq_iff_eq.mpr c1)
        · rw [if_neg c1] at h
          exact impl_BothEuclid.body2 k a0 a1 r1 r2 r3 r4 w e1 e2 (beq_iff_eq.mpr c0) (beq_eq_false_iff_ne.mpr c1) h
      · rw [if_neg c0] at h
        exact impl_BothEuclid.body k a0 a1 r1 r2 r3 r4 w e1 e2 (beq_eq_false_iff_ne.mpr c0) h

end
end Go.Proofs.Ytdlljfejfgfmgaa.PFnPowers
