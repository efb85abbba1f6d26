-- Printed by wip/tools/patch_print.py; Lean checks it.
import Derived.Test.YtkfbdopfeacnfaaDoorPFnFieldsx0
import Derived.Test.YtkfbdopfeacnfaaDoorPFnFieldsx6
import Derived.Test.YtkfbdopfeacnfaaDoorPFnFieldsx7
import Derived.Test.YtkfbdopfeacnfaaDoorPFnFieldsx8
import Derived.Test.YtkfbdopfeacnfaaDoorPFnFieldsx9
namespace Go.Proofs.YtkfbdopfeacnfaaDoor.PFnFields
open Go.RowKit Go.Proofs.YtkfbdopfeacnfaaDoorW.PrintWords Go.Proofs.YtkfbdopfeacnfaaDoorW.PrintLast Go.Proofs.YtkfbdopfeacnfaaDoorW.PrintMore
attribute [local go_sem] max2_int min2_int max_two min_two max_three min_three max_four min_four   -- for this text's walks alone
set_option linter.unusedVariables false
set_option linter.unusedSimpArgs false

noncomputable section
/-! ### spec_l7V_add: function 49 -/
def spec_l7V_add.p : Nat → List T7 → ByteArray → Nat → Option Nat
 | 0, _, _, _ => none
 | k + 1, ks, key, i => if i < ks.length then ks[i]?.bind fun u => (spec_l7LessKey.f k u.x.f0 key).bind fun b => if b = true then spec_l7V_add.p k ks key (i + 1) else some i else some i
/-- The parts with one more at its place. -/
def spec_l7V_add.f (k : Nat) (kind : Int) (kids : List T7) (t : T7) : Option (List T7) :=
 if kids.length < 1000000 then (if kind = 7 then spec_l7V_add.p k kids t.x.f0 0 else some kids.length).bind fun j => some (kids.take j ++ [t] ++ kids.drop j) else none
theorem spec_l7V_add.mono_p : ∀ k ks key i, LeO (spec_l7V_add.p k ks key i) (spec_l7V_add.p (k + 1) ks key i)
 | 0, _, _, _ => fun r h => by simp [spec_l7V_add.p] at h
 | k + 1, ks, key, i => by
  rw [spec_l7V_add.p, spec_l7V_add.p]
  exact LeO.ite (LeO.bind (LeO.refl _) fun u => LeO.bind (spec_l7LessKey.mono _ _ _) fun b => LeO.ite (spec_l7V_add.mono_p k ks key _) (LeO.refl _)) (LeO.refl _)
theorem spec_l7V_add.mono : ∀ kind kids t k, LeO (spec_l7V_add.f k kind kids t) (spec_l7V_add.f (k + 1) kind kids t) := by
 intro kind kids t k
 unfold spec_l7V_add.f
 exact LeO.ite (LeO.bind (LeO.ite (spec_l7V_add.mono_p _ _ _ _) (LeO.refl _)) fun j => LeO.refl _) (LeO.refl _)
/-! A tree's root is none of its parts. -/
theorem IsT.det {W : World} : ∀ {d d' : Nat} {ok ok' : Nat → Prop} {g : Nat} {t t' : T7}, IsT 72 52 d W ok g t → IsT 72 52 d' W ok' g t' → t = t'
 | 0, _, _, _, _, _, _, h, _ => h.elim
 | _ + 1, 0, _, _, _, _, _, _, h => h.elim
 | d + 1, d' + 1, ok, ok', g, .mk x kids, .mk x' kids', ⟨_, v, gs, h2, h3, h4, h5⟩, ⟨_, v', gs', h2', h3', h4', h5'⟩ => by
  have h4 : gs.length = kids.length := h4
  have h4' : gs'.length = kids'.length := h4'
  rw [h2] at h2'
  injection h2' with h2'
  injection h2' with h2' _ _
  simp only [nodeC, T7.x, Array.mk.injEq, List.cons.injEq, Value.string.injEq, Value.int.injEq, true_and, and_true] at h2'
  obtain ⟨e0, e1, e2, e3, e4, e5⟩ := h2'
  have hx : x = x' := by cases x; cases x'; simp only at e0 e1 e2 e3 e4; subst e0 e1 e2 e3 e4; rfl
  subst e5
  obtain ⟨A, c, rfl⟩ := Kd.R_slice h3
  have hl := (Kd.R_reads' h3').1
  have hg : gs = gs' := by
   apply List.ext_getElem hl
   intro i i1 i2
   obtain ⟨ad, e, hc⟩ := kp_at (W := W) (i := i) (g := gs[i]) h3 (List.getElem?_eq_getElem i1)
   obtain ⟨ad', e', hc'⟩ := kp_at (W := W) (i := i) (g := gs'[i]) h3' (List.getElem?_eq_getElem i2)
   rw [e] at e'
   injection e' with e'
   subst e'
   rw [hc] at hc'
   injection hc' with hc'
   injection hc' with hc'
   injection hc' with hc'
   injection hc'
  subst hg
  have hk : kids = kids' := by
   apply List.ext_getElem (by omega)
   intro i i1 i2
   exact IsT.det (h5 i _ _ (List.getElem?_eq_getElem (by omega)) (List.getElem?_eq_getElem i1)) (h5' i _ _ (List.getElem?_eq_getElem (by omega)) (List.getElem?_eq_getElem i2))
  rw [hx, hk]
theorem IsT.less {W : World} {D g : Nat} {okg : Nat → Prop} {t : T7} (hg : IsT 72 52 D W okg g t) : ∀ {d : Nat} {ok : Nat → Prop} {g0 : Nat} {t0 : T7}, IsT 72 52 d W ok g0 t0 → SizeOf.sizeOf t0 < SizeOf.sizeOf t → IsT 72 52 d W (fun k => ok k ∧ k ≠ g) g0 t0
 | 0, _, _, _, h, _ => h.elim
 | d + 1, ok, g0, .mk x kids, h, hs => by
  have hne : g0 ≠ g := by
   rintro rfl
   rw [IsT.det h hg] at hs
   exact Nat.lt_irrefl _ hs
  obtain ⟨h1, v, gs, h2, h3, h4, h5⟩ := h
  refine ⟨⟨h1, hne⟩, v, gs, h2, Kd.R_mono (Kd.R_bound h3) (fun k hk => ⟨hk.1, ?_⟩), h4, fun i g' t' a b => IsT.less hg (h5 i g' t' a b) ?_⟩
  ·obtain ⟨_, _, _, q, hq, cells, hc⟩ := hk
   rintro rfl
   obtain ⟨vg, gg, hbg, _⟩ := hg.root
   rw [hbg] at hc
   have hq2 : q = 52 := by simpa [kp, Kd.scalar] using hq
   simp only [Option.some.injEq, Obj.cells.injEq] at hc
   rw [hq2] at hc
   exact absurd hc.2.1 (by decide)
  ·have hm : t' ∈ kids := List.mem_of_getElem? b
   have h6 := List.sizeOf_lt_of_mem hm
   have h7 : SizeOf.sizeOf (T7.mk x kids) = 1 + SizeOf.sizeOf x + SizeOf.sizeOf kids := by simp
   omega
/-- What a tree's root leads to is none of the root's own block. -/
theorem IsT.apart {W : World} {d g : Nat} {ok : Nat → Prop} {t : T7} (h : IsT 72 52 d W ok g t) : ∃ (v : Value) (gs : List Nat), W.heap[g]? = some (.cells (nodeC t.x v) 72 (0, 0)) ∧ kp.R 52 W 0 ok v gs ∧ gs.length = t.kids.length ∧ ∃ e, d = e + 1 ∧ IsF 72 52 e W (fun k => ok k ∧ k ≠ g) gs t.kids := by
 obtain ⟨v, gs, h1, h2, h3, e, he, hf⟩ := h.root
 refine ⟨v, gs, h1, h2, h3, e, he, hf.1, fun i g' t' a b => IsT.less h (hf.2 i g' t' a b) ?_⟩
 have hm : t' ∈ t.kids := List.mem_of_getElem? b
 have h6 := List.sizeOf_lt_of_mem hm
 cases t with
 | mk x kids =>
  have h7 : SizeOf.sizeOf (T7.mk x kids) = 1 + SizeOf.sizeOf x + SizeOf.sizeOf kids := by simp
  simp only [T7.kids] at h6
  omega
section
variable {w W : World} {g gx : Nat} {A : Option Addr} {c : Nat} {gs : List Nat}
theorem add_take {n : Nat} (h : Kd.C kp w A gs.length gs) (hn : n ≤ gs.length) (W : World) (hb : Below w.heap.size w W) : ReadsRow (kp.K w) kp.sz W A n (gs.take n) := by
 have h1 := Kd.C_below (Kd.C_take h hn) hb
 rw [List.length_take, Nat.min_eq_left hn] at h1
 exact h1
theorem add_drop {n : Nat} (h : Kd.C kp w A gs.length gs) (hn : n ≤ gs.length) (hc : gs.length ≤ c) (W : World) (hb : Below w.heap.size w W) : ReadsRow (kp.K w) kp.sz W (if c = n then A else A.map (·.add (n * 1))) (gs.length - n) (gs.drop n) := by
 have h1 := Kd.C_below (Kd.C_drop h hn hc) hb
 rw [List.length_drop] at h1
 exact h1
theorem add_drop2 {n : Nat} (h : Kd.C kp w A gs.length gs) (hn : n ≤ gs.length) (hc : gs.length ≤ c) (W : World) (hb : Below w.heap.size w W) : ReadsRow (kp.K w) kp.sz W (if c = n then A else A.map (·.add n)) (gs.length - n) (gs.drop n) := by
 have h1 := add_drop h hn hc W hb
 simp only [Nat.mul_one] at h1
 exact h1
theorem add_keep (h : Below w.heap.size w W) (j : Nat) (u : Value) : w.grownBy (W.setCell ⟨g, j, none⟩ u) (some g) :=
 ⟨h.os, h.tape, h.output, by rw [World.size_setCell]; exact h.size, fun k hk hne => (Below.heap_setCell W ⟨g, j, none⟩ u k (fun e => hne (by rw [e]))).trans (h.block k hk)⟩
theorem add_keep2 (h : w.grownBy W (some g)) (j : Nat) (u : Value) : w.grownBy (W.setCell ⟨g, j, none⟩ u) (some g) :=
 ⟨h.os, h.tape, h.output, by rw [World.size_setCell]; exact h.size, fun k hk hne => (Below.heap_setCell W ⟨g, j, none⟩ u k (fun e => hne (by rw [e]))).trans (h.block k hk hne)⟩
theorem IsF.split {tv tp d : Nat} {ok : Nat → Prop} {ts : List T7} (h : IsF tv tp d w ok gs ts) (j : Nat) {t : T7} (ht : IsT tv tp d w ok gx t) : IsF tv tp d w ok (gs.take j ++ [gx] ++ gs.drop j) (ts.take j ++ [t] ++ ts.drop j) := by
 have hj : (gs.take j).length = (ts.take j).length := by rw [List.length_take, List.length_take, h.1]
 refine ⟨by simp [h.1], fun i g' t' a b => ?_⟩
 rw [List.append_assoc] at a b
 rcases Nat.lt_or_ge i (gs.take j).length with hi | hi
 ·rw [List.getElem?_append_left hi] at a
  rw [List.getElem?_append_left (by rw [← hj]; exact hi)] at b
  rw [List.getElem?_take] at a b
  split at a
  ·rename_i hlt; rw [if_pos hlt] at b; exact h.2 i g' t' a b
  ·cases a
 ·rw [List.getElem?_append_right hi] at a
  rw [List.getElem?_append_right (by rw [← hj]; exact hi), ← hj] at b
  obtain ⟨e, he⟩ : ∃ e, e = i - (gs.take j).length := ⟨_, rfl⟩
  rw [← he] at a b
  cases e with
  | zero =>
   have ea : gx = g' := by simpa using a
   have eb : t = t' := by simpa using b
   rw [← ea, ← eb]; exact ht
  | succ e =>
   simp only [List.singleton_append, List.getElem?_cons_succ, List.getElem?_drop] at a b
   exact h.2 _ g' t' a b
theorem add_done {ok : Nat → Prop} (hok : ∀ k, ok k → k ≠ g) {d N j : Nat} {n : S61} {v : Value} {kids : List T7} {t : T7} {W : World} (hk : w.grownBy W (some g)) (hb : W.heap[g]? = some (.cells (nodeC { n with f4 := (N : Int) } v) 72 (0, 0))) (hR : kp.R 52 W w.heap.size (fun _ => True) v (gs.take j ++ [gx] ++ gs.drop j)) (hF : IsF 72 52 d w ok gs kids) (hT : IsT 72 52 d w ok gx t) (hg : g < w.heap.size) (hj : j ≤ gs.length) (hN : N = (gs.take j ++ [gx] ++ gs.drop j).length) :
  Ending.returned (.tuple #[]) = .returned (.tuple #[]) ∧ ∃ (v' : Value) (gs' : List Nat), W.heap[g]? = some (.cells (nodeC { n with f4 := ((kids.take j ++ [t] ++ kids.drop j).length : Int) } v') 72 (0, 0)) ∧ kp.R 52 W w.heap.size (fun k => k ≠ g) v' gs' ∧ IsF 72 52 d W ok gs' (kids.take j ++ [t] ++ kids.drop j) ∧ w.grownBy W (some g) := by
 have hs := hF.split j hT
 refine ⟨rfl, v, _, ?_, ?_, hs.step (fun k h1 h2 => hk.block k h2 (fun e => hok k h1 (by injection e))), hk⟩
 ·rw [← hs.1, ← hN]; exact hb
 ·exact Kd.R_mono (Kd.R_bound hR) (fun k hk2 => by
   obtain ⟨_, _, _, q, hq, cells, hc⟩ := hk2
   rintro rfl
   rw [hb] at hc
   have hq2 : q = 52 := by simpa [kp, Kd.scalar] using hq
   simp only [Option.some.injEq, Obj.cells.injEq] at hc
   rw [hq2] at hc
   exact absurd hc.2.1 (by decide))
end
set_option maxHeartbeats 16000000 in
set_option maxRecDepth 100000 in
theorem spec_l7V_add.run2 (k : Nat) (n : S61) (kids : List T7) (t : T7) (r : List T7) (h : spec_l7V_add.f k n.f1 kids t = some r) (d g gx : Nat) (v : Value) (gs : List Nat) (ok : Nat → Prop) (hok : ∀ k, ok k → k ≠ g) (w : World) (hb : w.heap[g]? = some (.cells (nodeC n v) 72 (0, 0))) (hR : kp.R 52 w 0 (fun _ => True) v gs) (hF : IsF 72 52 d w ok gs kids) (ht : IsT 72 52 d w ok gx t) :
  Calls Tryd.prog 49 #[.pointer (some ⟨g, 0, none⟩), .pointer (some ⟨gx, 0, none⟩)] w fun e w' => e = .returned (.tuple #[]) ∧ ∃ (v' : Value) (gs' : List Nat), w'.heap[g]? = some (.cells (nodeC { n with f4 := (r.length : Int) } v') 72 (0, 0)) ∧ kp.R 52 w' w.heap.size (fun k => k ≠ g) v' gs' ∧ IsF 72 52 d w' ok gs' r ∧ w.grownBy w' (some g) := by
 have hu61 := Tryd.underlying61
 have hu72 := Tryd.underlying72
 have hu52 := Tryd.underlying52
 have hu70 := Tryd.underlying70
 unfold spec_l7V_add.f at h
 by_cases c0 : kids.length < 1000000
 rotate_left
 ·rw [if_neg c0] at h; cases h
 rw [if_pos c0] at h
 obtain ⟨j, hj, h⟩ := Option.bind_eq_some_iff.mp h
 injection h with h
 have HRES := Aside0.mk h
 clear h
 obtain ⟨A1, c1, rfl⟩ := Kd.R_slice hR
 have HCAP := Aside0.mk (show gs.length ≤ c1 from (Kd.R_reads' hR).2.1)
 have HRD := Aside0.mk (Kd.R_reads' hR).2.2
 have HRR := Aside0.mk hR
 have HGL := Aside0.mk (blk_lt hb)
 have BV := Aside0.mk hb
 have HF := Aside0.mk hF
 have HT := Aside0.mk ht
 have HOK := Aside0.mk hok
 have hgl : gs.length = kids.length := hF.1
 have HLEN := Aside0.mk (show gs.length < 1000000 by omega)
 have C1 := Aside0.mk (show w.cell? ⟨g, 1, none⟩ = some (.int .i64 n.f1) from (blk_cell hb 1).trans rfl)
 have C4 := Aside0.mk (show w.cell? ⟨g, 4, none⟩ = some (.int .i64 n.f4) from (blk_cell hb 4).trans rfl)
 have C5 := Aside0.mk (show w.cell? ⟨g, 5, none⟩ = some (.slice A1 gs.length c1) from (blk_cell hb 5).trans rfl)
 have HB := Aside0.mk (Below.refl w.heap.size w)
 have HKL := Aside0.mk hgl
 clear hb hR hF ht c0 hok
 by_cases c1_ : n.f1 = 7
 rotate_left
 ·rw [if_neg c1_] at hj
  injection hj with hj
  have HJ := Aside0.mk (show j ≤ gs.length by omega)
  have c1b : (n.f1 == 7) = false := beq_eq_false_iff_ne.mpr c1_
  have hje : (gs.length : Int) = (j : Int) := by omega
  have hje : j = gs.length := by omega
  subst hje
  clear c1_ hgl hj
  have hc1 : w.cell? ⟨g, 1, none⟩ = some (.int .i64 n.f1) := (HB.out.cell (World.block_lt_of_cell? _ _ C1.out)).trans C1.out
  have hc4 : w.cell? ⟨g, 4, none⟩ = some (.int .i64 n.f4) := (HB.out.cell (World.block_lt_of_cell? _ _ C4.out)).trans C4.out
  have hc5 : w.cell? ⟨g, 5, none⟩ = some (.slice A1 gs.length c1) := (HB.out.cell (World.block_lt_of_cell? _ _ C5.out)).trans C5.out
  go_enter Tryd.func49, Tryd.ntmps49
  have hj0 : ((0 : Int) ≤ (gs.length : Int)) = True := eq_true (by omega)
  have hj1 : ((gs.length : Int) ≤ (c1 : Int)) = True := eq_true (by have := HJ.out; have := HCAP.out; omega)
  have hj2 : ((gs.length : Int) ≤ (gs.length : Int)) = True := eq_true (by have := HJ.out; omega)
  have hj3 : (gs.length ≤ c1) = True := eq_true (by have := HJ.out; have := HCAP.out; omega)
  have hj4 : (gs.length ≤ gs.length) = True := eq_true (by have := HJ.out; omega)
  have hj5 : ((gs.length : Int) ≤ (c1 : Int)) = True := eq_true (by have := HCAP.out; omega)
  have hj6 : (gs.length ≤ c1) = True := eq_true (by have := HCAP.out; omega)
  have HTK := Aside0.mk (add_take (n := gs.length) HRD.out (show gs.length ≤ gs.length from HJ.out))
  have HDR := Aside0.mk (add_drop (n := gs.length) HRD.out (show gs.length ≤ gs.length from HJ.out) HCAP.out)
  have HDR2 := Aside0.mk (add_drop2 (n := gs.length) HRD.out (show gs.length ≤ gs.length from HJ.out) HCAP.out)
  go_wp2_with (first | ((with_reducible refine gate_dst (N := 45) rfl ?_); refine Kd.R_lit kp _ 52 ?hg (N := 45) ?hd (xs := ([] : List Nat)) (inner := []) (ok := fun _ => True) (okp := fun _ => True) ?hr ?hp (fun _ hk => hk) trivial (Below.refl _ _) (Nat.le_refl _) (by simp) ?_; (case hd => rfl); (case hg => rfl); (case hr => first | (go_simp; done) | (go_simp; rfl)); (case hp => exact (Reps.none _ _)); intro v1 w1 ho hb hg_ hnew_; clear hg_ hnew_; have n0_ := Aside0.mk (Kd.R_lower ho (below_size (by repeat (first | exact HB.out | apply pw_below_drewN | apply below_drew1 | apply below_alloc)))); have n1_ := Aside0.mk (below_step (by repeat (first | exact HB.out | apply pw_below_drewN | apply below_drew1 | apply below_alloc)) hb); (try clear hc1); (try clear hc4); (try clear hc5); clear HB ho hb; have HO := n0_; have HB := n1_; clear n0_ n1_; have hc1 : w1.cell? ⟨g, 1, none⟩ = some (.int .i64 n.f1) := (HB.out.cell (World.block_lt_of_cell? _ _ C1.out)).trans C1.out; have hc4 : w1.cell? ⟨g, 4, none⟩ = some (.int .i64 n.f4) := (HB.out.cell (World.block_lt_of_cell? _ _ C4.out)).trans C4.out; have hc5 : w1.cell? ⟨g, 5, none⟩ = some (.slice A1 gs.length c1) := (HB.out.cell (World.block_lt_of_cell? _ _ C5.out)).trans C5.out) | ((with_reducible refine gate_builtin (b := .append) (xs := #[.tmp 45, .tmp 51]) rfl ?_); at_builtin; refine Kd.R_append_rows kp (Rr := kp.K w) (w0 := w) w.heap.size rfl (.tmp 45) (.tmp 51) 70 52 (.pointer none) 8 rfl Tryd.underlying70 info52 rfl (by decide) (by omega) v1 [] (gs.take gs.length) _ _ _ (fun _ => True) (fun _ => False) rfl rfl ?aO ?aR (fun _ _ h => h) (fun _ h => h.elim) ?aF ?aB ?aS ?aL ?_; (case aR => exact HTK.out _ HB.out); (case aB => exact HB.out); (case aF => exact (fun _ _ => trivial)); (case aO => exact HO.out); (case aS => exact (below_size HB.out)); (case aL => have := HJ.out; have := HLEN.out; simp only [List.length_nil, List.length_take]; omega); intro v2 w2 ho hb hg hat; rw [List.nil_append] at ho; have n0_ := Aside0.mk hb; have n1_ := Aside0.mk ho; (try clear hc1); (try clear hc4); (try clear hc5); clear HB HO ho hb hg hat; have HB := n0_; have HO := n1_; clear n0_ n1_; (obtain ⟨A2, c2, rfl⟩ := Kd.R_slice HO.out); (obtain ⟨N2, hN2⟩ : ∃ N2, N2 = (gs.take gs.length).length := ⟨_, rfl⟩); rw [← hN2] at HO; rw [← hN2]; clear hN2; have hc1 : w2.cell? ⟨g, 1, none⟩ = some (.int .i64 n.f1) := (HB.out.cell (World.block_lt_of_cell? _ _ C1.out)).trans C1.out; have hc4 : w2.cell? ⟨g, 4, none⟩ = some (.int .i64 n.f4) := (HB.out.cell (World.block_lt_of_cell? _ _ C4.out)).trans C4.out; have hc5 : w2.cell? ⟨g, 5, none⟩ = some (.slice A1 gs.length c1) := (HB.out.cell (World.block_lt_of_cell? _ _ C5.out)).trans C5.out) | ((with_reducible refine gate_builtin (b := .append) (xs := #[.tmp 53, .tmp 55]) rfl ?_); at_builtin; refine Kd.R_append kp (w0 := w) w.heap.size rfl (.tmp 53) (.tmp 55) 70 52 (.pointer none) 8 rfl Tryd.underlying70 info52 rfl (by decide) (by omega) (.slice A2 N2 c2) (gs.take gs.length) gx [.pointer (some ⟨gx, 0, none⟩)] (fun _ => True) (fun _ => False) rfl rfl rfl (fun _ h_ => h_.elim) (fun _ _ => trivial) ?aO ?aB ?aS ?aL ?_; (case aO => exact (by (with_reducible repeat (first | apply Kd.R_alloc | apply Kd.R_drewN | apply Kd.R_drew)); exact HO.out)); (case aB => exact (by repeat (first | exact HB.out | apply pw_below_drewN | apply below_drew1 | apply below_alloc))); (case aS => exact below_size (by repeat (first | exact HB.out | apply pw_below_drewN | apply below_drew1 | apply below_alloc))); (case aL => have := HJ.out; have := HLEN.out; simp only [List.length_take]; omega); intro v3 w3 ho hb hg hat; have n0_ := Aside0.mk hb; have n1_ := Aside0.mk ho; (try clear hc1); (try clear hc4); (try clear hc5); clear HB HO ho hb hg hat; have HB := n0_; have HO := n1_; clear n0_ n1_; (obtain ⟨A3, c3, rfl⟩ := Kd.R_slice HO.out); (obtain ⟨N3, hN3⟩ : ∃ N3, N3 = (gs.take gs.length ++ [gx]).length := ⟨_, rfl⟩); rw [← hN3] at HO; rw [← hN3]; clear hN3; have hc1 : w3.cell? ⟨g, 1, none⟩ = some (.int .i64 n.f1) := (HB.out.cell (World.block_lt_of_cell? _ _ C1.out)).trans C1.out; have hc4 : w3.cell? ⟨g, 4, none⟩ = some (.int .i64 n.f4) := (HB.out.cell (World.block_lt_of_cell? _ _ C4.out)).trans C4.out; have hc5 : w3.cell? ⟨g, 5, none⟩ = some (.slice A1 gs.length c1) := (HB.out.cell (World.block_lt_of_cell? _ _ C5.out)).trans C5.out) | ((with_reducible refine gate_builtin (b := .append) (xs := #[.tmp 58, .tmp 64]) rfl ?_); at_builtin; refine Kd.R_append_rows kp (Rr := kp.K w) (w0 := w) w.heap.size rfl (.tmp 58) (.tmp 64) 70 52 (.pointer none) 8 rfl Tryd.underlying70 info52 rfl (by decide) (by omega) (.slice A3 N3 c3) (gs.take gs.length ++ [gx]) (gs.drop gs.length) _ _ _ (fun _ => True) (fun _ => False) rfl rfl ?aO ?aR (fun _ _ h => h) (fun _ h => h.elim) ?aF ?aB ?aS ?aL ?_; (case aR => first | exact HDR.out _ HB.out | exact HDR2.out _ HB.out | (have h_ := HDR2.out _ HB.out; simp only [Nat.sub_self] at h_; exact h_) | (have h_ := HDR.out _ HB.out; simp only [Nat.sub_self] at h_; exact h_)); (case aB => exact HB.out); (case aF => exact (fun _ _ => trivial)); (case aO => exact HO.out); (case aS => exact (below_size HB.out)); (case aL => have := HJ.out; have := HLEN.out; simp only [List.length_append, List.length_take, List.length_drop, List.length_singleton]; omega); intro v4 w4 ho hb hg hat; have n0_ := Aside0.mk hb; have n1_ := Aside0.mk ho; (try clear hc1); (try clear hc4); (try clear hc5); clear HB HO ho hb hg hat; have HB := n0_; have HO := n1_; clear n0_ n1_; (obtain ⟨A4, c4, rfl⟩ := Kd.R_slice HO.out); (obtain ⟨N4, hN4⟩ : ∃ N4, N4 = (gs.take gs.length ++ [gx] ++ gs.drop gs.length).length := ⟨_, rfl⟩); rw [← hN4] at HO; rw [← hN4]; have HN4 := Aside0.mk hN4; clear hN4; have hbx := Aside0.mk ((HB.out.block g HGL.out).trans BV.out); have hf5 := blk_frozen hbx.out 5; clear hbx; have hc1 : w4.cell? ⟨g, 1, none⟩ = some (.int .i64 n.f1) := (HB.out.cell (World.block_lt_of_cell? _ _ C1.out)).trans C1.out; have hc4 : w4.cell? ⟨g, 4, none⟩ = some (.int .i64 n.f4) := (HB.out.cell (World.block_lt_of_cell? _ _ C4.out)).trans C4.out; have hc5 : w4.cell? ⟨g, 5, none⟩ = some (.slice A1 gs.length c1) := (HB.out.cell (World.block_lt_of_cell? _ _ C5.out)).trans C5.out) | ((with_reducible refine gate_store (t := 70) (p := 67) rfl ?_); refine store_event (t := 70) (p := 67) (v := .tmp 65) (w1 := (w4.setCell ⟨g, 5, none⟩ (.slice A4 N4 c4))) ?hg ?ho ?hn ?hr ?_; (case ho => rfl); (case hg => rfl); (case hn => rfl); (case hr => first | (go_simp; done) | (go_simp; rfl)); intro w5 hw; have m1_ := Aside0.mk (show w5.heap[g]? = some (.cells (nodeC n (.slice A4 N4 c4)) 72 (0, 0)) from (by rw [hw]; exact (blk_put (cs' := nodeC n (.slice A4 N4 c4)) ((HB.out.block g HGL.out).trans BV.out) 5 (.slice A4 N4 c4) rfl))); have m2_ := Aside0.mk (show kp.R 52 w5 w.heap.size (fun _ => True) (.slice A4 N4 c4) (gs.take gs.length ++ [gx] ++ gs.drop gs.length) from (by rw [hw]; exact Kd.R_set HO.out ((HB.out.block g HGL.out).trans BV.out) (by decide) 5 _)); have m0_ := Aside0.mk (show w.grownBy w5 (some g) from (by rw [hw]; exact add_keep HB.out _ _)); (try clear hc1); (try clear hc4); (try clear hc5); clear hf5 hw HB HO; have HK := m0_; have BW := m1_; have HO := m2_; clear m0_ m1_ m2_; (try simp only [Act.put, List.setIfInBounds_toArray, List.set_cons_zero, List.set_cons_succ]); have hc5 : w5.cell? ⟨g, 5, none⟩ = some (.slice A4 N4 c4) := (blk_cell BW.out 5).trans rfl; have hc4 : w5.cell? ⟨g, 4, none⟩ = some (.int .i64 n.f4) := (blk_cell BW.out 4).trans rfl; have hf4 := blk_frozen BW.out 4) | ((with_reducible refine gate_store (t := 3) (p := 76) rfl ?_); refine store_event (t := 3) (p := 76) (v := .tmp 73) (w1 := (w5.setCell ⟨g, 4, none⟩ (.int .i64 (N4 : Int)))) ?hg ?ho ?hn ?hr ?_; (case ho => rfl); (case hg => rfl); (case hn => rfl); (case hr => first | (go_simp; done) | (go_simp; rfl)); intro w6 hw; have m1_ := Aside0.mk (show w6.heap[g]? = some (.cells (nodeC { n with f4 := (N4 : Int) } (.slice A4 N4 c4)) 72 (0, 0)) from (by rw [hw]; exact (blk_put (cs' := nodeC { n with f4 := (N4 : Int) } (.slice A4 N4 c4)) BW.out 4 (.int .i64 (N4 : Int)) rfl))); have m2_ := Aside0.mk (show kp.R 52 w6 w.heap.size (fun _ => True) (.slice A4 N4 c4) (gs.take gs.length ++ [gx] ++ gs.drop gs.length) from (by rw [hw]; exact Kd.R_set HO.out BW.out (by decide) 4 _)); have m0_ := Aside0.mk (show w.grownBy w6 (some g) from (by rw [hw]; exact add_keep2 HK.out _ _)); clear hc5 hc4 hf4 hw HK BW HO; have HK := m0_; have BW := m1_; have HO := m2_; clear m0_ m1_ m2_; (try simp only [Act.put, List.setIfInBounds_toArray, List.set_cons_zero, List.set_cons_succ])))
  all_goals
   first | go_end0 | ((try simp only [Exit.inBlock, Exit.then]); refine bodyPost_ret (results_none rfl _ _ _) rfl ?_)
   rw [← HRES.out]
   obtain ⟨e_, v_, gs_, b1_, b2_, b3_, b4_⟩ := add_done HOK.out HK.out BW.out HO.out HF.out HT.out HGL.out HJ.out HN4.out
   first | exact ⟨e_, v_, b1_, gs_, b2_, b3_, b4_⟩ | exact ⟨e_, v_, gs_, b1_, b2_, b3_, b4_⟩
 rw [if_pos c1_] at hj
 have c1b : (n.f1 == 7) = true := beq_iff_eq.mpr c1_
 have HL := Aside0.mk hj
 clear c1_ hj hgl
 have hc1 : w.cell? ⟨g, 1, none⟩ = some (.int .i64 n.f1) := (HB.out.cell (World.block_lt_of_cell? _ _ C1.out)).trans C1.out
 have hc4 : w.cell? ⟨g, 4, none⟩ = some (.int .i64 n.f4) := (HB.out.cell (World.block_lt_of_cell? _ _ C4.out)).trans C4.out
 have hc5 : w.cell? ⟨g, 5, none⟩ = some (.slice A1 gs.length c1) := (HB.out.cell (World.block_lt_of_cell? _ _ C5.out)).trans C5.out
 go_enter Tryd.func49, Tryd.ntmps49
 go_wp2
 clear hc1 hc4 hc5
 go_loopg [4] k (fun kq v4 w' => ∃ (i : Nat), v4 = .int .i64 i ∧ Aside0 (spec_l7V_add.p kq kids t.x.f0 i = some j ∧ kq ≤ k ∧ i ≤ gs.length) ∧ Aside0 (Below w.heap.size w w'))
 case atStart => exact ⟨0, rfl, ⟨HL.out, Nat.le_refl _, Nat.zero_le _⟩, HB⟩
 case round =>
  clear HL HB
  obtain ⟨i, rfl, HL, HB⟩ := hrel
  cases gk with
  | zero => have := HL.out.1; rw [spec_l7V_add.p] at this; cases this
  | succ m =>
  have h := HL.out.1
  have hgl := HKL.out
  rw [spec_l7V_add.p] at h
  have hc1 : wr.cell? ⟨g, 1, none⟩ = some (.int .i64 n.f1) := (HB.out.cell (World.block_lt_of_cell? _ _ C1.out)).trans C1.out
  have hc4 : wr.cell? ⟨g, 4, none⟩ = some (.int .i64 n.f4) := (HB.out.cell (World.block_lt_of_cell? _ _ C4.out)).trans C4.out
  have hc5 : wr.cell? ⟨g, 5, none⟩ = some (.slice A1 gs.length c1) := (HB.out.cell (World.block_lt_of_cell? _ _ C5.out)).trans C5.out
  by_cases c5 : i < kids.length
  rotate_left
  ·rw [if_neg c5] at h
   injection h with h
   have hji : i = j := h
   subst hji
   have c5b0 : decide ((i : Int) < (gs.length : Int)) = false := decide_eq_false (by omega)
   have c5b1 : decide (i < gs.length) = false := decide_eq_false (by omega)
   have HJ := Aside0.mk HL.out.2.2
   clear c5 h hgl
   go_wp2
   go_quiet (fail)
   have hj0 : ((0 : Int) ≤ (i : Int)) = True := eq_true (by omega)
   have hj1 : ((i : Int) ≤ (c1 : Int)) = True := eq_true (by have := HJ.out; have := HCAP.out; omega)
   have hj2 : ((i : Int) ≤ (gs.length : Int)) = True := eq_true (by have := HJ.out; omega)
   have hj3 : (i ≤ c1) = True := eq_true (by have := HJ.out; have := HCAP.out; omega)
   have hj4 : (i ≤ gs.length) = True := eq_true (by have := HJ.out; omega)
   have hj5 : ((gs.length : Int) ≤ (c1 : Int)) = True := eq_true (by have := HCAP.out; omega)
   have hj6 : (gs.length ≤ c1) = True := eq_true (by have := HCAP.out; omega)
   have HTK := Aside0.mk (add_take (n := i) HRD.out (show i ≤ gs.length from HJ.out))
   have HDR := Aside0.mk (add_drop (n := i) HRD.out (show i ≤ gs.length from HJ.out) HCAP.out)
   have HDR2 := Aside0.mk (add_drop2 (n := i) HRD.out (show i ≤ gs.length from HJ.out) HCAP.out)
   go_wp2_with (first | ((with_reducible refine gate_dst (N := 45) rfl ?_); refine Kd.R_lit kp _ 52 ?hg (N := 45) ?hd (xs := ([] : List Nat)) (inner := []) (ok := fun _ => True) (okp := fun _ => True) ?hr ?hp (fun _ hk => hk) trivial (Below.refl _ _) (Nat.le_refl _) (by simp) ?_; (case hd => rfl); (case hg => rfl); (case hr => first | (go_simp; done) | (go_simp; rfl)); (case hp => exact (Reps.none _ _)); intro v1 w1 ho hb hg_ hnew_; clear hg_ hnew_; have n0_ := Aside0.mk (Kd.R_lower ho (below_size (by repeat (first | exact HB.out | apply pw_below_drewN | apply below_drew1 | apply below_alloc)))); have n1_ := Aside0.mk (below_step (by repeat (first | exact HB.out | apply pw_below_drewN | apply below_drew1 | apply below_alloc)) hb); (try clear hc1); (try clear hc4); (try clear hc5); clear HB ho hb; have HO := n0_; have HB := n1_; clear n0_ n1_; have hc1 : w1.cell? ⟨g, 1, none⟩ = some (.int .i64 n.f1) := (HB.out.cell (World.block_lt_of_cell? _ _ C1.out)).trans C1.out; have hc4 : w1.cell? ⟨g, 4, none⟩ = some (.int .i64 n.f4) := (HB.out.cell (World.block_lt_of_cell? _ _ C4.out)).trans C4.out; have hc5 : w1.cell? ⟨g, 5, none⟩ = some (.slice A1 gs.length c1) := (HB.out.cell (World.block_lt_of_cell? _ _ C5.out)).trans C5.out) | ((with_reducible refine gate_builtin (b := .append) (xs := #[.tmp 45, .tmp 51]) rfl ?_); at_builtin; refine Kd.R_append_rows kp (Rr := kp.K w) (w0 := w) w.heap.size rfl (.tmp 45) (.tmp 51) 70 52 (.pointer none) 8 rfl Tryd.underlying70 info52 rfl (by decide) (by omega) v1 [] (gs.take i) _ _ _ (fun _ => True) (fun _ => False) rfl rfl ?aO ?aR (fun _ _ h => h) (fun _ h => h.elim) ?aF ?aB ?aS ?aL ?_; (case aR => exact HTK.out _ HB.out); (case aB => exact HB.out); (case aF => exact (fun _ _ => trivial)); (case aO => exact HO.out); (case aS => exact (below_size HB.out)); (case aL => have := HJ.out; have := HLEN.out; simp only [List.length_nil, List.length_take]; omega); intro v2 w2 ho hb hg hat; rw [List.nil_append] at ho; have n0_ := Aside0.mk hb; have n1_ := Aside0.mk ho; (try clear hc1); (try clear hc4); (try clear hc5); clear HB HO ho hb hg hat; have HB := n0_; have HO := n1_; clear n0_ n1_; (obtain ⟨A2, c2, rfl⟩ := Kd.R_slice HO.out); (obtain ⟨N2, hN2⟩ : ∃ N2, N2 = (gs.take i).length := ⟨_, rfl⟩); rw [← hN2] at HO; rw [← hN2]; clear hN2; have hc1 : w2.cell? ⟨g, 1, none⟩ = some (.int .i64 n.f1) := (HB.out.cell (World.block_lt_of_cell? _ _ C1.out)).trans C1.out; have hc4 : w2.cell? ⟨g, 4, none⟩ = some (.int .i64 n.f4) := (HB.out.cell (World.block_lt_of_cell? _ _ C4.out)).trans C4.out; have hc5 : w2.cell? ⟨g, 5, none⟩ = some (.slice A1 gs.length c1) := (HB.out.cell (World.block_lt_of_cell? _ _ C5.out)).trans C5.out) | ((with_reducible refine gate_builtin (b := .append) (xs := #[.tmp 53, .tmp 55]) rfl ?_); at_builtin; refine Kd.R_append kp (w0 := w) w.heap.size rfl (.tmp 53) (.tmp 55) 70 52 (.pointer none) 8 rfl Tryd.underlying70 info52 rfl (by decide) (by omega) (.slice A2 N2 c2) (gs.take i) gx [.pointer (some ⟨gx, 0, none⟩)] (fun _ => True) (fun _ => False) rfl rfl rfl (fun _ h_ => h_.elim) (fun _ _ => trivial) ?aO ?aB ?aS ?aL ?_; (case aO => exact (by (with_reducible repeat (first | apply Kd.R_alloc | apply Kd.R_drewN | apply Kd.R_drew)); exact HO.out)); (case aB => exact (by repeat (first | exact HB.out | apply pw_below_drewN | apply below_drew1 | apply below_alloc))); (case aS => exact below_size (by repeat (first | exact HB.out | apply pw_below_drewN | apply below_drew1 | apply below_alloc))); (case aL => have := HJ.out; have := HLEN.out; simp only [List.length_take]; omega); intro v3 w3 ho hb hg hat; have n0_ := Aside0.mk hb; have n1_ := Aside0.mk ho; (try clear hc1); (try clear hc4); (try clear hc5); clear HB HO ho hb hg hat; have HB := n0_; have HO := n1_; clear n0_ n1_; (obtain ⟨A3, c3, rfl⟩ := Kd.R_slice HO.out); (obtain ⟨N3, hN3⟩ : ∃ N3, N3 = (gs.take i ++ [gx]).length := ⟨_, rfl⟩); rw [← hN3] at HO; rw [← hN3]; clear hN3; have hc1 : w3.cell? ⟨g, 1, none⟩ = some (.int .i64 n.f1) := (HB.out.cell (World.block_lt_of_cell? _ _ C1.out)).trans C1.out; have hc4 : w3.cell? ⟨g, 4, none⟩ = some (.int .i64 n.f4) := (HB.out.cell (World.block_lt_of_cell? _ _ C4.out)).trans C4.out; have hc5 : w3.cell? ⟨g, 5, none⟩ = some (.slice A1 gs.length c1) := (HB.out.cell (World.block_lt_of_cell? _ _ C5.out)).trans C5.out) | ((with_reducible refine gate_builtin (b := .append) (xs := #[.tmp 58, .tmp 64]) rfl ?_); at_builtin; refine Kd.R_append_rows kp (Rr := kp.K w) (w0 := w) w.heap.size rfl (.tmp 58) (.tmp 64) 70 52 (.pointer none) 8 rfl Tryd.underlying70 info52 rfl (by decide) (by omega) (.slice A3 N3 c3) (gs.take i ++ [gx]) (gs.drop i) _ _ _ (fun _ => True) (fun _ => False) rfl rfl ?aO ?aR (fun _ _ h => h) (fun _ h => h.elim) ?aF ?aB ?aS ?aL ?_; (case aR => first | exact HDR.out _ HB.out | exact HDR2.out _ HB.out | (have h_ := HDR2.out _ HB.out; simp only [Nat.sub_self] at h_; exact h_) | (have h_ := HDR.out _ HB.out; simp only [Nat.sub_self] at h_; exact h_)); (case aB => exact HB.out); (case aF => exact (fun _ _ => trivial)); (case aO => exact HO.out); (case aS => exact (below_size HB.out)); (case aL => have := HJ.out; have := HLEN.out; simp only [List.length_append, List.length_take, List.length_drop, List.length_singleton]; omega); intro v4 w4 ho hb hg hat; have n0_ := Aside0.mk hb; have n1_ := Aside0.mk ho; (try clear hc1); (try clear hc4); (try clear hc5); clear HB HO ho hb hg hat; have HB := n0_; have HO := n1_; clear n0_ n1_; (obtain ⟨A4, c4, rfl⟩ := Kd.R_slice HO.out); (obtain ⟨N4, hN4⟩ : ∃ N4, N4 = (gs.take i ++ [gx] ++ gs.drop i).length := ⟨_, rfl⟩); rw [← hN4] at HO; rw [← hN4]; have HN4 := Aside0.mk hN4; clear hN4; have hbx := Aside0.mk ((HB.out.block g HGL.out).trans BV.out); have hf5 := blk_frozen hbx.out 5; clear hbx; have hc1 : w4.cell? ⟨g, 1, none⟩ = some (.int .i64 n.f1) := (HB.out.cell (World.block_lt_of_cell? _ _ C1.out)).trans C1.out; have hc4 : w4.cell? ⟨g, 4, none⟩ = some (.int .i64 n.f4) := (HB.out.cell (World.block_lt_of_cell? _ _ C4.out)).trans C4.out; have hc5 : w4.cell? ⟨g, 5, none⟩ = some (.slice A1 gs.length c1) := (HB.out.cell (World.block_lt_of_cell? _ _ C5.out)).trans C5.out) | ((with_reducible refine gate_store (t := 70) (p := 67) rfl ?_); refine store_event (t := 70) (p := 67) (v := .tmp 65) (w1 := (w4.setCell ⟨g, 5, none⟩ (.slice A4 N4 c4))) ?hg ?ho ?hn ?hr ?_; (case ho => rfl); (case hg => rfl); (case hn => rfl); (case hr => first | (go_simp; done) | (go_simp; rfl)); intro w5 hw; have m1_ := Aside0.mk (show w5.heap[g]? = some (.cells (nodeC n (.slice A4 N4 c4)) 72 (0, 0)) from (by rw [hw]; exact (blk_put (cs' := nodeC n (.slice A4 N4 c4)) ((HB.out.block g HGL.out).trans BV.out) 5 (.slice A4 N4 c4) rfl))); have m2_ := Aside0.mk (show kp.R 52 w5 w.heap.size (fun _ => True) (.slice A4 N4 c4) (gs.take i ++ [gx] ++ gs.drop i) from (by rw [hw]; exact Kd.R_set HO.out ((HB.out.block g HGL.out).trans BV.out) (by decide) 5 _)); have m0_ := Aside0.mk (show w.grownBy w5 (some g) from (by rw [hw]; exact add_keep HB.out _ _)); (try clear hc1); (try clear hc4); (try clear hc5); clear hf5 hw HB HO; have HK := m0_; have BW := m1_; have HO := m2_; clear m0_ m1_ m2_; (try simp only [Act.put, List.setIfInBounds_toArray, List.set_cons_zero, List.set_cons_succ]); have hc5 : w5.cell? ⟨g, 5, none⟩ = some (.slice A4 N4 c4) := (blk_cell BW.out 5).trans rfl; have hc4 : w5.cell? ⟨g, 4, none⟩ = some (.int .i64 n.f4) := (blk_cell BW.out 4).trans rfl; have hf4 := blk_frozen BW.out 4) | ((with_reducible refine gate_store (t := 3) (p := 76) rfl ?_); refine store_event (t := 3) (p := 76) (v := .tmp 73) (w1 := (w5.setCell ⟨g, 4, none⟩ (.int .i64 (N4 : Int)))) ?hg ?ho ?hn ?hr ?_; (case ho => rfl); (case hg => rfl); (case hn => rfl); (case hr => first | (go_simp; done) | (go_simp; rfl)); intro w6 hw; have m1_ := Aside0.mk (show w6.heap[g]? = some (.cells (nodeC { n with f4 := (N4 : Int) } (.slice A4 N4 c4)) 72 (0, 0)) from (by rw [hw]; exact (blk_put (cs' := nodeC { n with f4 := (N4 : Int) } (.slice A4 N4 c4)) BW.out 4 (.int .i64 (N4 : Int)) rfl))); have m2_ := Aside0.mk (show kp.R 52 w6 w.heap.size (fun _ => True) (.slice A4 N4 c4) (gs.take i ++ [gx] ++ gs.drop i) from (by rw [hw]; exact Kd.R_set HO.out BW.out (by decide) 4 _)); have m0_ := Aside0.mk (show w.grownBy w6 (some g) from (by rw [hw]; exact add_keep2 HK.out _ _)); clear hc5 hc4 hf4 hw HK BW HO; have HK := m0_; have BW := m1_; have HO := m2_; clear m0_ m1_ m2_; (try simp only [Act.put, List.setIfInBounds_toArray, List.set_cons_zero, List.set_cons_succ])))
   all_goals
    first | go_end0 | ((try simp only [Exit.inBlock, Exit.then]); refine bodyPost_ret (results_none rfl _ _ _) rfl ?_)
    rw [← HRES.out]
    obtain ⟨e_, v_, gs_, b1_, b2_, b3_, b4_⟩ := add_done HOK.out HK.out BW.out HO.out HF.out HT.out HGL.out HJ.out HN4.out
    first | exact ⟨e_, v_, b1_, gs_, b2_, b3_, b4_⟩ | exact ⟨e_, v_, gs_, b1_, b2_, b3_, b4_⟩
  rw [if_pos c5] at h
  have c5b0 : decide ((i : Int) < (gs.length : Int)) = true := decide_eq_true (by omega)
  have c5b1 : decide (i < gs.length) = true := decide_eq_true (by omega)
  obtain ⟨u, hul, h⟩ := Option.bind_eq_some_iff.mp h
  obtain ⟨b, hb0, h⟩ := Option.bind_eq_some_iff.mp h
  have HLS := Aside0.mk hb0
  obtain ⟨gl, hgg⟩ : ∃ gl, gs[i]? = some gl := ⟨_, List.getElem?_eq_getElem (by omega)⟩
  clear hb0
  cases b with
  | true =>
   rw [if_pos rfl] at h
   have HL2 := Aside0.mk (show spec_l7V_add.p m kids t.x.f0 (i + 1) = some j ∧ m ≤ k ∧ i + 1 ≤ gs.length from ⟨h, by have := HL.out.2.1; omega, by omega⟩)
   have HLT := Aside0.mk (show i < gs.length by omega)
   clear c5 h hgl
   go_wp2
   refine wp_region_still_tail 24 (by kernel_rfl) (by kernel_rfl) ?_
   simp only [List.take_succ_cons, List.take_zero, List.drop_succ_cons, List.drop_zero]
   change wpStill _ _ wr.drew (fun a' => wpList _ _ _ _ a' wr.drew) _ _
   have m0_ := Aside0.mk (below_drew1 HB.out)
   clear HB hc1 hc4 hc5
   generalize wr.drew = w6 at m0_ ⊢
   have HB := m0_
   clear m0_
   obtain ⟨ad2, ea, hcl0⟩ := kp_at HRR.out hgg
   have hcl := (HB.out.cell (World.block_lt_of_cell? _ _ hcl0)).trans hcl0
   obtain ⟨vu, gsu, hbu0, _⟩ := (HF.out.2 i gl u hgg hul).root
   have hcu0 : w.cell? ⟨gl, 0, none⟩ = some (.string u.x.f0) := (blk_cell hbu0 0).trans rfl
   have hcu := (HB.out.cell (World.block_lt_of_cell? _ _ hcu0)).trans hcu0
   obtain ⟨vt, gst, hbt0, _⟩ := HT.out.root
   have hct0 : w.cell? ⟨gx, 0, none⟩ = some (.string t.x.f0) := (blk_cell hbt0 0).trans rfl
   have hct := (HB.out.cell (World.block_lt_of_cell? _ _ hct0)).trans hct0
   subst ea
   have hi2 : ((0 : Int) ≤ (i : Int)) = True := eq_true (by omega)
   have hi3 : ((i : Int) < (gs.length : Int)) = True := eq_true (by have := HLT.out; omega)
   have hi4 : wrap64 ((i : Int) + 1) = ((i + 1 : Nat) : Int) := by have := HLEN.out; have := HLT.out; unfold wrap64; omega
   have hi5 : IntKind.i64.wrap ((i : Int) + 1) = ((i + 1 : Nat) : Int) := by have := HLEN.out; have := HLT.out; rw [IntKind.wrap_i64]; omega
   clear hgg hul hbu0 hbt0 hcu0 hct0 hcl0
   have hc1 : w6.cell? ⟨g, 1, none⟩ = some (.int .i64 n.f1) := (HB.out.cell (World.block_lt_of_cell? _ _ C1.out)).trans C1.out
   have hc4 : w6.cell? ⟨g, 4, none⟩ = some (.int .i64 n.f4) := (HB.out.cell (World.block_lt_of_cell? _ _ C4.out)).trans C4.out
   have hc5 : w6.cell? ⟨g, 5, none⟩ = some (.slice (some ad2) gs.length c1) := (HB.out.cell (World.block_lt_of_cell? _ _ C5.out)).trans C5.out
   repeat still_step
   refine wpStill_nil ?_
   go_wp2_with (first | (go_at_call 80; refine (spec_l7LessKey.calls m u.x.f0 t.x.f0 true _ HLS.out).mono ?_; rintro e w9 ⟨rfl, hb⟩; have m0_ := Aside0.mk (below_step HB.out hb); clear hcl hcu hct hi2 hi3 hi4 hc1 hc4 hc5 HB hb; have HB := m0_; clear m0_; have hc1 : w9.cell? ⟨g, 1, none⟩ = some (.int .i64 n.f1) := (HB.out.cell (World.block_lt_of_cell? _ _ C1.out)).trans C1.out; have hc4 : w9.cell? ⟨g, 4, none⟩ = some (.int .i64 n.f4) := (HB.out.cell (World.block_lt_of_cell? _ _ C4.out)).trans C4.out; have hc5 : w9.cell? ⟨g, 5, none⟩ = some (.slice (some ad2) gs.length c1) := (HB.out.cell (World.block_lt_of_cell? _ _ C5.out)).trans C5.out))
   go_roundg m
   case measure => have := HL2.out.2.1; omega
   case rel => exact ⟨i + 1, rfl, HL2, HB⟩
  | false =>
   rw [if_neg (by decide)] at h
   injection h with h
   have hji : i = j := h
   have HLT0 := Aside0.mk (show i < gs.length by omega)
   subst hji
   have HJ := Aside0.mk HL.out.2.2
   have HLT := Aside0.mk (show i < gs.length by omega)
   clear c5 h hgl
   have hj0 : ((0 : Int) ≤ (i : Int)) = True := eq_true (by omega)
   have hj1 : ((i : Int) ≤ (c1 : Int)) = True := eq_true (by have := HJ.out; have := HCAP.out; omega)
   have hj2 : ((i : Int) ≤ (gs.length : Int)) = True := eq_true (by have := HJ.out; omega)
   have hj3 : (i ≤ c1) = True := eq_true (by have := HJ.out; have := HCAP.out; omega)
   have hj4 : (i ≤ gs.length) = True := eq_true (by have := HJ.out; omega)
   have hj5 : ((gs.length : Int) ≤ (c1 : Int)) = True := eq_true (by have := HCAP.out; omega)
   have hj6 : (gs.length ≤ c1) = True := eq_true (by have := HCAP.out; omega)
   have HTK := Aside0.mk (add_take (n := i) HRD.out (show i ≤ gs.length from HJ.out))
   have HDR := Aside0.mk (add_drop (n := i) HRD.out (show i ≤ gs.length from HJ.out) HCAP.out)
   have HDR2 := Aside0.mk (add_drop2 (n := i) HRD.out (show i ≤ gs.length from HJ.out) HCAP.out)
   go_wp2
   refine wp_region_still_tail 24 (by kernel_rfl) (by kernel_rfl) ?_
   simp only [List.take_succ_cons, List.take_zero, List.drop_succ_cons, List.drop_zero]
   change wpStill _ _ wr.drew (fun a' => wpList _ _ _ _ a' wr.drew) _ _
   have m0_ := Aside0.mk (below_drew1 HB.out)
   clear HB hc1 hc4 hc5
   generalize wr.drew = w6 at m0_ ⊢
   have HB := m0_
   clear m0_
   obtain ⟨ad2, ea, hcl0⟩ := kp_at HRR.out hgg
   have hcl := (HB.out.cell (World.block_lt_of_cell? _ _ hcl0)).trans hcl0
   obtain ⟨vu, gsu, hbu0, _⟩ := (HF.out.2 i gl u hgg hul).root
   have hcu0 : w.cell? ⟨gl, 0, none⟩ = some (.string u.x.f0) := (blk_cell hbu0 0).trans rfl
   have hcu := (HB.out.cell (World.block_lt_of_cell? _ _ hcu0)).trans hcu0
   obtain ⟨vt, gst, hbt0, _⟩ := HT.out.root
   have hct0 : w.cell? ⟨gx, 0, none⟩ = some (.string t.x.f0) := (blk_cell hbt0 0).trans rfl
   have hct := (HB.out.cell (World.block_lt_of_cell? _ _ hct0)).trans hct0
   subst ea
   have hi2 : ((0 : Int) ≤ (i : Int)) = True := eq_true (by omega)
   have hi3 : ((i : Int) < (gs.length : Int)) = True := eq_true (by have := HLT.out; omega)
   have hi4 : wrap64 ((i : Int) + 1) = ((i + 1 : Nat) : Int) := by have := HLEN.out; have := HLT.out; unfold wrap64; omega
   have hi5 : IntKind.i64.wrap ((i : Int) + 1) = ((i + 1 : Nat) : Int) := by have := HLEN.out; have := HLT.out; rw [IntKind.wrap_i64]; omega
   clear hgg hul hbu0 hbt0 hcu0 hct0 hcl0
   have hc1 : w6.cell? ⟨g, 1, none⟩ = some (.int .i64 n.f1) := (HB.out.cell (World.block_lt_of_cell? _ _ C1.out)).trans C1.out
   have hc4 : w6.cell? ⟨g, 4, none⟩ = some (.int .i64 n.f4) := (HB.out.cell (World.block_lt_of_cell? _ _ C4.out)).trans C4.out
   have hc5 : w6.cell? ⟨g, 5, none⟩ = some (.slice (some ad2) gs.length c1) := (HB.out.cell (World.block_lt_of_cell? _ _ C5.out)).trans C5.out
   repeat still_step
   refine wpStill_nil ?_
   go_wp2_with (first | (go_at_call 80; refine (spec_l7LessKey.calls m u.x.f0 t.x.f0 false _ HLS.out).mono ?_; rintro e w9 ⟨rfl, hb⟩; have m0_ := Aside0.mk (below_step HB.out hb); clear hcl hcu hct hi2 hi3 hi4 hc1 hc4 hc5 HB hb; have HB := m0_; clear m0_; have hc1 : w9.cell? ⟨g, 1, none⟩ = some (.int .i64 n.f1) := (HB.out.cell (World.block_lt_of_cell? _ _ C1.out)).trans C1.out; have hc4 : w9.cell? ⟨g, 4, none⟩ = some (.int .i64 n.f4) := (HB.out.cell (World.block_lt_of_cell? _ _ C4.out)).trans C4.out; have hc5 : w9.cell? ⟨g, 5, none⟩ = some (.slice (some ad2) gs.length c1) := (HB.out.cell (World.block_lt_of_cell? _ _ C5.out)).trans C5.out; (obtain ⟨A1, hA1⟩ : ∃ A1, A1 = some ad2 := ⟨_, rfl⟩); rw [← hA1] at HRD HRR C5 BV HTK HDR HDR2 hc5 ⊢; clear hA1) | ((with_reducible refine gate_dst (N := 45) rfl ?_); refine Kd.R_lit kp _ 52 ?hg (N := 45) ?hd (xs := ([] : List Nat)) (inner := []) (ok := fun _ => True) (okp := fun _ => True) ?hr ?hp (fun _ hk => hk) trivial (Below.refl _ _) (Nat.le_refl _) (by simp) ?_; (case hd => rfl); (case hg => rfl); (case hr => first | (go_simp; done) | (go_simp; rfl)); (case hp => exact (Reps.none _ _)); intro v1 w1 ho hb hg_ hnew_; clear hg_ hnew_; have n0_ := Aside0.mk (Kd.R_lower ho (below_size (by repeat (first | exact HB.out | apply pw_below_drewN | apply below_drew1 | apply below_alloc)))); have n1_ := Aside0.mk (below_step (by repeat (first | exact HB.out | apply pw_below_drewN | apply below_drew1 | apply below_alloc)) hb); (try clear hc1); (try clear hc4); (try clear hc5); clear HB ho hb; have HO := n0_; have HB := n1_; clear n0_ n1_; have hc1 : w1.cell? ⟨g, 1, none⟩ = some (.int .i64 n.f1) := (HB.out.cell (World.block_lt_of_cell? _ _ C1.out)).trans C1.out; have hc4 : w1.cell? ⟨g, 4, none⟩ = some (.int .i64 n.f4) := (HB.out.cell (World.block_lt_of_cell? _ _ C4.out)).trans C4.out; have hc5 : w1.cell? ⟨g, 5, none⟩ = some (.slice A1 gs.length c1) := (HB.out.cell (World.block_lt_of_cell? _ _ C5.out)).trans C5.out) | ((with_reducible refine gate_builtin (b := .append) (xs := #[.tmp 45, .tmp 51]) rfl ?_); at_builtin; refine Kd.R_append_rows kp (Rr := kp.K w) (w0 := w) w.heap.size rfl (.tmp 45) (.tmp 51) 70 52 (.pointer none) 8 rfl Tryd.underlying70 info52 rfl (by decide) (by omega) v1 [] (gs.take i) _ _ _ (fun _ => True) (fun _ => False) rfl rfl ?aO ?aR (fun _ _ h => h) (fun _ h => h.elim) ?aF ?aB ?aS ?aL ?_; (case aR => exact HTK.out _ HB.out); (case aB => exact HB.out); (case aF => exact (fun _ _ => trivial)); (case aO => exact HO.out); (case aS => exact (below_size HB.out)); (case aL => have := HJ.out; have := HLEN.out; simp only [List.length_nil, List.length_take]; omega); intro v2 w2 ho hb hg hat; rw [List.nil_append] at ho; have n0_ := Aside0.mk hb; have n1_ := Aside0.mk ho; (try clear hc1); (try clear hc4); (try clear hc5); clear HB HO ho hb hg hat; have HB := n0_; have HO := n1_; clear n0_ n1_; (obtain ⟨A2, c2, rfl⟩ := Kd.R_slice HO.out); (obtain ⟨N2, hN2⟩ : ∃ N2, N2 = (gs.take i).length := ⟨_, rfl⟩); rw [← hN2] at HO; rw [← hN2]; clear hN2; have hc1 : w2.cell? ⟨g, 1, none⟩ = some (.int .i64 n.f1) := (HB.out.cell (World.block_lt_of_cell? _ _ C1.out)).trans C1.out; have hc4 : w2.cell? ⟨g, 4, none⟩ = some (.int .i64 n.f4) := (HB.out.cell (World.block_lt_of_cell? _ _ C4.out)).trans C4.out; have hc5 : w2.cell? ⟨g, 5, none⟩ = some (.slice A1 gs.length c1) := (HB.out.cell (World.block_lt_of_cell? _ _ C5.out)).trans C5.out) | ((with_reducible refine gate_builtin (b := .append) (xs := #[.tmp 53, .tmp 55]) rfl ?_); at_builtin; refine Kd.R_append kp (w0 := w) w.heap.size rfl (.tmp 53) (.tmp 55) 70 52 (.pointer none) 8 rfl Tryd.underlying70 info52 rfl (by decide) (by omega) (.slice A2 N2 c2) (gs.take i) gx [.pointer (some ⟨gx, 0, none⟩)] (fun _ => True) (fun _ => False) rfl rfl rfl (fun _ h_ => h_.elim) (fun _ _ => trivial) ?aO ?aB ?aS ?aL ?_; (case aO => exact (by (with_reducible repeat (first | apply Kd.R_alloc | apply Kd.R_drewN | apply Kd.R_drew)); exact HO.out)); (case aB => exact (by repeat (first | exact HB.out | apply pw_below_drewN | apply below_drew1 | apply below_alloc))); (case aS => exact below_size (by repeat (first | exact HB.out | apply pw_below_drewN | apply below_drew1 | apply below_alloc))); (case aL => have := HJ.out; have := HLEN.out; simp only [List.length_take]; omega); intro v3 w3 ho hb hg hat; have n0_ := Aside0.mk hb; have n1_ := Aside0.mk ho; (try clear hc1); (try clear hc4); (try clear hc5); clear HB HO ho hb hg hat; have HB := n0_; have HO := n1_; clear n0_ n1_; (obtain ⟨A3, c3, rfl⟩ := Kd.R_slice HO.out); (obtain ⟨N3, hN3⟩ : ∃ N3, N3 = (gs.take i ++ [gx]).length := ⟨_, rfl⟩); rw [← hN3] at HO; rw [← hN3]; clear hN3; have hc1 : w3.cell? ⟨g, 1, none⟩ = some (.int .i64 n.f1) := (HB.out.cell (World.block_lt_of_cell? _ _ C1.out)).trans C1.out; have hc4 : w3.cell? ⟨g, 4, none⟩ = some (.int .i64 n.f4) := (HB.out.cell (World.block_lt_of_cell? _ _ C4.out)).trans C4.out; have hc5 : w3.cell? ⟨g, 5, none⟩ = some (.slice A1 gs.length c1) := (HB.out.cell (World.block_lt_of_cell? _ _ C5.out)).trans C5.out) | ((with_reducible refine gate_builtin (b := .append) (xs := #[.tmp 58, .tmp 64]) rfl ?_); at_builtin; refine Kd.R_append_rows kp (Rr := kp.K w) (w0 := w) w.heap.size rfl (.tmp 58) (.tmp 64) 70 52 (.pointer none) 8 rfl Tryd.underlying70 info52 rfl (by decide) (by omega) (.slice A3 N3 c3) (gs.take i ++ [gx]) (gs.drop i) _ _ _ (fun _ => True) (fun _ => False) rfl rfl ?aO ?aR (fun _ _ h => h) (fun _ h => h.elim) ?aF ?aB ?aS ?aL ?_; (case aR => first | exact HDR.out _ HB.out | exact HDR2.out _ HB.out | (have h_ := HDR2.out _ HB.out; simp only [Nat.sub_self] at h_; exact h_) | (have h_ := HDR.out _ HB.out; simp only [Nat.sub_self] at h_; exact h_)); (case aB => exact HB.out); (case aF => exact (fun _ _ => trivial)); (case aO => exact HO.out); (case aS => exact (below_size HB.out)); (case aL => have := HJ.out; have := HLEN.out; simp only [List.length_append, List.length_take, List.length_drop, List.length_singleton]; omega); intro v4 w4 ho hb hg hat; have n0_ := Aside0.mk hb; have n1_ := Aside0.mk ho; (try clear hc1); (try clear hc4); (try clear hc5); clear HB HO ho hb hg hat; have HB := n0_; have HO := n1_; clear n0_ n1_; (obtain ⟨A4, c4, rfl⟩ := Kd.R_slice HO.out); (obtain ⟨N4, hN4⟩ : ∃ N4, N4 = (gs.take i ++ [gx] ++ gs.drop i).length := ⟨_, rfl⟩); rw [← hN4] at HO; rw [← hN4]; have HN4 := Aside0.mk hN4; clear hN4; have hbx := Aside0.mk ((HB.out.block g HGL.out).trans BV.out); have hf5 := blk_frozen hbx.out 5; clear hbx; have hc1 : w4.cell? ⟨g, 1, none⟩ = some (.int .i64 n.f1) := (HB.out.cell (World.block_lt_of_cell? _ _ C1.out)).trans C1.out; have hc4 : w4.cell? ⟨g, 4, none⟩ = some (.int .i64 n.f4) := (HB.out.cell (World.block_lt_of_cell? _ _ C4.out)).trans C4.out; have hc5 : w4.cell? ⟨g, 5, none⟩ = some (.slice A1 gs.length c1) := (HB.out.cell (World.block_lt_of_cell? _ _ C5.out)).trans C5.out) | ((with_reducible refine gate_store (t := 70) (p := 67) rfl ?_); refine store_event (t := 70) (p := 67) (v := .tmp 65) (w1 := (w4.setCell ⟨g, 5, none⟩ (.slice A4 N4 c4))) ?hg ?ho ?hn ?hr ?_; (case ho => rfl); (case hg => rfl); (case hn => rfl); (case hr => first | (go_simp; done) | (go_simp; rfl)); intro w5 hw; have m1_ := Aside0.mk (show w5.heap[g]? = some (.cells (nodeC n (.slice A4 N4 c4)) 72 (0, 0)) from (by rw [hw]; exact (blk_put (cs' := nodeC n (.slice A4 N4 c4)) ((HB.out.block g HGL.out).trans BV.out) 5 (.slice A4 N4 c4) rfl))); have m2_ := Aside0.mk (show kp.R 52 w5 w.heap.size (fun _ => True) (.slice A4 N4 c4) (gs.take i ++ [gx] ++ gs.drop i) from (by rw [hw]; exact Kd.R_set HO.out ((HB.out.block g HGL.out).trans BV.out) (by decide) 5 _)); have m0_ := Aside0.mk (show w.grownBy w5 (some g) from (by rw [hw]; exact add_keep HB.out _ _)); (try clear hc1); (try clear hc4); (try clear hc5); clear hf5 hw HB HO; have HK := m0_; have BW := m1_; have HO := m2_; clear m0_ m1_ m2_; (try simp only [Act.put, List.setIfInBounds_toArray, List.set_cons_zero, List.set_cons_succ]); have hc5 : w5.cell? ⟨g, 5, none⟩ = some (.slice A4 N4 c4) := (blk_cell BW.out 5).trans rfl; have hc4 : w5.cell? ⟨g, 4, none⟩ = some (.int .i64 n.f4) := (blk_cell BW.out 4).trans rfl; have hf4 := blk_frozen BW.out 4) | ((with_reducible refine gate_store (t := 3) (p := 76) rfl ?_); refine store_event (t := 3) (p := 76) (v := .tmp 73) (w1 := (w5.setCell ⟨g, 4, none⟩ (.int .i64 (N4 : Int)))) ?hg ?ho ?hn ?hr ?_; (case ho => rfl); (case hg => rfl); (case hn => rfl); (case hr => first | (go_simp; done) | (go_simp; rfl)); intro w6 hw; have m1_ := Aside0.mk (show w6.heap[g]? = some (.cells (nodeC { n with f4 := (N4 : Int) } (.slice A4 N4 c4)) 72 (0, 0)) from (by rw [hw]; exact (blk_put (cs' := nodeC { n with f4 := (N4 : Int) } (.slice A4 N4 c4)) BW.out 4 (.int .i64 (N4 : Int)) rfl))); have m2_ := Aside0.mk (show kp.R 52 w6 w.heap.size (fun _ => True) (.slice A4 N4 c4) (gs.take i ++ [gx] ++ gs.drop i) from (by rw [hw]; exact Kd.R_set HO.out BW.out (by decide) 4 _)); have m0_ := Aside0.mk (show w.grownBy w6 (some g) from (by rw [hw]; exact add_keep2 HK.out _ _)); clear hc5 hc4 hf4 hw HK BW HO; have HK := m0_; have BW := m1_; have HO := m2_; clear m0_ m1_ m2_; (try simp only [Act.put, List.setIfInBounds_toArray, List.set_cons_zero, List.set_cons_succ])))
   all_goals
    first | go_end0 | ((try simp only [Exit.inBlock, Exit.then]); refine bodyPost_ret (results_none rfl _ _ _) rfl ?_)
    rw [← HRES.out]
    obtain ⟨e_, v_, gs_, b1_, b2_, b3_, b4_⟩ := add_done HOK.out HK.out BW.out HO.out HF.out HT.out HGL.out HJ.out HN4.out
    first | exact ⟨e_, v_, b1_, gs_, b2_, b3_, b4_⟩ | exact ⟨e_, v_, gs_, b1_, b2_, b3_, b4_⟩
theorem spec_l7V_add.run (k : Nat) (n : S61) (kids : List T7) (t : T7) (r : List T7) (h : spec_l7V_add.f k n.f1 kids t = some r) (d g gx : Nat) (v : Value) (gs : List Nat) (ok : Nat → Prop) (hok : ∀ k, ok k → k ≠ g) (w : World) (hb : w.heap[g]? = some (.cells (nodeC n v) 72 (0, 0))) (hR : kp.R 52 w 0 (fun _ => True) v gs) (hF : IsF 72 52 d w ok gs kids) (ht : IsT 72 52 d w ok gx t) :
  Calls Tryd.prog 49 #[.pointer (some ⟨g, 0, none⟩), .pointer (some ⟨gx, 0, none⟩)] w fun e w' => e = .returned (.tuple #[]) ∧ ∃ (v' : Value) (gs' : List Nat), w'.heap[g]? = some (.cells (nodeC { n with f4 := (r.length : Int) } v') 72 (0, 0)) ∧ kp.R 52 w' 0 (fun k => k ≠ g) v' gs' ∧ IsF 72 52 d w' ok gs' r ∧ w.grownBy w' (some g) :=
 (spec_l7V_add.run2 k n kids t r h d g gx v gs ok hok w hb hR hF ht).mono fun _ _ ⟨e, v', gs', b1, b2, b3, b4⟩ => ⟨e, v', gs', b1, Kd.R_lower b2 (Nat.zero_le _), b3, b4⟩

/-! ### spec_GoodValue: function 16 -/
def spec_GoodValue.f (k : Nat) (l : List S61) : Option Bool := (spec_l7Of.f k l).bind fun r => some r.2
theorem spec_GoodValue.mono : ∀ l k, LeO (spec_GoodValue.f k l) (spec_GoodValue.f (k + 1) l) := by
 intro l k
 unfold spec_GoodValue.f
 exact LeO.bind (spec_l7Of.mono _ _) (fun r => LeO.refl _)
theorem spec_GoodValue.calls (k : Nat) (A0 : Option Addr) (c0 : Nat) (l : List S61) (r : Bool) (w : World) (hr0 : Kd.C k61 w A0 l.length l) (hc0 : l.length ≤ c0) (h : spec_GoodValue.f k l = some r) :
  Calls Tryd.prog 16 #[.slice A0 l.length c0] w fun e w' => e = .returned (.bool r) ∧ Below w.heap.size w w' := by
 have HR0 := Aside0.mk hr0
 have HC0 := Aside0.mk hc0
 have HB := Aside0.mk (Below.refl w.heap.size w)
 clear hr0 hc0
 unfold spec_GoodValue.f at h
 obtain ⟨⟨t1, t2⟩, ht, h⟩ := Option.bind_eq_some_iff.mp h
 injection h with h
 have h : t2 = r := h
 subst h
 have HT := Aside0.mk ht
 clear ht
 go_enter Tryd.func16, Tryd.ntmps16
 go_wp2_with (first | (go_at_call 39; refine (spec_l7Of.run k l _ _ HT.out A0 c0 _ (Kd.C_below HR0.out HB.out) HC0.out).mono ?_; rintro e w3 ⟨v13, rfl, hp, hb⟩; have m0_ := Aside0.mk (below_step HB.out hb); clear hp HB hb; have HB := m0_; clear m0_))
 go_ret
 exact ⟨by first | rfl | (simp; done), HB.out⟩

/-! ### spec_WithField: function 25 -/
theorem IsF.upto {tv tp d e : Nat} {W : World} {ok : Nat → Prop} {gs : List Nat} {ts : List T7} (h : IsF tv tp d W ok gs ts) (he : d ≤ e) : IsF tv tp e W ok gs ts := ⟨h.1, fun i g t a b => (h.2 i g t a b).upto he⟩
def spec_WithField.l : Nat → List T7 → ByteArray → Int → Nat → List T7 → Option (List T7)
 | 0, _, _, _, _, _ => none
 | k + 1, ks, key, kind, i, acc => if i < ks.length then ks[i]?.bind fun t => if t.x.f0.toList = key.toList then spec_WithField.l k ks key kind (i + 1) acc else (spec_l7V_add.f k kind acc t).bind fun r => spec_WithField.l k ks key kind (i + 1) r else some acc
theorem spec_WithField.mono_l : ∀ k ks key kind i acc, LeO (spec_WithField.l k ks key kind i acc) (spec_WithField.l (k + 1) ks key kind i acc)
 | 0, _, _, _, _, _ => fun r h => by simp [spec_WithField.l] at h
 | k + 1, ks, key, kind, i, acc => by
  rw [spec_WithField.l, spec_WithField.l]
  exact LeO.ite (LeO.bind (LeO.refl _) fun t => LeO.ite (spec_WithField.mono_l k ks key kind _ _) (LeO.bind (spec_l7V_add.mono _ _ _ _) fun r => spec_WithField.mono_l k ks key kind _ _)) (LeO.refl _)
def spec_WithField.f (k : Nat) (l : List S61) (key : ByteArray) (v : List S61) : Option (List S61 × Bool) :=
 (spec_l7Of.f k l).bind fun a => (spec_l7Of.f k v).bind fun x => if a.2 = false then some ([], false) else if x.2 = false then some ([], false) else a.1.bind fun ta => if ta.x.f1 = 7 then
  (spec_l7Runes.f k key).bind fun rb => if rb = true then x.1.bind fun tx => if ta.kids.length < 1000000 then
   (spec_WithField.l k ta.kids key ta.x.f1 0 []).bind fun R => (spec_l7V_add.f k ta.x.f1 R (.mk { tx.x with f0 := key } tx.kids)).bind fun R2 => (spec_l7Flat.f k (.mk { ta.x with f4 := (R2.length : Int) } R2) []).bind fun fl => (spec_GoodValue.f k fl).bind fun g => if g = true then some (fl, true) else some ([], false)
  else none else some ([], false) else some ([], false)
theorem spec_WithField.mono : ∀ l key v k, LeO (spec_WithField.f k l key v) (spec_WithField.f (k + 1) l key v) := by
 intro l key v k
 unfold spec_WithField.f
 exact LeO.bind (spec_l7Of.mono _ _) fun a => LeO.bind (spec_l7Of.mono _ _) fun x => LeO.ite (LeO.refl _) (LeO.ite (LeO.refl _) (LeO.bind (LeO.refl _) fun ta => LeO.ite (LeO.bind (spec_l7Runes.mono _ _) fun rb => LeO.ite (LeO.bind (LeO.refl _) fun tx => LeO.ite (LeO.bind (spec_WithField.mono_l _ _ _ _ _ _) fun R => LeO.bind (spec_l7V_add.mono _ _ _ _) fun R2 => LeO.bind (spec_l7Flat.mono _ _ _) fun fl => LeO.bind (spec_GoodValue.mono _ _) fun g => LeO.refl _) (LeO.refl _)) (LeO.refl _)) (LeO.refl _)))
set_option maxHeartbeats 16000000 in
set_option maxRecDepth 100000 in
theorem spec_WithField.calls (k : Nat) (A0 : Option Addr) (c0 : Nat) (l : List S61) (key : ByteArray) (A2 : Option Addr) (c2 : Nat) (v : List S61) (r1 : List S61) (r2 : Bool) (w : World) (hr0 : Kd.C k61 w A0 l.length l) (hc0 : l.length ≤ c0) (hr2 : Kd.C k61 w A2 v.length v) (hc2 : v.length ≤ c2) (h : spec_WithField.f k l key v = some (r1, r2)) :
  Calls Tryd.prog 25 #[.slice A0 l.length c0, .string key, .slice A2 v.length c2] w fun e w' => ∃ v0_ : Value, e = .returned (.tuple #[v0_, .bool r2]) ∧ Kd.R k61 61 w' w.heap.size (fun _ => True) v0_ r1 ∧ Below w.heap.size w w' := by
 have hu61 := Tryd.underlying61
 have hu72 := Tryd.underlying72
 have hu52 := Tryd.underlying52
 have HR0 := Aside0.mk hr0
 have HC0 := Aside0.mk hc0
 have HR2 := Aside0.mk hr2
 have HC2 := Aside0.mk hc2
 have HB := Aside0.mk (Below.refl w.heap.size w)
 clear hr0 hc0 hr2 hc2
 unfold spec_WithField.f at h
 obtain ⟨⟨ta0, a2⟩, hta, h⟩ := Option.bind_eq_some_iff.mp h
 obtain ⟨⟨tx0, x2⟩, htx, h⟩ := Option.bind_eq_some_iff.mp h
 have HTA := Aside0.mk hta
 have HTX := Aside0.mk htx
 clear hta htx
 cases a2 with
 | false =>
  injection h with h
  injection h with h1 h2
  subst h1
  subst h2
  go_enter Tryd.func25, Tryd.ntmps25
  go_wp2_with (first | (go_at_call 39; (with_reducible refine (spec_l7Of.run k l _ _ HTA.out A0 c0 _ (Kd.C_below HR0.out HB.out) HC0.out).mono ?_); rintro e w3 ⟨va, rfl, hp, hb⟩; (obtain ⟨kd, hkd⟩ : ∃ kd, kd = k := ⟨_, rfl⟩); rw [← hkd] at hp; clear hkd; have HPA := Aside0.mk hp; have n0_ := Aside0.mk (below_step HB.out hb); clear HB hb; have HB := n0_; clear n0_; have HW3_ := Aside0.mk HB.out.size; have H3 := Aside0.mk (Below.refl w3.heap.size w3); clear hp) | (go_at_call 39; (with_reducible refine (spec_l7Of.run k v _ _ HTX.out A2 c2 _ (Kd.C_below HR2.out HB.out) HC2.out).mono ?_); rintro e w4 ⟨vx, rfl, hp, hb⟩; (obtain ⟨kx, hkx⟩ : ∃ kx, kx = k := ⟨_, rfl⟩); rw [← hkx] at hp; clear hkx; have HPX := Aside0.mk hp; have n0_ := Aside0.mk (below_step HB.out hb); have n1_ := Aside0.mk (below_step H3.out hb); clear HB H3 hb; have HB := n0_; have H3 := n1_; clear n0_ n1_; have H34_ := Aside0.mk H3.out.size; have H4 := Aside0.mk (Below.refl w4.heap.size w4); clear hp))
  go_ret2
  exact ⟨_, rfl, Kd.R_nil _ _ _ _ _, HB.out⟩
 | true =>
 cases x2 with
 | false =>
  injection h with h
  injection h with h1 h2
  subst h1
  subst h2
  go_enter Tryd.func25, Tryd.ntmps25
  go_wp2_with (first | (go_at_call 39; (with_reducible refine (spec_l7Of.run k l _ _ HTA.out A0 c0 _ (Kd.C_below HR0.out HB.out) HC0.out).mono ?_); rintro e w3 ⟨va, rfl, hp, hb⟩; (obtain ⟨kd, hkd⟩ : ∃ kd, kd = k := ⟨_, rfl⟩); rw [← hkd] at hp; clear hkd; have HPA := Aside0.mk hp; have n0_ := Aside0.mk (below_step HB.out hb); clear HB hb; have HB := n0_; clear n0_; have HW3_ := Aside0.mk HB.out.size; have H3 := Aside0.mk (Below.refl w3.heap.size w3); clear hp) | (go_at_call 39; (with_reducible refine (spec_l7Of.run k v _ _ HTX.out A2 c2 _ (Kd.C_below HR2.out HB.out) HC2.out).mono ?_); rintro e w4 ⟨vx, rfl, hp, hb⟩; (obtain ⟨kx, hkx⟩ : ∃ kx, kx = k := ⟨_, rfl⟩); rw [← hkx] at hp; clear hkx; have HPX := Aside0.mk hp; have n0_ := Aside0.mk (below_step HB.out hb); have n1_ := Aside0.mk (below_step H3.out hb); clear HB H3 hb; have HB := n0_; have H3 := n1_; clear n0_ n1_; have H34_ := Aside0.mk H3.out.size; have H4 := Aside0.mk (Below.refl w4.heap.size w4); clear hp))
  go_ret2
  exact ⟨_, rfl, Kd.R_nil _ _ _ _ _, HB.out⟩
 | true =>
 obtain ⟨ta, e1, h9⟩ := Option.bind_eq_some_iff.mp h
 have e1 : ta0 = some ta := e1
 clear h
 subst e1
 have h := h9
 clear h9
 by_cases c1 : ta.x.f1 = 7
 rotate_left
 ·rw [if_neg c1] at h
  have c1b0 : (ta.x.f1 != 7) = true := bne_iff_ne.mpr c1
  injection h with h
  injection h with h1 h2
  subst h1
  subst h2
  clear c1
  go_enter Tryd.func25, Tryd.ntmps25
  go_wp2_with (first | (go_at_call 39; (with_reducible refine (spec_l7Of.run k l _ _ HTA.out A0 c0 _ (Kd.C_below HR0.out HB.out) HC0.out).mono ?_); rintro e w3 ⟨va, rfl, hp, hb⟩; (obtain ⟨kd, hkd⟩ : ∃ kd, kd = k := ⟨_, rfl⟩); rw [← hkd] at hp; clear hkd; have HPA := Aside0.mk hp; have n0_ := Aside0.mk (below_step HB.out hb); clear HB hb; have HB := n0_; clear n0_; have HW3_ := Aside0.mk HB.out.size; have H3 := Aside0.mk (Below.refl w3.heap.size w3); clear hp) | (go_at_call 39; (with_reducible refine (spec_l7Of.run k v _ _ HTX.out A2 c2 _ (Kd.C_below HR2.out HB.out) HC2.out).mono ?_); rintro e w4 ⟨vx, rfl, hp, hb⟩; (obtain ⟨kx, hkx⟩ : ∃ kx, kx = k := ⟨_, rfl⟩); rw [← hkx] at hp; clear hkx; have HPX := Aside0.mk hp; have n0_ := Aside0.mk (below_step HB.out hb); have n1_ := Aside0.mk (below_step H3.out hb); clear HB H3 hb; have HB := n0_; have H3 := n1_; clear n0_ n1_; have H34_ := Aside0.mk H3.out.size; have H4 := Aside0.mk (Below.refl w4.heap.size w4); clear hp; (obtain ⟨g, rfl, htt⟩ := HPA.out); obtain ⟨vt, gs, hbt, hRt, hlt, d1, rfl, hFt⟩ := (htt.bound).root; (obtain ⟨Aa, ca, rfl⟩ := Kd.R_slice hRt); have HRA := Aside0.mk hRt; have HFA := Aside0.mk hFt; have HGL := Aside0.mk hlt; have Q0 := Aside0.mk (show w3.cell? ⟨g, 0, none⟩ = some (.string ta.x.f0) from (blk_cell hbt 0).trans rfl); have Q1 := Aside0.mk (show w3.cell? ⟨g, 1, none⟩ = some (.int .i64 ta.x.f1) from (blk_cell hbt 1).trans rfl); have Q2 := Aside0.mk (show w3.cell? ⟨g, 2, none⟩ = some (.int .i64 ta.x.f2) from (blk_cell hbt 2).trans rfl); have Q3 := Aside0.mk (show w3.cell? ⟨g, 3, none⟩ = some (.string ta.x.f3) from (blk_cell hbt 3).trans rfl); have Q4 := Aside0.mk (show w3.cell? ⟨g, 4, none⟩ = some (.int .i64 ta.x.f4) from (blk_cell hbt 4).trans rfl); have Q5 := Aside0.mk (show w3.cell? ⟨g, 5, none⟩ = some (.slice Aa gs.length ca) from (blk_cell hbt 5).trans rfl); clear htt hbt hRt hFt hlt HPA; have hq0 : w4.cell? ⟨g, 0, none⟩ = some (.string ta.x.f0) := (H3.out.cell (World.block_lt_of_cell? _ _ Q0.out)).trans Q0.out; have hq1 : w4.cell? ⟨g, 1, none⟩ = some (.int .i64 ta.x.f1) := (H3.out.cell (World.block_lt_of_cell? _ _ Q1.out)).trans Q1.out; have hq2 : w4.cell? ⟨g, 2, none⟩ = some (.int .i64 ta.x.f2) := (H3.out.cell (World.block_lt_of_cell? _ _ Q2.out)).trans Q2.out; have hq3 : w4.cell? ⟨g, 3, none⟩ = some (.string ta.x.f3) := (H3.out.cell (World.block_lt_of_cell? _ _ Q3.out)).trans Q3.out; have hq4 : w4.cell? ⟨g, 4, none⟩ = some (.int .i64 ta.x.f4) := (H3.out.cell (World.block_lt_of_cell? _ _ Q4.out)).trans Q4.out; have hq5 : w4.cell? ⟨g, 5, none⟩ = some (.slice Aa gs.length ca) := (H3.out.cell (World.block_lt_of_cell? _ _ Q5.out)).trans Q5.out))
  go_ret2
  exact ⟨_, rfl, Kd.R_nil _ _ _ _ _, HB.out⟩
 rw [if_pos c1] at h
 have c1b0 : (ta.x.f1 != 7) = false := by simpa using c1
 clear c1
 obtain ⟨rb, hrb, h⟩ := Option.bind_eq_some_iff.mp h
 have HRN := Aside0.mk hrb
 clear hrb
 cases rb with
 | false =>
  rw [if_neg (by decide)] at h
  injection h with h
  injection h with h1 h2
  subst h1
  subst h2
  go_enter Tryd.func25, Tryd.ntmps25
  go_wp2_with (first | (go_at_call 39; (with_reducible refine (spec_l7Of.run k l _ _ HTA.out A0 c0 _ (Kd.C_below HR0.out HB.out) HC0.out).mono ?_); rintro e w3 ⟨va, rfl, hp, hb⟩; (obtain ⟨kd, hkd⟩ : ∃ kd, kd = k := ⟨_, rfl⟩); rw [← hkd] at hp; clear hkd; have HPA := Aside0.mk hp; have n0_ := Aside0.mk (below_step HB.out hb); clear HB hb; have HB := n0_; clear n0_; have HW3_ := Aside0.mk HB.out.size; have H3 := Aside0.mk (Below.refl w3.heap.size w3); clear hp) | (go_at_call 39; (with_reducible refine (spec_l7Of.run k v _ _ HTX.out A2 c2 _ (Kd.C_below HR2.out HB.out) HC2.out).mono ?_); rintro e w4 ⟨vx, rfl, hp, hb⟩; (obtain ⟨kx, hkx⟩ : ∃ kx, kx = k := ⟨_, rfl⟩); rw [← hkx] at hp; clear hkx; have HPX := Aside0.mk hp; have n0_ := Aside0.mk (below_step HB.out hb); have n1_ := Aside0.mk (below_step H3.out hb); clear HB H3 hb; have HB := n0_; have H3 := n1_; clear n0_ n1_; have H34_ := Aside0.mk H3.out.size; have H4 := Aside0.mk (Below.refl w4.heap.size w4); clear hp; (obtain ⟨g, rfl, htt⟩ := HPA.out); obtain ⟨vt, gs, hbt, hRt, hlt, d1, rfl, hFt⟩ := (htt.bound).root; (obtain ⟨Aa, ca, rfl⟩ := Kd.R_slice hRt); have HRA := Aside0.mk hRt; have HFA := Aside0.mk hFt; have HGL := Aside0.mk hlt; have Q0 := Aside0.mk (show w3.cell? ⟨g, 0, none⟩ = some (.string ta.x.f0) from (blk_cell hbt 0).trans rfl); have Q1 := Aside0.mk (show w3.cell? ⟨g, 1, none⟩ = some (.int .i64 ta.x.f1) from (blk_cell hbt 1).trans rfl); have Q2 := Aside0.mk (show w3.cell? ⟨g, 2, none⟩ = some (.int .i64 ta.x.f2) from (blk_cell hbt 2).trans rfl); have Q3 := Aside0.mk (show w3.cell? ⟨g, 3, none⟩ = some (.string ta.x.f3) from (blk_cell hbt 3).trans rfl); have Q4 := Aside0.mk (show w3.cell? ⟨g, 4, none⟩ = some (.int .i64 ta.x.f4) from (blk_cell hbt 4).trans rfl); have Q5 := Aside0.mk (show w3.cell? ⟨g, 5, none⟩ = some (.slice Aa gs.length ca) from (blk_cell hbt 5).trans rfl); clear htt hbt hRt hFt hlt HPA; have hq0 : w4.cell? ⟨g, 0, none⟩ = some (.string ta.x.f0) := (H3.out.cell (World.block_lt_of_cell? _ _ Q0.out)).trans Q0.out; have hq1 : w4.cell? ⟨g, 1, none⟩ = some (.int .i64 ta.x.f1) := (H3.out.cell (World.block_lt_of_cell? _ _ Q1.out)).trans Q1.out; have hq2 : w4.cell? ⟨g, 2, none⟩ = some (.int .i64 ta.x.f2) := (H3.out.cell (World.block_lt_of_cell? _ _ Q2.out)).trans Q2.out; have hq3 : w4.cell? ⟨g, 3, none⟩ = some (.string ta.x.f3) := (H3.out.cell (World.block_lt_of_cell? _ _ Q3.out)).trans Q3.out; have hq4 : w4.cell? ⟨g, 4, none⟩ = some (.int .i64 ta.x.f4) := (H3.out.cell (World.block_lt_of_cell? _ _ Q4.out)).trans Q4.out; have hq5 : w4.cell? ⟨g, 5, none⟩ = some (.slice Aa gs.length ca) := (H3.out.cell (World.block_lt_of_cell? _ _ Q5.out)).trans Q5.out) | (go_at_call 48; refine (spec_l7Runes.calls k key false _ HRN.out).mono ?_; rintro e w5 ⟨rfl, hb⟩; have n0_ := Aside0.mk (below_step HB.out hb); have n1_ := Aside0.mk (below_step H3.out hb); have n2_ := Aside0.mk (below_step H4.out hb); clear HB H3 H4 hb; have HB := n0_; have H3 := n1_; have H4 := n2_; clear n0_ n1_ n2_; clear hq0 hq1 hq2 hq3 hq4 hq5; have hq0 : w5.cell? ⟨g, 0, none⟩ = some (.string ta.x.f0) := (H3.out.cell (World.block_lt_of_cell? _ _ Q0.out)).trans Q0.out; have hq1 : w5.cell? ⟨g, 1, none⟩ = some (.int .i64 ta.x.f1) := (H3.out.cell (World.block_lt_of_cell? _ _ Q1.out)).trans Q1.out; have hq2 : w5.cell? ⟨g, 2, none⟩ = some (.int .i64 ta.x.f2) := (H3.out.cell (World.block_lt_of_cell? _ _ Q2.out)).trans Q2.out; have hq3 : w5.cell? ⟨g, 3, none⟩ = some (.string ta.x.f3) := (H3.out.cell (World.block_lt_of_cell? _ _ Q3.out)).trans Q3.out; have hq4 : w5.cell? ⟨g, 4, none⟩ = some (.int .i64 ta.x.f4) := (H3.out.cell (World.block_lt_of_cell? _ _ Q4.out)).trans Q4.out; have hq5 : w5.cell? ⟨g, 5, none⟩ = some (.slice Aa gs.length ca) := (H3.out.cell (World.block_lt_of_cell? _ _ Q5.out)).trans Q5.out))
  go_ret2
  exact ⟨_, rfl, Kd.R_nil _ _ _ _ _, HB.out⟩
 | true =>
 rw [if_pos rfl] at h
 obtain ⟨tx, e1, h9⟩ := Option.bind_eq_some_iff.mp h
 have e1 : tx0 = some tx := e1
 clear h
 subst e1
 have h := h9
 clear h9
 by_cases c2_ : ta.kids.length < 1000000
 rotate_left
 ·rw [if_neg c2_] at h; cases h
 rw [if_pos c2_] at h
 have HLEN := Aside0.mk c2_
 clear c2_
 obtain ⟨R0, hl0, h⟩ := Option.bind_eq_some_iff.mp h
 obtain ⟨R2, had2, h⟩ := Option.bind_eq_some_iff.mp h
 obtain ⟨fl, hfl, h⟩ := Option.bind_eq_some_iff.mp h
 obtain ⟨gv, hgv, h⟩ := Option.bind_eq_some_iff.mp h
 have HL := Aside0.mk hl0
 have HAD2 := Aside0.mk had2
 have HFL := Aside0.mk hfl
 have HGV := Aside0.mk hgv
 have HRES := Aside0.mk h
 clear hl0 had2 hfl hgv h
 go_enter Tryd.func25, Tryd.ntmps25
 go_wp2_with (first | (go_at_call 39; (with_reducible refine (spec_l7Of.run k l _ _ HTA.out A0 c0 _ (Kd.C_below HR0.out HB.out) HC0.out).mono ?_); rintro e w3 ⟨va, rfl, hp, hb⟩; (obtain ⟨kd, hkd⟩ : ∃ kd, kd = k := ⟨_, rfl⟩); rw [← hkd] at hp; clear hkd; have HPA := Aside0.mk hp; have n0_ := Aside0.mk (below_step HB.out hb); clear HB hb; have HB := n0_; clear n0_; have HW3_ := Aside0.mk HB.out.size; have H3 := Aside0.mk (Below.refl w3.heap.size w3); clear hp) | (go_at_call 39; (with_reducible refine (spec_l7Of.run k v _ _ HTX.out A2 c2 _ (Kd.C_below HR2.out HB.out) HC2.out).mono ?_); rintro e w4 ⟨vx, rfl, hp, hb⟩; (obtain ⟨kx, hkx⟩ : ∃ kx, kx = k := ⟨_, rfl⟩); rw [← hkx] at hp; clear hkx; have HPX := Aside0.mk hp; have n0_ := Aside0.mk (below_step HB.out hb); have n1_ := Aside0.mk (below_step H3.out hb); clear HB H3 hb; have HB := n0_; have H3 := n1_; clear n0_ n1_; have H34_ := Aside0.mk H3.out.size; have H4 := Aside0.mk (Below.refl w4.heap.size w4); clear hp; (obtain ⟨g, rfl, htt⟩ := HPA.out); obtain ⟨vt, gs, hbt, hRt, hlt, d1, rfl, hFt⟩ := (htt.bound).root; (obtain ⟨Aa, ca, rfl⟩ := Kd.R_slice hRt); have HRA := Aside0.mk hRt; have HFA := Aside0.mk hFt; have HGL := Aside0.mk hlt; have Q0 := Aside0.mk (show w3.cell? ⟨g, 0, none⟩ = some (.string ta.x.f0) from (blk_cell hbt 0).trans rfl); have Q1 := Aside0.mk (show w3.cell? ⟨g, 1, none⟩ = some (.int .i64 ta.x.f1) from (blk_cell hbt 1).trans rfl); have Q2 := Aside0.mk (show w3.cell? ⟨g, 2, none⟩ = some (.int .i64 ta.x.f2) from (blk_cell hbt 2).trans rfl); have Q3 := Aside0.mk (show w3.cell? ⟨g, 3, none⟩ = some (.string ta.x.f3) from (blk_cell hbt 3).trans rfl); have Q4 := Aside0.mk (show w3.cell? ⟨g, 4, none⟩ = some (.int .i64 ta.x.f4) from (blk_cell hbt 4).trans rfl); have Q5 := Aside0.mk (show w3.cell? ⟨g, 5, none⟩ = some (.slice Aa gs.length ca) from (blk_cell hbt 5).trans rfl); clear htt hbt hRt hFt hlt HPA; have hq0 : w4.cell? ⟨g, 0, none⟩ = some (.string ta.x.f0) := (H3.out.cell (World.block_lt_of_cell? _ _ Q0.out)).trans Q0.out; have hq1 : w4.cell? ⟨g, 1, none⟩ = some (.int .i64 ta.x.f1) := (H3.out.cell (World.block_lt_of_cell? _ _ Q1.out)).trans Q1.out; have hq2 : w4.cell? ⟨g, 2, none⟩ = some (.int .i64 ta.x.f2) := (H3.out.cell (World.block_lt_of_cell? _ _ Q2.out)).trans Q2.out; have hq3 : w4.cell? ⟨g, 3, none⟩ = some (.string ta.x.f3) := (H3.out.cell (World.block_lt_of_cell? _ _ Q3.out)).trans Q3.out; have hq4 : w4.cell? ⟨g, 4, none⟩ = some (.int .i64 ta.x.f4) := (H3.out.cell (World.block_lt_of_cell? _ _ Q4.out)).trans Q4.out; have hq5 : w4.cell? ⟨g, 5, none⟩ = some (.slice Aa gs.length ca) := (H3.out.cell (World.block_lt_of_cell? _ _ Q5.out)).trans Q5.out) | (go_at_call 48; refine (spec_l7Runes.calls k key true _ HRN.out).mono ?_; rintro e w5 ⟨rfl, hb⟩; have n0_ := Aside0.mk (below_step HB.out hb); have n1_ := Aside0.mk (below_step H3.out hb); have n2_ := Aside0.mk (below_step H4.out hb); clear HB H3 H4 hb; have HB := n0_; have H3 := n1_; have H4 := n2_; clear n0_ n1_ n2_; clear hq0 hq1 hq2 hq3 hq4 hq5; have hq0 : w5.cell? ⟨g, 0, none⟩ = some (.string ta.x.f0) := (H3.out.cell (World.block_lt_of_cell? _ _ Q0.out)).trans Q0.out; have hq1 : w5.cell? ⟨g, 1, none⟩ = some (.int .i64 ta.x.f1) := (H3.out.cell (World.block_lt_of_cell? _ _ Q1.out)).trans Q1.out; have hq2 : w5.cell? ⟨g, 2, none⟩ = some (.int .i64 ta.x.f2) := (H3.out.cell (World.block_lt_of_cell? _ _ Q2.out)).trans Q2.out; have hq3 : w5.cell? ⟨g, 3, none⟩ = some (.string ta.x.f3) := (H3.out.cell (World.block_lt_of_cell? _ _ Q3.out)).trans Q3.out; have hq4 : w5.cell? ⟨g, 4, none⟩ = some (.int .i64 ta.x.f4) := (H3.out.cell (World.block_lt_of_cell? _ _ Q4.out)).trans Q4.out; have hq5 : w5.cell? ⟨g, 5, none⟩ = some (.slice Aa gs.length ca) := (H3.out.cell (World.block_lt_of_cell? _ _ Q5.out)).trans Q5.out) | ((with_reducible refine gate_dst (N := 50) rfl ?_); refine box_event ?hg (N := 50) ?hd (cs := nodeC ta.x (.slice none 0 0)) (t := 72) ?hr ?_; (case hd => rfl); (case hg => rfl); (case hr => first | (go_simp; done) | (go_simp; rfl)); intro gb hg w6 hbox hb; have GB4 := Aside0.mk (show w4.heap.size ≤ gb from by rw [hg]; exact H4.out.size); have BV := Aside0.mk hbox; have n0_ := Aside0.mk (below_step HB.out hb); have n1_ := Aside0.mk (below_step H3.out hb); have n2_ := Aside0.mk (below_step H4.out hb); clear HB H3 H4 hb; have HB := n0_; have H3 := n1_; have H4 := n2_; clear n0_ n1_ n2_; clear hq0 hq1 hq2 hq3 hq4 hq5 hg hbox; have hq5 : w6.cell? ⟨g, 5, none⟩ = some (.slice Aa gs.length ca) := (H3.out.cell (World.block_lt_of_cell? _ _ Q5.out)).trans Q5.out))
 clear hq5 c1b0
 obtain ⟨gx, rfl, htx⟩ := HPX.out
 have GX3 := Aside0.mk (show w3.heap.size ≤ gx from htx.ok_root)
 obtain ⟨vx, gsx, hbx, hRx, hlx, dx, rfl, hFx⟩ := htx.bound.apart
 obtain ⟨Ax, cx, rfl⟩ := Kd.R_slice hRx
 have BX4 := Aside0.mk hbx
 have GXL := Aside0.mk (blk_lt hbx)
 have HXR4 := Aside0.mk (show kp.R 52 w4 0 (fun k_ => k_ < w4.heap.size) (.slice Ax gsx.length cx) gsx from Kd.R_mono hRx (fun _ hk => hk.2))
 have HXF4 := Aside0.mk (show IsF 72 52 dx w4 (fun k_ => k_ < w4.heap.size ∧ k_ ≠ gx) gsx tx.kids from hFx.mono (fun _ hk => ⟨hk.1.2, hk.2⟩))
 clear htx hbx hRx hlx hFx HPX
 have HW3 := Aside0.mk (show w.heap.size ≤ w3.heap.size from HW3_.out)
 have H34 := Aside0.mk (show w3.heap.size ≤ w4.heap.size from H34_.out)
 have HK := Aside0.mk (show kp.R 52 w6 0 (fun k_ => k_ ≠ gb) (.slice none 0 0) [] from Kd.R_nil _ _ _ _ _)
 have HFR := Aside0.mk (show IsF 72 52 d1 w6 (fun k_ => k_ < w3.heap.size) [] [] from IsF.nil _ _ _)
 go_loopg [56] k (fun kq v56 w' => ∃ (i : Nat) (R : List T7) (mm : Int) (vv : Value) (gr : List Nat), v56 = .int .i64 i ∧ Aside0 (spec_WithField.l kq ta.kids key ta.x.f1 i R = some R0 ∧ kq ≤ k) ∧ Aside0 (Below w.heap.size w w') ∧ Aside0 (Below w3.heap.size w3 w') ∧ Aside0 (Below w4.heap.size w4 w') ∧ Aside0 (w'.heap[gb]? = some (.cells (nodeC { ta.x with f4 := mm } vv) 72 (0, 0))) ∧ Aside0 (kp.R 52 w' 0 (fun k_ => k_ ≠ gb) vv gr) ∧ Aside0 (IsF 72 52 d1 w' (fun k_ => k_ < w3.heap.size) gr R))
 case atStart => exact ⟨0, [], ta.x.f4, _, [], rfl, ⟨HL.out, Nat.le_refl _⟩, HB, H3, H4, BV, HK, HFR⟩
 case round =>
  clear HL HB H3 H4 BV HK HFR
  obtain ⟨i, R, mm, vv, gr, rfl, HL, HB, H3, H4, BV, HK, HFR⟩ := hrel
  cases gk with
  | zero => have := HL.out.1; rw [spec_WithField.l] at this; cases this
  | succ m =>
   have h := HL.out.1
   rw [spec_WithField.l] at h
   by_cases c5 : i < ta.kids.length
   rotate_left
   ·rw [if_neg c5] at h
    have c5b0 : decide ((i : Int) < (gs.length : Int)) = false := decide_eq_false (by have := HGL.out; omega)
    have c5b1 : decide (i < gs.length) = false := decide_eq_false (by have := HGL.out; omega)
    injection h with h
    subst h
    clear c5
    have BX := Aside0.mk ((H4.out.block gx GXL.out).trans BX4.out)
    have HXR := Aside0.mk (Kd.R_below (ok := fun k_ => k_ < w4.heap.size) HXR4.out H4.out)
    have HXF := Aside0.mk (IsF.below HXF4.out H4.out)
    have hx_0 : wr.cell? ⟨gx, 0, none⟩ = some (.string tx.x.f0) := (blk_cell BX.out 0).trans rfl
    have hxf0 := blk_frozen BX.out 0
    cases gv with
    | true =>
     have hres := HRES.out
     rw [if_pos rfl] at hres
     injection hres with hres
     injection hres with h1 h2
     subst h1
     subst h2
     go_wp2_with (first | ((with_reducible refine gate_store (t := 9) (p := 75) rfl ?_); refine store_event (t := 9) (p := 75) (v := .tmp 72) (w1 := (wr.setCell ⟨gx, 0, none⟩ (.string key))) ?hg ?ho ?hn ?hr ?_; (case ho => rfl); (case hg => rfl); (case hn => rfl); (case hr => first | (go_simp; done) | (go_simp; rfl)); intro w5 hw; have m0_ := Aside0.mk (show Below w.heap.size w w5 from (by rw [hw]; exact below_set HB.out (Nat.le_trans HW3.out GX3.out))); have m1_ := Aside0.mk (show Below w3.heap.size w3 w5 from (by rw [hw]; exact below_set H3.out GX3.out)); have m2_ := Aside0.mk (show w5.heap[gx]? = some (.cells (nodeC { tx.x with f0 := key } (.slice Ax gsx.length cx)) 72 (0, 0)) from (by rw [hw]; exact (blk_put (cs' := nodeC { tx.x with f0 := key } (.slice Ax gsx.length cx)) BX.out 0 (.string key) rfl))); have m3_ := Aside0.mk (show w5.heap[gb]? = some (.cells (nodeC { ta.x with f4 := mm } vv) 72 (0, 0)) from (by rw [hw]; exact blk_far BV.out (p := ⟨gx, 0, none⟩) (by have := GB4.out; have := GXL.out; show gb ≠ gx; omega) _)); have m4_ := Aside0.mk (show kp.R 52 w5 0 (fun k_ => k_ ≠ gb) vv gr from (by rw [hw]; exact Kd.R_set HK.out BX.out (by decide) 0 _)); have m5_ := Aside0.mk (show IsF 72 52 d1 w5 (fun k_ => k_ < w3.heap.size) gr R from (by rw [hw]; exact HFR.out.far (p := ⟨gx, 0, none⟩) (fun k_ hk_ => by have := GX3.out; show k_ ≠ gx; omega) _)); have m6_ := Aside0.mk (show IsT 72 52 (dx + 1) w5 (fun k_ => k_ ≠ gb) gx (.mk { tx.x with f0 := key } tx.kids) from IsT.of_root (by have := GB4.out; have := GXL.out; show gx ≠ gb; omega) m2_.out (by rw [hw]; exact Kd.R_mono (Kd.R_set HXR.out BX.out (by decide) 0 _) (fun k_ hk_ => by have := GB4.out; show k_ ≠ gb; omega)) (by rw [hw]; exact (HXF.out.far (p := ⟨gx, 0, none⟩) (fun k_ hk_ => hk_.2) _).mono (fun k_ hk_ => by have := GB4.out; have := hk_.1; show k_ ≠ gb; omega))); clear hx_0 hxf0 hw HB H3 H4 BX BV HK HFR HXR HXF m2_; have HB := m0_; have H3 := m1_; have BV := m3_; have HK := m4_; have HFR := m5_; have HTN := m6_; clear m0_ m1_ m3_ m4_ m5_ m6_) | ((with_reducible refine gate_callee (f := 49) rfl ?_); refine goesL_ (some 78) rfl rfl Tryd.func49 (by kernel_rfl) rfl #[.pointer (some ⟨gb, 0, none⟩), .pointer (some ⟨gx, 0, none⟩)] rfl (by (try simp only [List.map_toArray, List.map_cons, List.map_nil]); first | done | rfl) ?_; (refine (spec_l7V_add.run k { ta.x with f4 := mm } R (.mk { tx.x with f0 := key } tx.kids) R2 HAD2.out (max d1 (dx + 1)) gb gx vv gr (fun k_ => k_ ≠ gb) (fun k_ hk_ => hk_) _ BV.out (Kd.R_mono HK.out (fun _ _ => trivial)) ((HFR.out.upto (Nat.le_max_left _ _)).mono (fun k_ hk_ => by have := GB4.out; have := H34.out; omega)) (HTN.out.upto (Nat.le_max_right _ _))).mono ?_); rintro e w9 ⟨rfl, v9, g9, b1, b2, b3, b4⟩; refine ⟨_, rfl, ?_⟩; have n0_ := Aside0.mk (HB.out.grown b4 (HB.out.size) (fun k_ e_ => by injection e_ with e_; have := HW3.out; have := H34.out; have := GB4.out; omega)); have n1_ := Aside0.mk (H3.out.grown b4 (H3.out.size) (fun k_ e_ => by injection e_ with e_; have := H34.out; have := GB4.out; omega)); clear HB H3; have HB := n0_; have H3 := n1_; clear n0_ n1_; clear BV HK HFR HTN b4; have HTO := Aside0.mk (IsT.of_root (ok := fun _ => True) trivial b1 (Kd.R_mono b2 (fun _ _ => trivial)) (b3.mono (fun _ _ => trivial))); clear b1 b2 b3) | ((with_reducible refine gate_callee (f := 33) rfl ?_); refine goesL_ (some 80) rfl rfl Tryd.func33 (by kernel_rfl) rfl #[.pointer (some ⟨gb, 0, none⟩), .slice none 0 0] rfl (by (try simp only [List.map_toArray, List.map_cons, List.map_nil]); first | done | rfl) ?_; (refine (spec_l7Flat.run k _ _ _ HFL.out _ gb _ _ w _ HB.out HTO.out (Kd.R_nil _ _ _ _ _)).mono ?_); rintro e w10 ⟨v10, rfl, ho, hb, hg, hat⟩; refine ⟨_, rfl, ?_⟩; have HO := Aside0.mk ho; have m0_ := Aside0.mk hb; clear HB hb hg hat ho HTO H3; have HB := m0_; clear m0_; (obtain ⟨Af, cf, rfl⟩ := Kd.R_slice HO.out); have HOC := Aside0.mk (Kd.R_reads' HO.out).2) | ((with_reducible refine gate_callee (f := 16) rfl ?_); refine goesL_ (some 82) rfl rfl Tryd.func16 (by kernel_rfl) rfl #[.slice Af fl.length cf] rfl (by (try simp only [List.map_toArray, List.map_cons, List.map_nil]); first | done | rfl) ?_; (refine (spec_GoodValue.calls k Af cf fl true _ HOC.out.2 HOC.out.1 HGV.out).mono ?_); rintro e w11 ⟨rfl, hb⟩; refine ⟨_, rfl, ?_⟩; have m0_ := Aside0.mk (below_step HB.out hb); have m1_ := Aside0.mk (Kd.R_below HO.out hb); clear HB hb HO HOC; have HB := m0_; have HO := m1_; clear m0_ m1_))
     go_ret2
     exact ⟨_, rfl, HO.out, HB.out⟩
    | false =>
     have hres := HRES.out
     rw [if_neg (by decide)] at hres
     injection hres with hres
     injection hres with h1 h2
     subst h1
     subst h2
     go_wp2_with (first | ((with_reducible refine gate_store (t := 9) (p := 75) rfl ?_); refine store_event (t := 9) (p := 75) (v := .tmp 72) (w1 := (wr.setCell ⟨gx, 0, none⟩ (.string key))) ?hg ?ho ?hn ?hr ?_; (case ho => rfl); (case hg => rfl); (case hn => rfl); (case hr => first | (go_simp; done) | (go_simp; rfl)); intro w5 hw; have m0_ := Aside0.mk (show Below w.heap.size w w5 from (by rw [hw]; exact below_set HB.out (Nat.le_trans HW3.out GX3.out))); have m1_ := Aside0.mk (show Below w3.heap.size w3 w5 from (by rw [hw]; exact below_set H3.out GX3.out)); have m2_ := Aside0.mk (show w5.heap[gx]? = some (.cells (nodeC { tx.x with f0 := key } (.slice Ax gsx.length cx)) 72 (0, 0)) from (by rw [hw]; exact (blk_put (cs' := nodeC { tx.x with f0 := key } (.slice Ax gsx.length cx)) BX.out 0 (.string key) rfl))); have m3_ := Aside0.mk (show w5.heap[gb]? = some (.cells (nodeC { ta.x with f4 := mm } vv) 72 (0, 0)) from (by rw [hw]; exact blk_far BV.out (p := ⟨gx, 0, none⟩) (by have := GB4.out; have := GXL.out; show gb ≠ gx; omega) _)); have m4_ := Aside0.mk (show kp.R 52 w5 0 (fun k_ => k_ ≠ gb) vv gr from (by rw [hw]; exact Kd.R_set HK.out BX.out (by decide) 0 _)); have m5_ := Aside0.mk (show IsF 72 52 d1 w5 (fun k_ => k_ < w3.heap.size) gr R from (by rw [hw]; exact HFR.out.far (p := ⟨gx, 0, none⟩) (fun k_ hk_ => by have := GX3.out; show k_ ≠ gx; omega) _)); have m6_ := Aside0.mk (show IsT 72 52 (dx + 1) w5 (fun k_ => k_ ≠ gb) gx (.mk { tx.x with f0 := key } tx.kids) from IsT.of_root (by have := GB4.out; have := GXL.out; show gx ≠ gb; omega) m2_.out (by rw [hw]; exact Kd.R_mono (Kd.R_set HXR.out BX.out (by decide) 0 _) (fun k_ hk_ => by have := GB4.out; show k_ ≠ gb; omega)) (by rw [hw]; exact (HXF.out.far (p := ⟨gx, 0, none⟩) (fun k_ hk_ => hk_.2) _).mono (fun k_ hk_ => by have := GB4.out; have := hk_.1; show k_ ≠ gb; omega))); clear hx_0 hxf0 hw HB H3 H4 BX BV HK HFR HXR HXF m2_; have HB := m0_; have H3 := m1_; have BV := m3_; have HK := m4_; have HFR := m5_; have HTN := m6_; clear m0_ m1_ m3_ m4_ m5_ m6_) | ((with_reducible refine gate_callee (f := 49) rfl ?_); refine goesL_ (some 78) rfl rfl Tryd.func49 (by kernel_rfl) rfl #[.pointer (some ⟨gb, 0, none⟩), .pointer (some ⟨gx, 0, none⟩)] rfl (by (try simp only [List.map_toArray, List.map_cons, List.map_nil]); first | done | rfl) ?_; (refine (spec_l7V_add.run k { ta.x with f4 := mm } R (.mk { tx.x with f0 := key } tx.kids) R2 HAD2.out (max d1 (dx + 1)) gb gx vv gr (fun k_ => k_ ≠ gb) (fun k_ hk_ => hk_) _ BV.out (Kd.R_mono HK.out (fun _ _ => trivial)) ((HFR.out.upto (Nat.le_max_left _ _)).mono (fun k_ hk_ => by have := GB4.out; have := H34.out; omega)) (HTN.out.upto (Nat.le_max_right _ _))).mono ?_); rintro e w9 ⟨rfl, v9, g9, b1, b2, b3, b4⟩; refine ⟨_, rfl, ?_⟩; have n0_ := Aside0.mk (HB.out.grown b4 (HB.out.size) (fun k_ e_ => by injection e_ with e_; have := HW3.out; have := H34.out; have := GB4.out; omega)); have n1_ := Aside0.mk (H3.out.grown b4 (H3.out.size) (fun k_ e_ => by injection e_ with e_; have := H34.out; have := GB4.out; omega)); clear HB H3; have HB := n0_; have H3 := n1_; clear n0_ n1_; clear BV HK HFR HTN b4; have HTO := Aside0.mk (IsT.of_root (ok := fun _ => True) trivial b1 (Kd.R_mono b2 (fun _ _ => trivial)) (b3.mono (fun _ _ => trivial))); clear b1 b2 b3) | ((with_reducible refine gate_callee (f := 33) rfl ?_); refine goesL_ (some 80) rfl rfl Tryd.func33 (by kernel_rfl) rfl #[.pointer (some ⟨gb, 0, none⟩), .slice none 0 0] rfl (by (try simp only [List.map_toArray, List.map_cons, List.map_nil]); first | done | rfl) ?_; (refine (spec_l7Flat.run k _ _ _ HFL.out _ gb _ _ w _ HB.out HTO.out (Kd.R_nil _ _ _ _ _)).mono ?_); rintro e w10 ⟨v10, rfl, ho, hb, hg, hat⟩; refine ⟨_, rfl, ?_⟩; have HO := Aside0.mk ho; have m0_ := Aside0.mk hb; clear HB hb hg hat ho HTO H3; have HB := m0_; clear m0_; (obtain ⟨Af, cf, rfl⟩ := Kd.R_slice HO.out); have HOC := Aside0.mk (Kd.R_reads' HO.out).2) | ((with_reducible refine gate_callee (f := 16) rfl ?_); refine goesL_ (some 82) rfl rfl Tryd.func16 (by kernel_rfl) rfl #[.slice Af fl.length cf] rfl (by (try simp only [List.map_toArray, List.map_cons, List.map_nil]); first | done | rfl) ?_; (refine (spec_GoodValue.calls k Af cf fl false _ HOC.out.2 HOC.out.1 HGV.out).mono ?_); rintro e w11 ⟨rfl, hb⟩; refine ⟨_, rfl, ?_⟩; have m0_ := Aside0.mk (below_step HB.out hb); have m1_ := Aside0.mk (Kd.R_below HO.out hb); clear HB hb HO HOC; have HB := m0_; have HO := m1_; clear m0_ m1_))
     go_ret2
     exact ⟨_, rfl, Kd.R_nil _ _ _ _ _, HB.out⟩
   rw [if_pos c5] at h
   have c5b0 : decide ((i : Int) < (gs.length : Int)) = true := decide_eq_true (by have := HGL.out; omega)
   have c5b1 : decide (i < gs.length) = true := decide_eq_true (by have := HGL.out; omega)
   have hi0 : ((0 : Int) ≤ (i : Int)) = True := eq_true (by omega)
   have hi1 : ((i : Int) < (gs.length : Int)) = True := eq_true (by have := HGL.out; omega)
   have hi2 : wrap64 ((i : Int) + 1) = ((i + 1 : Nat) : Int) := by unfold wrap64; have := HLEN.out; omega
   have hi3 : IntKind.i64.wrap ((i : Int) + 1) = ((i + 1 : Nat) : Int) := by rw [IntKind.wrap_i64]; have := HLEN.out; omega
   obtain ⟨u, hu, h⟩ := Option.bind_eq_some_iff.mp h
   obtain ⟨gu, hgu⟩ : ∃ gu, gs[i]? = some gu := ⟨_, List.getElem?_eq_getElem (by have := HGL.out; omega)⟩
   have hut := HFA.out.2 i gu u hgu hu
   have HU := Aside0.mk ((hut.below H3.out).mono (ok' := fun k_ => k_ < w3.heap.size) (fun _ hk => hk.2))
   obtain ⟨vu, gs2, hbu, _⟩ := hut.root
   have hcu0 : w3.cell? ⟨gu, 0, none⟩ = some (.string u.x.f0) := (blk_cell hbu 0).trans rfl
   have hcu := (H3.out.cell (World.block_lt_of_cell? _ _ hcu0)).trans hcu0
   obtain ⟨ad, e0, hx3⟩ := kp_at HRA.out hgu
   cases e0
   have hx0 := (H3.out.cell (World.block_lt_of_cell? _ _ hx3)).trans hx3
   clear hut hbu hcu0 hx3 hu hgu c5
   by_cases c6 : u.x.f0.toList = key.toList
   ·rw [if_pos c6] at h
    have c6b0 : (u.x.f0.toList != key.toList) = false := by simpa using c6
    have c6b1 : (u.x.f0.toList == key.toList) = true := beq_iff_eq.mpr c6
    have HL2 := Aside0.mk (show spec_WithField.l m ta.kids key ta.x.f1 (i + 1) R = some R0 ∧ m ≤ k from ⟨h, by have := HL.out.2; omega⟩)
    clear h c6
    go_wp2
    go_roundg m
    case measure => have := HL2.out.2; omega
    case rel => exact ⟨i + 1, R, mm, vv, gr, rfl, HL2, HB, H3, H4, BV, HK, HFR⟩
   ·rw [if_neg c6] at h
    have c6b0 : (u.x.f0.toList != key.toList) = true := bne_iff_ne.mpr c6
    have c6b1 : (u.x.f0.toList == key.toList) = false := beq_eq_false_iff_ne.mpr c6
    obtain ⟨R', had, h⟩ := Option.bind_eq_some_iff.mp h
    have HAD := Aside0.mk had
    have HL2 := Aside0.mk (show spec_WithField.l m ta.kids key ta.x.f1 (i + 1) R' = some R0 ∧ m ≤ k from ⟨h, by have := HL.out.2; omega⟩)
    clear h c6 had
    go_wp2_with (first | ((with_reducible refine gate_callee (f := 49) rfl ?_); refine goesL_ (some 69) rfl rfl Tryd.func49 (by kernel_rfl) rfl #[.pointer (some ⟨gb, 0, none⟩), .pointer (some ⟨gu, 0, none⟩)] rfl (by (try simp only [List.map_toArray, List.map_cons, List.map_nil]); first | done | rfl) ?_; (refine (spec_l7V_add.run m { ta.x with f4 := mm } R u R' HAD.out d1 gb gu vv gr (fun k_ => k_ < w3.heap.size) (fun k_ hk_ => by have := GB4.out; have := H34.out; omega) _ BV.out (Kd.R_mono HK.out (fun _ _ => trivial)) HFR.out HU.out).mono ?_); rintro e w9 ⟨rfl, v9, g9, b1, b2, b3, b4⟩; refine ⟨_, rfl, ?_⟩; have n0_ := Aside0.mk (HB.out.grown b4 (HB.out.size) (fun k_ e_ => by injection e_ with e_; have := HW3.out; have := H34.out; have := GB4.out; omega)); have n1_ := Aside0.mk (H3.out.grown b4 (H3.out.size) (fun k_ e_ => by injection e_ with e_; have := H34.out; have := GB4.out; omega)); have n2_ := Aside0.mk (H4.out.grown b4 (H4.out.size) (fun k_ e_ => by injection e_ with e_; have := GB4.out; omega)); clear HB H3 H4; have HB := n0_; have H3 := n1_; have H4 := n2_; clear n0_ n1_ n2_; clear hx0 hcu BV HK HFR HU b4; have BV := Aside0.mk b1; have HK := Aside0.mk b2; have HFR := Aside0.mk b3; clear b1 b2 b3))
    go_roundg m
    case measure => have := HL2.out.2; omega
    case rel => exact ⟨i + 1, R', _, v9, g9, rfl, HL2, HB, H3, H4, BV, HK, HFR⟩

end
end Go.Proofs.YtkfbdopfeacnfaaDoor.PFnFields
