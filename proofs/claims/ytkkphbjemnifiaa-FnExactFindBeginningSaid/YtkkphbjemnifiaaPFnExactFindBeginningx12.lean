-- Printed for this claim by a changed copy of the kit's printing program (wip/tools/patch_print.py); Lean checks it.
import Derived.Test.YtkkphbjemnifiaaPFnExactFindBeginningx0
import Derived.Test.YtkkphbjemnifiaaPFnExactFindBeginningx2
import Derived.Test.YtkkphbjemnifiaaPFnExactFindBeginningx6
import Derived.Test.YtkkphbjemnifiaaPFnExactFindBeginningx10
import Derived.Test.YtkkphbjemnifiaaPFnExactFindBeginningx11
namespace Go.Proofs.Ytkkphbjemnifiaa.PFnExactFindBeginning
open Go.RowKit Go.Proofs.YtkkphbjemnifiaaW.PrintWords Go.Proofs.YtkkphbjemnifiaaW.PrintLast Go.Proofs.YtkkphbjemnifiaaW.PrintMore
attribute [local go_sem] max2_int min2_int max_two min_two max_three min_three max_four min_four   -- for this text's walks alone
set_option linter.unusedVariables false
set_option linter.unusedSimpArgs false

noncomputable section
/-! ### laws_markIntS: function 27 -/
def laws_markIntS.l0 : Nat → List Int → Int → Int → Option (Int × List Int)
  | 0, _, _, _ => none
  | k + 1, x0, x1, x5 => if x5 < (x0.length : Int) then (if 0 ≤ x5 then (laws_markIntS.l0 k (x0.set (x5 : Int).toNat x1) (wrap64 (x1 + 1)) (wrap64 (x5 + 1))) else (none)) else (some (x1, x0))
def laws_markIntS.f (k : Nat) (l0 : List Int) (a1 : Int) : Option (Int × List Int) := laws_markIntS.l0 k l0 a1 0
theorem laws_markIntS.mono_l : ∀ k, (∀ y0 y1 y2, LeO (laws_markIntS.l0 k y0 y1 y2) (laws_markIntS.l0 (k + 1) y0 y1 y2))
  | 0 => fun _ _ _ r h => by simp [laws_markIntS.l0] at h
  | k + 1 => by
    have ih0 := laws_markIntS.mono_l k
    · intro y0 y1 y2
      unfold laws_markIntS.l0
      repeat' first
      | (with_reducible exact ih0 _ _ _)
      | (with_reducible exact LeO.refl _)
      | (with_reducible exact LeO.none _)
      | (with_reducible refine LeO.ite ?_ ?_)
      | (with_reducible refine LeO.bind ?_ (fun _ => ?_))
      | exact ih0 _ _ _
      | exact LeO.none _
      | refine LeO.ite ?_ ?_
      | refine LeO.bind ?_ (fun _ => ?_)
theorem laws_markIntS.mono : ∀ a0 a1 k, LeO (laws_markIntS.f k a0 a1) (laws_markIntS.f (k + 1) a0 a1) := by
  intro a0 a1 k
  have ih0 := laws_markIntS.mono_l k
  unfold laws_markIntS.f
  repeat' first
      | (with_reducible exact ih0 _ _ _)
      | (with_reducible exact LeO.refl _)
      | (with_reducible exact LeO.none _)
      | (with_reducible refine LeO.ite ?_ ?_)
      | (with_reducible refine LeO.bind ?_ (fun _ => ?_))
      | exact ih0 _ _ _
      | exact LeO.none _
      | refine LeO.ite ?_ ?_
      | refine LeO.bind ?_ (fun _ => ?_)
set_option maxHeartbeats 8000000 in
set_option maxRecDepth 100000 in
theorem laws_markIntS.calls (k : Nat) (P0_ : Nat → Prop) (u9000_ : Value) (l0 : List Int) (a1 : Int) (r1 : Int) (r2 : List Int) (w0 w : World) (hB : Below w0.heap.size w0 w) (ho0 : Kd.R (Kd.int .i64) 3 w w0.heap.size P0_ u9000_ l0) (h : laws_markIntS.f k l0 a1 = some (r1, r2)) :
    Calls Try.prog 27 #[u9000_, .int .i64 a1] w fun e w' => e = .returned (.int .i64 r1) ∧ Kd.R (Kd.int .i64) 3 w' w0.heap.size (fun k_ => (P0_ k_ ∨ w.heap.size ≤ k_)) u9000_ r2 ∧ Below w0.heap.size w0 w' ∧ Kept w w' (fun k_ => P0_ k_) := by
  have HO0 := Aside0.mk (show Kd.R (Kd.int .i64) 3 w w0.heap.size (fun k_ => (P0_ k_ ∨ w.heap.size ≤ k_)) u9000_ l0 from Kd.R_mono ho0 (fun k_ hk => (.inl hk)))
  have HK := Aside0.mk (Kept.refl w (fun k_ => P0_ k_))
  have HW0 := Aside0.mk hB.size
  have HB := Aside0.mk hB
  clear hB
  have H : (laws_markIntS.l0 k l0 a1 0) = some (r1, r2) := h
  clear h
  have H' := Aside0.mk H
  clear H
  go_enter Try.func27, Try.ntmps27
  go_wp2
  go_loopg [1, 5] k (fun kq v1 v5 w' => ∃ (x0_1 : List Int) (x1_1 : Int) (x5_1 : Int), v1 = .int .i64 x1_1 ∧ v5 = .int .i64 x5_1 ∧ Aside0 (laws_markIntS.l0 kq x0_1 x1_1 x5_1 = some (r1, r2)) ∧ Aside0 (kq ≤ k) ∧ Aside0 (Kd.R (Kd.int .i64) 3 w' w0.heap.size (fun k_ => (P0_ k_ ∨ w.heap.size ≤ k_)) u9000_ x0_1) ∧ Aside0 (Kept w w' (fun k_ => P0_ k_)) ∧ Aside0 (Below w0.heap.size w0 w'))
  case atStart => exact ⟨(l0), (a1), (0), (by first | rfl | (simp; done) | (simp [*]; done) | (simp; apply Bool.eq_iff_iff.mpr; simp only [bne_iff_ne, ne_eq, beq_iff_eq]; omega)), (by first | rfl | (simp; done) | (simp [*]; done) | (simp; apply Bool.eq_iff_iff.mpr; simp only [bne_iff_ne, ne_eq, beq_iff_eq]; omega)), H', ⟨Nat.le_refl _⟩, ⟨by (with_reducible repeat (first | apply Kd.R_alloc | apply Kd.R_drewN | apply Kd.R_drew)); exact HO0.out⟩, ⟨by repeat (first | (with_reducible first | exact HK.out | apply Kept.alloc | apply Kept.drewN | apply Kept.drew) | exact HK.out)⟩, ⟨by repeat (first | (with_reducible first | exact HB.out | apply below_alloc | apply pw_below_drewN | apply below_drew1) | exact HB.out)⟩⟩
  case round =>
    clear H'
    try clear c2
    try clear p2
    obtain ⟨x0_1, x1_1, x5_1, rfl, rfl, HA, HK1, HO_0, HK, HB⟩ := hrel
    cases gk with
    | zero => exact absurd HA.out (by simp [laws_markIntS.l0])
    | succ k1 =>
      have H := HA.out
      clear HA
      simp only [laws_markIntS.l0] at H
      by_cases c3 : x5_1 < (x0_1.length : Int)
      · rw [if_pos c3] at H
        have c3b0 : decide (x5_1 < (x0_1.length : Int)) = true := decide_eq_true c3
        clear c3
        by_cases c4 : 0 ≤ x5_1
        · rw [if_pos c4] at H
          have c4b0 : decide (0 ≤ x5_1) = true := decide_eq_true c4
          clear c4
          obtain ⟨y322, hy322⟩ : ∃ y_ : List Int, y_ = (x0_1.set (x5_1 : Int).toNat x1_1) := ⟨_, rfl⟩
          replace H : (laws_markIntS.l0 k1 y322 (wrap64 (x1_1 + 1)) (wrap64 (x5_1 + 1))) = some (r1, r2) := by first | (rw [hy322]; with_reducible exact H) | (have H2_ := (Option.bind_some _ _).symm.trans H; rw [hy322]; with_reducible exact H2_) | (have H2_ := (Option.bind_some _ _).symm.trans H; with_reducible exact H2_) | with_reducible exact H | (rw [hy322]; exact H) | exact H
          have Ny322 := Aside0.mk hy322
          clear hy322
          have H' := Aside0.mk H
          clear H
          obtain ⟨Ao6, co6, eo6⟩ := Kd.R_slice HO_0.out
          subst eo6
          have p5 : 0 ≤ (x5_1 : Int) := of_decide_eq_true (by first | (with_reducible assumption) | assumption)
          have q5 : (x5_1 : Int) < ((x0_1.length : Int) : Int) := of_decide_eq_true (by first | (with_reducible assumption) | assumption)
          obtain ⟨go5, co5, eo5, gb5, gl5, cl5, HG5⟩ := Kd.R_form HO_0.out (by omega)
          (first | cases eo5 | (injection eo5 with ea_ en_ ec_; (first | subst ea_ | (injection ea_ with ea_; subst ea_)); subst ec_; clear en_))
          have GB5 := Aside0.mk gb5
          have GG5 := Aside0.mk HG5
          clear gb5 gl5 HG5
          have HMgo5 := Aside0.mk (show (P0_ go5 ∨ w.heap.size ≤ go5) from (HO_0.out.1 _ rfl))
          obtain ⟨hx5_0, hf5_0⟩ := Kd.R_celln 0 HO_0.out (x5_1 : Int) p5 q5
          replace p5 := eq_true p5
          replace q5 := eq_true q5
          have HP7 := Kd.R_putg HO_0.out (x5_1 : Int) x1_1
          go_wp2_with (first | ((with_reducible refine gate_store (t := 3) (p := 15) rfl ?_); refine store_event (t := 3) (p := 15) (v := ?vo_w8) (w1 := (wr.setCell ⟨go5, (x5_1 : Int).toNat, none⟩ (.int .i64 x1_1))) ?hg ?ho ?hn ?hr ?_; (case ho => rfl); (case hg => rfl); (case hn => rfl); (case hr => first | (go_simp; done) | (go_simp; rfl)); intro w8 hw; have hg : wr.grownBy w8 (some go5) := (by rw [hw]; exact HP7.2); have hp_ : Kd.R (Kd.int .i64) 3 w8 w0.heap.size (fun k_ => (P0_ k_ ∨ w.heap.size ≤ k_)) (.slice (some ⟨go5, 0, none⟩) x0_1.length co6) y322 := (by rw [hw, Ny322.out]; exact HP7.1); clear HP7; have n0_ := Aside0.mk (hp_); have n1_ := Aside0.mk ((by rw [hw]; exact below_set (HB.out) GB5.out : Below w0.heap.size w0 w8)); have n2_ := Aside0.mk (Kept.of_grown (S := (fun k_ => P0_ k_)) hg (by repeat (first | (with_reducible first | exact HK.out | apply Kept.alloc | apply Kept.drewN | apply Kept.drew) | exact HK.out)) (fun k_ e_ => (HO_0.out.1 k_ e_))); clear HO_0; clear HB; clear HK; have HO_0 := n0_; have HB := n1_; have HK := n2_; clear n0_ n1_ n2_; clear hg hw hp_))
          go_roundg k1
          case measure => have := HK1.out; omega
          case rel => exact ⟨(y322), (wrap64 (x1_1 + 1)), (wrap64 (x5_1 + 1)), (by first | rfl | (simp; done) | (simp [*]; done) | (simp; apply Bool.eq_iff_iff.mpr; simp only [bne_iff_ne, ne_eq, beq_iff_eq]; omega)), (by first | rfl | (simp; done) | (simp [*]; done) | (simp; apply Bool.eq_iff_iff.mpr; simp only [bne_iff_ne, ne_eq, beq_iff_eq]; omega)), H', ⟨by have := HK1.out; omega⟩, ⟨by (with_reducible repeat (first | apply Kd.R_alloc | apply Kd.R_drewN | apply Kd.R_drew)); exact HO_0.out⟩, ⟨by repeat (first | (with_reducible first | exact HK.out | apply Kept.alloc | apply Kept.drewN | apply Kept.drew) | exact HK.out)⟩, ⟨by repeat (first | (with_reducible first | exact HB.out | apply below_alloc | apply pw_below_drewN | apply below_drew1) | exact HB.out)⟩⟩
        · rw [if_neg c4] at H
          exact absurd H (by simp)
      · rw [if_neg c3] at H
        have c3b0 : decide (x5_1 < (x0_1.length : Int)) = false := decide_eq_false c3
        clear c3
        simp only [Option.some.injEq, Prod.mk.injEq] at H
        obtain ⟨rfl, rfl⟩ := H
        obtain ⟨Ao9, co9, eo9⟩ := Kd.R_slice HO_0.out
        subst eo9
        go_wp2
        go_ret
        exact ⟨by first | rfl | (simp [errW_none, errW_some] <;> rfl) | (simp [*, errW_none, errW_some] <;> rfl), by (with_reducible repeat (first | apply Kd.R_alloc | apply Kd.R_drewN | apply Kd.R_drew)); exact HO_0.out, by repeat (first | (with_reducible first | exact HB.out | apply below_alloc | apply pw_below_drewN | apply below_drew1) | exact HB.out), by repeat (first | (with_reducible first | exact HK.out | apply Kept.alloc | apply Kept.drewN | apply Kept.drew) | exact HK.out)⟩

/-! ### laws_markForkS: function 22 -/
def laws_markForkS.f (k : Nat) : List S74 → Int → Option (Int × List S74)
  | [], a => some (a, [])
  | x :: l, a => (laws_markText.f k a).bind fun t => (laws_markIntS.f k x.f1 (wrap64 (a + 1))).bind fun p => (laws_markForkS.f k l (wrap64 (wrap64 (wrap64 (p.1 + 1) + 1) + 1))).bind fun q => some (q.1, ⟨t, p.2, p.1, wrap64 (p.1 + 1), wrap64 (wrap64 (p.1 + 1) + 1)⟩ :: q.2)
theorem laws_markForkS.mono : ∀ (l : List S74) (a : Int) (k : Nat), LeO (laws_markForkS.f k l a) (laws_markForkS.f (k + 1) l a)
  | [], a, k => LeO.refl _
  | x :: l, a, k => by
    rw [laws_markForkS.f, laws_markForkS.f]
    exact LeO.bind (laws_markText.mono _ _) (fun _ => LeO.bind (laws_markIntS.mono _ _ _) (fun _ => LeO.bind (laws_markForkS.mono l _ k) (fun _ => LeO.refl _)))
set_option maxHeartbeats 16000000 in
set_option maxRecDepth 100000 in
theorem laws_markForkS.run (k : Nat) (ok : Nat → Prop) (v : Value) (l : List S74) (a : Int) (r1 : Int) (r2 : List S74) (w0 w : World) (hB : Below w0.heap.size w0 w) (hO : Kd.S k74 74 w w0.heap.size ok v l) (h : laws_markForkS.f k l a = some (r1, r2)) :
    Calls Try.prog 22 #[v, .int .i64 a] w fun e w' => e = .returned (.int .i64 r1) ∧ Kd.S k74 74 w' w0.heap.size ok v r2 ∧ Below w0.heap.size w0 w' ∧ Kept w w' ok := by
  have hu74 := Try.underlying74
  obtain ⟨A0, c0, rfl, hlc, hC⟩ := Kd.S_reads hO
  obtain ⟨n, hn⟩ : ∃ n, n = l.length := ⟨_, rfl⟩
  have hmax := hC.2.1
  rw [← hn] at hO hmax ⊢
  have HB := Aside0.mk hB
  have HO := Aside0.mk hO
  have HK := Aside0.mk (Kept.refl w ok)
  have HX := Aside0.mk (show l.length = n ∧ ∃ tl, laws_markForkS.f k (l.drop (0 : Int).toNat) a = some (r1, tl) ∧ l.take (0 : Int).toNat ++ tl = r2 from ⟨hn.symm, r2, h, rfl⟩)
  have HM := Aside0.mk hmax
  clear hB hO h hC hlc hmax hn
  go_enter Try.func22, Try.ntmps22
  go_wp2
  go_loopg [1, 5] n (fun kq v1 v5 w' => ∃ (ka xi : Int) (xs : List S74), v1 = .int .i64 ka ∧ v5 = .int .i64 xi ∧ Aside0 (0 ≤ xi ∧ xi + kq = n) ∧ Aside0 (xs.length = n ∧ ∃ tl, laws_markForkS.f k (xs.drop xi.toNat) ka = some (r1, tl) ∧ xs.take xi.toNat ++ tl = r2) ∧ Aside0 (Below w0.heap.size w0 w') ∧ Aside0 (Kd.S k74 74 w' w0.heap.size ok (.slice A0 n c0) xs) ∧ Aside0 (Kept w w' ok))
  case atStart => exact ⟨a, 0, l, rfl, rfl, ⟨by omega⟩, HX, HB, HO, HK⟩
  case round =>
    clear HX HB HO HK
    obtain ⟨ka, xi, xs, rfl, rfl, ⟨hxi, hxk⟩, HX, HB, HO, HK⟩ := hrel
    cases gk with
    | zero =>
      have e0 : decide (xi < (n : Int)) = false := decide_eq_false (by omega)
      obtain ⟨hxl, tl, hf, ht⟩ := HX.out
      rw [List.drop_of_length_le (by omega), laws_markForkS.f] at hf
      injection hf with hf
      injection hf with hf1 hf2
      subst hf1; subst hf2
      rw [List.append_nil, List.take_of_length_le (by omega)] at ht
      subst ht
      clear HX hxl
      go_wp2
      go_ret
      exact ⟨rfl, HO.out, HB.out, HK.out⟩
    | succ k1 =>
      have e0 : decide (xi < (n : Int)) = true := decide_eq_true (by omega)
      obtain ⟨hxl, tl, hf, ht⟩ := HX.out
      have hil : xi.toNat < xs.length := by omega
      rw [List.drop_eq_getElem_cons hil, laws_markForkS.f] at hf
      obtain ⟨t, hT, hf⟩ := Option.bind_eq_some_iff.mp hf
      obtain ⟨p, hP, hf⟩ := Option.bind_eq_some_iff.mp hf
      obtain ⟨q, hQ, hf⟩ := Option.bind_eq_some_iff.mp hf
      injection hf with hf
      injection hf with hf1 hf2
      obtain ⟨pb, pl⟩ := p
      obtain ⟨x, hx⟩ : ∃ x, x = xs[xi.toNat] := ⟨_, rfl⟩
      have hrd : rd_T74 xs xi = x := by rw [hx]; simp [rd_T74, List.getD_eq_getElem?_getD, List.getElem?_eq_getElem hil]
      rw [← hx] at hP
      obtain ⟨g, rfl⟩ : ∃ g : Nat, A0 = some ⟨g, 0, none⟩ := by
        obtain ⟨g, cg, hgv, _, _, _⟩ := Kd.S_form HO.out (by omega)
        injection hgv with hgA _ _
        exact ⟨g, hgA⟩
      -- the lists in between
      obtain ⟨y1, hy1⟩ : ∃ y, y = xs.set xi.toNat { x with f0 := t } := ⟨_, rfl⟩
      obtain ⟨y2, hy2⟩ : ∃ y, y = y1.set xi.toNat { x with f0 := t, f1 := pl } := ⟨_, rfl⟩
      obtain ⟨y3, hy3⟩ : ∃ y, y = y2.set xi.toNat { x with f0 := t, f1 := pl, f2 := pb } := ⟨_, rfl⟩
      obtain ⟨y4, hy4⟩ : ∃ y, y = y3.set xi.toNat { x with f0 := t, f1 := pl, f2 := pb, f3 := wrap64 (pb + 1) } := ⟨_, rfl⟩
      obtain ⟨y5, hy5⟩ : ∃ y, y = y4.set xi.toNat ⟨t, pl, pb, wrap64 (pb + 1), wrap64 (wrap64 (pb + 1) + 1)⟩ := ⟨_, rfl⟩
      have l1 : y1.length = n := by rw [hy1, List.length_set]; exact hxl
      have l2 : y2.length = n := by rw [hy2, List.length_set]; exact l1
      have l3 : y3.length = n := by rw [hy3, List.length_set]; exact l2
      have l4 : y4.length = n := by rw [hy4, List.length_set]; exact l3
      have l5 : y5.length = n := by rw [hy5, List.length_set]; exact l4
      have g1 : rd_T74 y1 xi = { x with f0 := t } := by rw [hy1]; simp [rd_T74, hil]
      have g2 : rd_T74 y2 xi = { x with f0 := t, f1 := pl } := by rw [hy2]; simp [rd_T74, show xi.toNat < y1.length by omega]
      have g3 : rd_T74 y3 xi = { x with f0 := t, f1 := pl, f2 := pb } := by rw [hy3]; simp [rd_T74, show xi.toNat < y2.length by omega]
      have g4 : rd_T74 y4 xi = { x with f0 := t, f1 := pl, f2 := pb, f3 := wrap64 (pb + 1) } := by rw [hy4]; simp [rd_T74, show xi.toNat < y3.length by omega]
      have e5 : y5 = xs.set xi.toNat ⟨t, pl, pb, wrap64 (pb + 1), wrap64 (wrap64 (pb + 1) + 1)⟩ := by rw [hy5, hy4, hy3, hy2, hy1]; simp only [List.set_set]
      have HX5 := Aside0.mk (show y5.length = n ∧ ∃ tl, laws_markForkS.f k (y5.drop (xi + 1).toNat) (wrap64 (wrap64 (wrap64 (pb + 1) + 1) + 1)) = some (r1, tl) ∧ y5.take (xi + 1).toNat ++ tl = r2 from by
        refine ⟨l5, q.2, ?_, ?_⟩
        · rw [e5, show (xi + 1).toNat = xi.toNat + 1 by omega, List.drop_set_of_lt (by omega), ← hf1]; exact hQ
        · rw [e5, show (xi + 1).toNat = xi.toNat + 1 by omega, List.take_add_one, List.take_set_of_le (Nat.le_refl _), List.getElem?_set_self hil, ← ht, ← hf2]; simp)
      have G0 := Aside0.mk hrd
      have G1 := Aside0.mk g1
      have G2 := Aside0.mk g2
      have G3 := Aside0.mk g3
      have G4 := Aside0.mk g4
      have Y1 := Aside0.mk hy1
      have Y2 := Aside0.mk hy2
      have Y3 := Aside0.mk hy3
      have Y4 := Aside0.mk hy4
      have Y5 := Aside0.mk hy5
      have HT := Aside0.mk hT
      have HP := Aside0.mk hP
      have HI := Aside0.mk (show 0 ≤ xi ∧ xi < (n : Int) from ⟨hxi, by omega⟩)
      have p0 : (0 ≤ xi) = True := eq_true hxi
      have q0 : (xi < (n : Int)) = True := eq_true (by omega)
      have i1 : wrap64 (xi + 1) = xi + 1 := by
        have := HM.out
        unfold wrap64; omega
      clear HX hxl hf hf1 hf2 hQ ht hT hP hx hrd l1 l2 l3 l4 l5 g1 g2 g3 g4 e5 hy1 hy2 hy3 hy4 hy5
      go_wp2_with (first | ((with_reducible refine gate_callee (f := 60) rfl ?_); refine goesL_ (some 15) rfl rfl Try.func60 (by kernel_rfl) rfl #[.int .i64 ka] rfl (by (try simp only [List.map_toArray, List.map_cons, List.map_nil]); first | done | rfl) ?_; refine (laws_markText.calls k _ _ _ HT.out).mono ?_; rintro e w1 ⟨rfl, hb⟩; refine ⟨_, rfl, ?_⟩; have n0_ := Aside0.mk (below_then (by repeat (first | (with_reducible first | exact HB.out | apply below_alloc | apply pw_below_drewN | apply below_drew1) | exact HB.out)) (Below.size (by repeat (first | (with_reducible first | exact HB.out | apply below_alloc | apply pw_below_drewN | apply below_drew1) | exact HB.out))) hb); have n1_ := Aside0.mk (Kd.S_below (by (with_reducible repeat (first | apply Kd.S_alloc | apply Kd.S_drewN | apply Kd.S_drew)); exact HO.out) hb); have n2_ := Aside0.mk (Kept.below HK.out hb); clear hb HB HO HK; have HB := n0_; have HO := n1_; have HK := n2_; clear n0_ n1_ n2_) | ((with_reducible refine gate_store (t := 9) (p := 17) rfl ?_); obtain ⟨oki, ce, hcl, hM, hcc, hfr, hoki, hH⟩ := Kd.S_elem HO.out z74 xi HI.out.1 HI.out.2; change k74.M _ _ _ (rd_T74 xs xi) _ at hM; rw [G0.out] at hM; obtain ⟨ve1, rfl, ge1⟩ := k74_openM hM; refine Kd.H_store k74 (w0 := w0) w0.heap.size rfl rfl 9 (.tmp 17) (.tmp 15) rfl 74 (o' := xi.toNat * 5) xi 0 xs ({ x with f0 := t } : S74) (.string t) [.string t] _ ok oki oki ?ba ?bf rfl rfl ?bt ?bn hH HI.out.1 HI.out.2 ?bj ?bm (fun _ h_ => h_) (by repeat (first | (with_reducible first | exact HB.out | apply below_alloc | apply pw_below_drewN | apply below_drew1) | exact HB.out)) ?_; (case ba => rfl); (case bf => first | rfl | (simp; done) | omega); (case bt => kernel_rfl); (case bn => intro q_ hq_; rw [List.mem_singleton.1 hq_]; rfl); (case bj => show 0 + 1 ≤ 5; omega); (case bm => exact k74_mkM _ _ _ ({ x with f0 := t } : S74) ge1); intro w2 ho hb hg; rw [← Y1.out] at ho; have n0_ := Aside0.mk ho; have n1_ := Aside0.mk hb; have n2_ := Aside0.mk (Kept.of_grown hg HK.out (fun k_ hk_ => .inl ((Kd.S_R HO.out).1 k_ (by rw [← hk_]; simp [Value.ownBlock])))); clear ho hb hg HO HB HK hcl hM hcc hfr hoki hH ge1; have HO := n0_; have HB := n1_; have HK := n2_; clear n0_ n1_ n2_; (try simp only [Act.put, List.setIfInBounds_toArray, List.set_cons_zero, List.set_cons_succ]); obtain ⟨oki, ce, hcl, hM, hcc, hfr, hoki, hH⟩ := Kd.S_elem HO.out z74 xi HI.out.1 HI.out.2; change k74.M _ _ _ (rd_T74 y1 xi) _ at hM; rw [G1.out] at hM; obtain ⟨ve1, rfl, ge1⟩ := k74_openM hM; have hv1 := hcc 1 _ rfl; obtain ⟨A1, c1, rfl⟩ := Kd.R_slice ge1; change w2.cell? ⟨g, xi.toNat * 5 + 1, none⟩ = _ at hv1; have GE1 := Aside0.mk ge1; have HOK := Aside0.mk hoki; have HH := Aside0.mk hH; clear hcl hM hcc hfr hoki hH ge1) | ((with_reducible refine gate_callee (f := 27) rfl ?_); refine goesL_ (some 26) rfl rfl Try.func27 (by kernel_rfl) rfl #[.slice A1 x.f1.length c1, .int .i64 (wrap64 (ka + 1))] rfl (by (try simp only [List.map_toArray, List.map_cons, List.map_nil]); first | done | rfl) ?_; refine (laws_markIntS.calls k oki (.slice A1 x.f1.length c1) x.f1 (wrap64 (ka + 1)) pb pl w0 _ ?d1 ?d2 HP.out).mono ?_; (case d1 => exact (by repeat (first | (with_reducible first | exact HB.out | apply below_alloc | apply pw_below_drewN | apply below_drew1) | exact HB.out))); (case d2 => exact GE1.out); rintro e w3 ⟨rfl, hr, hb, hkp⟩; refine ⟨_, rfl, ?_⟩; have hre := Kd.R_reok rfl hr (fun k_ e_ => GE1.out.1 k_ e_); have n0_ := Aside0.mk (show Kd.S k74 74 w3 w0.heap.size ok (.slice (some ⟨g, 0, none⟩) n c0) y2 from by rw [Y2.out]; exact Kd.H_back (Kd.H_kept HH.out hkp (fun _ _ h_ => h_)) (k74_mkM _ _ _ ({ x with f0 := t, f1 := pl } : S74) hre) (fun _ h_ => h_)); have n1_ := Aside0.mk hb; have n2_ := Aside0.mk (Kept.then_ HK.out hkp (fun k_ h_ => .inl (HOK.out k_ h_).1)); clear hr hre hb hkp HO HB HK GE1 HOK HH hv1; have HO := n0_; have HB := n1_; have HK := n2_; clear n0_ n1_ n2_) | ((with_reducible refine gate_store (t := 3) (p := 31) rfl ?_); obtain ⟨oki, ce, hcl, hM, hcc, hfr, hoki, hH⟩ := Kd.S_elem HO.out z74 xi HI.out.1 HI.out.2; change k74.M _ _ _ (rd_T74 y2 xi) _ at hM; rw [G2.out] at hM; obtain ⟨ve1, rfl, ge1⟩ := k74_openM hM; refine Kd.H_store k74 (w0 := w0) w0.heap.size rfl rfl 3 (.tmp 31) (.tmp 29) rfl 74 (o' := xi.toNat * 5 + 2) xi 2 y2 ({ x with f0 := t, f1 := pl, f2 := pb } : S74) (.int .i64 pb) [.int .i64 pb] _ ok oki oki ?ca ?cf rfl rfl ?ct ?cn hH HI.out.1 HI.out.2 ?cj ?cm (fun _ h_ => h_) (by repeat (first | (with_reducible first | exact HB.out | apply below_alloc | apply pw_below_drewN | apply below_drew1) | exact HB.out)) ?_; (case ca => rfl); (case cf => first | rfl | (simp; done) | omega); (case ct => kernel_rfl); (case cn => intro q_ hq_; rw [List.mem_singleton.1 hq_]; rfl); (case cj => show 2 + 1 ≤ 5; omega); (case cm => exact k74_mkM _ _ _ ({ x with f0 := t, f1 := pl, f2 := pb } : S74) ge1); intro w4 ho hb hg; rw [← Y3.out] at ho; have n0_ := Aside0.mk ho; have n1_ := Aside0.mk hb; have n2_ := Aside0.mk (Kept.of_grown hg HK.out (fun k_ hk_ => .inl ((Kd.S_R HO.out).1 k_ (by rw [← hk_]; simp [Value.ownBlock])))); clear ho hb hg HO HB HK hcl hM hcc hfr hoki hH ge1; have HO := n0_; have HB := n1_; have HK := n2_; clear n0_ n1_ n2_; (try simp only [Act.put, List.setIfInBounds_toArray, List.set_cons_zero, List.set_cons_succ])) | ((with_reducible refine gate_store (t := 3) (p := 38) rfl ?_); obtain ⟨oki, ce, hcl, hM, hcc, hfr, hoki, hH⟩ := Kd.S_elem HO.out z74 xi HI.out.1 HI.out.2; change k74.M _ _ _ (rd_T74 y3 xi) _ at hM; rw [G3.out] at hM; obtain ⟨ve1, rfl, ge1⟩ := k74_openM hM; refine Kd.H_store k74 (w0 := w0) w0.heap.size rfl rfl 3 (.tmp 38) (.tmp 36) rfl 74 (o' := xi.toNat * 5 + 3) xi 3 y3 ({ x with f0 := t, f1 := pl, f2 := pb, f3 := wrap64 (pb + 1) } : S74) (.int .i64 (wrap64 (pb + 1))) [.int .i64 (wrap64 (pb + 1))] _ ok oki oki ?fa ?ff rfl rfl ?ft ?fn hH HI.out.1 HI.out.2 ?fj ?fm (fun _ h_ => h_) (by repeat (first | (with_reducible first | exact HB.out | apply below_alloc | apply pw_below_drewN | apply below_drew1) | exact HB.out)) ?_; (case fa => rfl); (case ff => first | rfl | (simp; done) | omega); (case ft => kernel_rfl); (case fn => intro q_ hq_; rw [List.mem_singleton.1 hq_]; rfl); (case fj => show 3 + 1 ≤ 5; omega); (case fm => exact k74_mkM _ _ _ ({ x with f0 := t, f1 := pl, f2 := pb, f3 := wrap64 (pb + 1) } : S74) ge1); intro w5 ho hb hg; rw [← Y4.out] at ho; have n0_ := Aside0.mk ho; have n1_ := Aside0.mk hb; have n2_ := Aside0.mk (Kept.of_grown hg HK.out (fun k_ hk_ => .inl ((Kd.S_R HO.out).1 k_ (by rw [← hk_]; simp [Value.ownBlock])))); clear ho hb hg HO HB HK hcl hM hcc hfr hoki hH ge1; have HO := n0_; have HB := n1_; have HK := n2_; clear n0_ n1_ n2_; (try simp only [Act.put, List.setIfInBounds_toArray, List.set_cons_zero, List.set_cons_succ])) | ((with_reducible refine gate_store (t := 3) (p := 45) rfl ?_); obtain ⟨oki, ce, hcl, hM, hcc, hfr, hoki, hH⟩ := Kd.S_elem HO.out z74 xi HI.out.1 HI.out.2; change k74.M _ _ _ (rd_T74 y4 xi) _ at hM; rw [G4.out] at hM; obtain ⟨ve1, rfl, ge1⟩ := k74_openM hM; refine Kd.H_store k74 (w0 := w0) w0.heap.size rfl rfl 3 (.tmp 45) (.tmp 43) rfl 74 (o' := xi.toNat * 5 + 4) xi 4 y4 (⟨t, pl, pb, wrap64 (pb + 1), wrap64 (wrap64 (pb + 1) + 1)⟩ : S74) (.int .i64 (wrap64 (wrap64 (pb + 1) + 1))) [.int .i64 (wrap64 (wrap64 (pb + 1) + 1))] _ ok oki oki ?ha ?hf rfl rfl ?ht ?hn hH HI.out.1 HI.out.2 ?hj ?hm (fun _ h_ => h_) (by repeat (first | (with_reducible first | exact HB.out | apply below_alloc | apply pw_below_drewN | apply below_drew1) | exact HB.out)) ?_; (case ha => rfl); (case hf => first | rfl | (simp; done) | omega); (case ht => kernel_rfl); (case hn => intro q_ hq_; rw [List.mem_singleton.1 hq_]; rfl); (case hj => show 4 + 1 ≤ 5; omega); (case hm => exact k74_mkM _ _ _ (⟨t, pl, pb, wrap64 (pb + 1), wrap64 (wrap64 (pb + 1) + 1)⟩ : S74) ge1); intro w6 ho hb hg; rw [← Y5.out] at ho; have n0_ := Aside0.mk ho; have n1_ := Aside0.mk hb; have n2_ := Aside0.mk (Kept.of_grown hg HK.out (fun k_ hk_ => .inl ((Kd.S_R HO.out).1 k_ (by rw [← hk_]; simp [Value.ownBlock])))); clear ho hb hg HO HB HK hcl hM hcc hfr hoki hH ge1; have HO := n0_; have HB := n1_; have HK := n2_; clear n0_ n1_ n2_; (try simp only [Act.put, List.setIfInBounds_toArray, List.set_cons_zero, List.set_cons_succ])))
      go_roundg k1
      case measure => omega
      case rel => exact ⟨wrap64 (wrap64 (wrap64 (pb + 1) + 1) + 1), xi + 1, y5, rfl, by first | rfl | rw [i1], ⟨by omega⟩, HX5, HB, HO, HK⟩

/-! ### laws_heldIntS: function 28 -/
def laws_heldIntS.l0 : Nat → List Int → Int → Int → Option (Int)
  | 0, _, _, _ => none
  | k + 1, x0, x1, x5 => if x5 < (x0.length : Int) then (if 0 ≤ x5 then (if (rd x0 x5) = x1 then (laws_heldIntS.l0 k x0 (wrap64 (x1 + 1)) (wrap64 (x5 + 1))) else (some (-1))) else (none)) else (some x1)
def laws_heldIntS.f (k : Nat) (l0 : List Int) (a1 : Int) : Option (Int) := laws_heldIntS.l0 k l0 a1 0
theorem laws_heldIntS.mono_l : ∀ k, (∀ y0 y1 y2, LeO (laws_heldIntS.l0 k y0 y1 y2) (laws_heldIntS.l0 (k + 1) y0 y1 y2))
  | 0 => fun _ _ _ r h => by simp [laws_heldIntS.l0] at h
  | k + 1 => by
    have ih0 := laws_heldIntS.mono_l k
    · intro y0 y1 y2
      unfold laws_heldIntS.l0
      repeat' first
      | (with_reducible exact ih0 _ _ _)
      | (with_reducible exact LeO.refl _)
      | (with_reducible exact LeO.none _)
      | (with_reducible refine LeO.ite ?_ ?_)
      | (with_reducible refine LeO.bind ?_ (fun _ => ?_))
      | exact ih0 _ _ _
      | exact LeO.none _
      | refine LeO.ite ?_ ?_
      | refine LeO.bind ?_ (fun _ => ?_)
theorem laws_heldIntS.mono : ∀ a0 a1 k, LeO (laws_heldIntS.f k a0 a1) (laws_heldIntS.f (k + 1) a0 a1) := by
  intro a0 a1 k
  have ih0 := laws_heldIntS.mono_l k
  unfold laws_heldIntS.f
  repeat' first
      | (with_reducible exact ih0 _ _ _)
      | (with_reducible exact LeO.refl _)
      | (with_reducible exact LeO.none _)
      | (with_reducible refine LeO.ite ?_ ?_)
      | (with_reducible refine LeO.bind ?_ (fun _ => ?_))
      | exact ih0 _ _ _
      | exact LeO.none _
      | refine LeO.ite ?_ ?_
      | refine LeO.bind ?_ (fun _ => ?_)
set_option maxHeartbeats 8000000 in
set_option maxRecDepth 100000 in
theorem laws_heldIntS.calls (k : Nat) (A0 : Option Addr) (c0 : Nat) (l0 : List Int) (a1 : Int) (r : Int) (w : World) (hr0 : Kd.C (Kd.int .i64) w A0 l0.length l0) (hc0 : l0.length ≤ c0) (h : laws_heldIntS.f k l0 a1 = some r) :
    Calls Try.prog 28 #[.slice A0 l0.length c0, .int .i64 a1] w fun e w' => e = .returned (.int .i64 r) ∧ Drawn0 w w' := by
  have HR0 := Aside0.mk hr0
  have HC0 := Aside0.mk hc0
  clear hr0 hc0
  have H : (laws_heldIntS.l0 k l0 a1 0) = some r := h
  clear h
  have H' := Aside0.mk H
  clear H
  go_enter Try.func28, Try.ntmps28
  go_wp2
  go_loopg [1, 5] k (fun kq v1 v5 w' => ∃ (x1_1 : Int) (x5_1 : Int), v1 = .int .i64 x1_1 ∧ v5 = .int .i64 x5_1 ∧ Aside0 (laws_heldIntS.l0 kq l0 x1_1 x5_1 = some r) ∧ Aside0 (kq ≤ k) ∧ Drawn0 w w')
  case atStart => exact ⟨(a1), (0), (by first | rfl | (simp; done) | (simp [*]; done) | (simp; apply Bool.eq_iff_iff.mpr; simp only [bne_iff_ne, ne_eq, beq_iff_eq]; omega)), (by first | rfl | (simp; done) | (simp [*]; done) | (simp; apply Bool.eq_iff_iff.mpr; simp only [bne_iff_ne, ne_eq, beq_iff_eq]; omega)), H', ⟨Nat.le_refl _⟩, by repeat (first | exact Drawn0.refl _ | apply Drawn0.step)⟩
  case round =>
    clear H'
    try clear c2
    try clear p2
    obtain ⟨x1_1, x5_1, rfl, rfl, HA, HK1, ⟨m1, rfl⟩⟩ := hrel
    cases gk with
    | zero => exact absurd HA.out (by simp [laws_heldIntS.l0])
    | succ k1 =>
      have H := HA.out
      clear HA
      simp only [laws_heldIntS.l0] at H
      by_cases c3 : x5_1 < (l0.length : Int)
      · rw [if_pos c3] at H
        have c3b0 : decide (x5_1 < (l0.length : Int)) = true := decide_eq_true c3
        clear c3
        by_cases c4 : 0 ≤ x5_1
        · rw [if_pos c4] at H
          have c4b0 : decide (0 ≤ x5_1) = true := decide_eq_true c4
          clear c4
          by_cases c5 : (rd l0 x5_1) = x1_1
          · rw [if_pos c5] at H
            have c5b0 : ((rd l0 x5_1) == x1_1) = true := beq_iff_eq.mpr c5
            have c5b1 : ((rd l0 x5_1) != x1_1) = false := bne_eq_false_iff_eq.mpr c5
            clear c5
            have H' := Aside0.mk H
            clear H
            have p323 : 0 ≤ (x5_1 : Int) := of_decide_eq_true (by first | (with_reducible assumption) | assumption)
            have q323 : x5_1 < (l0.length : Int) := of_decide_eq_true (by first | (with_reducible assumption) | assumption)
            obtain ⟨ad323, e323, hx323_0⟩ := Kd.at_int HR0.out x5_1 p323 q323
            cases e323
            replace p323 := eq_true p323
            replace q323 := eq_true q323
            go_wp2
            go_roundg k1
            case measure => have := HK1.out; omega
            case rel => exact ⟨(wrap64 (x1_1 + 1)), (wrap64 (x5_1 + 1)), (by first | rfl | (simp; done) | (simp [*]; done) | (simp; apply Bool.eq_iff_iff.mpr; simp only [bne_iff_ne, ne_eq, beq_iff_eq]; omega)), (by first | rfl | (simp; done) | (simp [*]; done) | (simp; apply Bool.eq_iff_iff.mpr; simp only [bne_iff_ne, ne_eq, beq_iff_eq]; omega)), H', ⟨by have := HK1.out; omega⟩, by repeat (first | exact Drawn0.refl _ | apply Drawn0.step)⟩
          · rw [if_neg c5] at H
            have c5b0 : ((rd l0 x5_1) == x1_1) = false := beq_eq_false_iff_ne.mpr c5
            have c5b1 : ((rd l0 x5_1) != x1_1) = true := bne_iff_ne.mpr c5
            obtain rfl := Option.some.inj H
            have p323 : 0 ≤ (x5_1 : Int) := of_decide_eq_true (by first | (with_reducible assumption) | assumption)
            have q323 : x5_1 < (l0.length : Int) := of_decide_eq_true (by first | (with_reducible assumption) | assumption)
            obtain ⟨ad323, e323, hx323_0⟩ := Kd.at_int HR0.out x5_1 p323 q323
            cases e323
            replace p323 := eq_true p323
            replace q323 := eq_true q323
            go_wp2
            go_ret
            exact ⟨by first | rfl | (simp; done) | (simp [*]; done), by repeat (first | exact Drawn0.refl _ | apply Drawn0.step)⟩
        · rw [if_neg c4] at H
          exact absurd H (by simp)
      · rw [if_neg c3] at H
        have c3b0 : decide (x5_1 < (l0.length : Int)) = false := decide_eq_false c3
        clear c3
        obtain rfl := Option.some.inj H
        go_wp2
        go_ret
        exact ⟨by first | rfl | (simp; done) | (simp [*]; done), by repeat (first | exact Drawn0.refl _ | apply Drawn0.step)⟩

/-! ### laws_FnExactFindBeginning: function 8 -/
/-! Rows of the call's own, each in a stretch of the heap. -/
def RI {α : Type} (d : Kd α) (e b lo hi : Nat) (W : World) (v : Value) (xs : List α) : Prop := d.R e W b (fun k => lo ≤ k ∧ k < hi) v xs ∧ b ≤ lo ∧ hi ≤ W.heap.size
def SI {α : Type} (d : Kd α) (e b lo hi : Nat) (W : World) (v : Value) (xs : List α) : Prop := Kd.S d e W b (fun k => lo ≤ k ∧ k < hi) v xs ∧ b ≤ lo ∧ hi ≤ W.heap.size
theorem RI.new {α : Type} {d : Kd α} {e b : Nat} {W W2 : World} {v : Value} {xs : List α} (h : d.R e W2 W.heap.size (fun _ => True) v xs) (hle : b ≤ W.heap.size) : RI d e b W.heap.size W2.heap.size W2 v xs :=
  ⟨Kd.R_lower (Kd.R_mono (Kd.R_bound h) (fun k hk => ⟨hk.2.1, hk.2.2.1⟩)) hle, hle, Nat.le_refl _⟩
theorem SI.new {α : Type} {d : Kd α} {e b : Nat} {W W2 : World} {v : Value} {xs : List α} (h : Kd.S d e W2 W.heap.size (fun _ => True) v xs) (hle : b ≤ W.heap.size) : SI d e b W.heap.size W2.heap.size W2 v xs :=
  ⟨Kd.S_lower (Kd.S_mono (Kd.S_bound h) (fun k hk => ⟨hk.2.1, hk.2.2.1⟩)) hle, hle, Nat.le_refl _⟩
theorem RI.below {α : Type} {d : Kd α} {e b lo hi : Nat} {W W2 : World} {v : Value} {xs : List α} (h : RI d e b lo hi W v xs) (hb : Below W.heap.size W W2) : RI d e b lo hi W2 v xs := ⟨Kd.R_below h.1 hb, h.2.1, Nat.le_trans h.2.2 hb.size⟩
theorem SI.below {α : Type} {d : Kd α} {e b lo hi : Nat} {W W2 : World} {v : Value} {xs : List α} (h : SI d e b lo hi W v xs) (hb : Below W.heap.size W W2) : SI d e b lo hi W2 v xs := ⟨Kd.S_below h.1 hb, h.2.1, Nat.le_trans h.2.2 hb.size⟩
theorem RI.kept {α : Type} {d : Kd α} {e b lo hi : Nat} {W W2 : World} {v : Value} {xs : List α} {P : Nat → Prop} (h : RI d e b lo hi W v xs) (hk : Kept W W2 P) (hne : ∀ k, P k → k < lo ∨ hi ≤ k) : RI d e b lo hi W2 v xs :=
  ⟨Kd.R_kept h.1 hk (fun k hk hp => by have := hne k hp; omega), h.2.1, Nat.le_trans h.2.2 hk.1⟩
theorem SI.kept {α : Type} {d : Kd α} {e b lo hi : Nat} {W W2 : World} {v : Value} {xs : List α} {P : Nat → Prop} (h : SI d e b lo hi W v xs) (hk : Kept W W2 P) (hne : ∀ k, P k → k < lo ∨ hi ≤ k) : SI d e b lo hi W2 v xs :=
  ⟨Kd.S_kept h.1 hk (fun k hk hp => by have := hne k hp; omega), h.2.1, Nat.le_trans h.2.2 hk.1⟩
theorem RI.slice {α : Type} {d : Kd α} {e b lo hi : Nat} {W : World} {v : Value} {xs : List α} (h : RI d e b lo hi W v xs) : ∃ A c, v = .slice A xs.length c := Kd.R_slice h.1
theorem SI.slice {α : Type} {d : Kd α} {e b lo hi : Nat} {W : World} {v : Value} {xs : List α} (h : SI d e b lo hi W v xs) : ∃ A c, v = .slice A xs.length c := Kd.S_slice h.1
theorem RI.reads {α : Type} {d : Kd α} {e b lo hi n c : Nat} {A : Option Addr} {W : World} {xs : List α} (h : RI d e b lo hi W (.slice A n c) xs) : n = xs.length ∧ n ≤ c ∧ d.C W A xs.length xs := Kd.R_reads' h.1
theorem SI.reads {α : Type} {d : Kd α} {e b lo hi n c : Nat} {A : Option Addr} {W : World} {xs : List α} (h : SI d e b lo hi W (.slice A n c) xs) : n = xs.length ∧ n ≤ c ∧ d.C W A xs.length xs := Kd.S_reads' h.1
theorem RI.le {α : Type} {d : Kd α} {e b lo hi n c : Nat} {A : Option Addr} {W : World} {xs : List α} (h : RI d e b lo hi W (.slice A n c) xs) : xs.length ≤ c := by have := h.reads; omega
theorem SI.le {α : Type} {d : Kd α} {e b lo hi n c : Nat} {A : Option Addr} {W : World} {xs : List α} (h : SI d e b lo hi W (.slice A n c) xs) : xs.length ≤ c := by have := h.reads; omega
/-- A row that was written over: it is told anew. -/
theorem RI.over {α : Type} {d : Kd α} {e b lo hi : Nat} {W W2 : World} {v : Value} {xs ys : List α} {ok : Nat → Prop} (hE : d.E = []) (h : RI d e b lo hi W v xs) (hr : d.R e W2 b ok v ys) (hle : W.heap.size ≤ W2.heap.size) : RI d e b lo hi W2 v ys :=
  ⟨Kd.R_reok hE hr (fun k e_ => h.1.1 k e_), h.2.1, Nat.le_trans h.2.2 hle⟩
theorem SI.over {α : Type} {d : Kd α} {e b lo hi : Nat} {W W2 : World} {v : Value} {xs ys : List α} (h : SI d e b lo hi W v xs) (hr : Kd.S d e W2 b (fun k => lo ≤ k ∧ k < hi) v ys) (hle : W.heap.size ≤ W2.heap.size) : SI d e b lo hi W2 v ys :=
  ⟨hr, h.2.1, Nat.le_trans h.2.2 hle⟩
def laws_FnExactFindBeginning.f (k : Nat) (l0 : List S71) (a1 : ByteArray) : Option Bool :=
  if (a1.size : Int) > 1048576 then some true else
  (laws_szForkS.f k l0 1048576).bind fun n => if n < 0 then some true else
  (laws_toForkS.f k l0).bind fun p => (spec_FindBeginning.f k p a1).bind fun sw => (impl_FindBeginning.f k p a1).bind fun gi =>
  (laws_eqIntS.f k gi.1 sw.1).bind fun b0 => (laws_eqForkS.f k p p).bind fun b1 => (laws_markForkS.f k p 1).bind fun mx => (laws_markIntS.f k gi.1 1).bind fun mg => (laws_heldIntS.f k mg.2 1).bind fun q =>
  if b0 = true ∧ gi.2 = sw.2 ∧ b1 = true ∧ 0 ≤ mx.1 ∧ 0 ≤ q ∧ q = mg.1 then some true else none
theorem laws_FnExactFindBeginning.mono : ∀ a0 a1 k, LeO (laws_FnExactFindBeginning.f k a0 a1) (laws_FnExactFindBeginning.f (k + 1) a0 a1) := by
  intro a0 a1 k
  unfold laws_FnExactFindBeginning.f
  refine LeO.ite (LeO.refl _) ?_
  refine LeO.bind (laws_szForkS.mono _ _ _) fun n => LeO.ite (LeO.refl _) ?_
  refine LeO.bind (laws_toForkS.mono _ _) fun p => LeO.bind (spec_FindBeginning.mono _ _ _) fun sw => LeO.bind (impl_FindBeginning.mono _ _ _) fun gi => ?_
  refine LeO.bind (laws_eqIntS.mono _ _ _) fun b0 => LeO.bind (laws_eqForkS.mono _ _ _) fun b1 => LeO.bind (laws_markForkS.mono _ _ _) fun mx => ?_
  exact LeO.bind (laws_markIntS.mono _ _ _) fun mg => LeO.bind (laws_heldIntS.mono _ _ _) fun q => LeO.refl _
set_option maxHeartbeats 16000000 in
set_option maxRecDepth 100000 in
theorem laws_FnExactFindBeginning.calls (k : Nat) (A0 : Option Addr) (c0 : Nat) (l0 : List S71) (a1 : ByteArray) (r : Bool) (w : World) (hr_ : r = true) (hr0 : Kd.C k71 w A0 l0.length l0) (hc0 : l0.length ≤ c0) (h : laws_FnExactFindBeginning.f k l0 a1 = some r) :
    Calls Try.prog 8 #[.slice A0 l0.length c0, .string a1] w fun e w' => e = .returned (.bool r) ∧ Below w.heap.size w w' := by
  have hu48 := Try.underlying48
  have hu51 := Try.underlying51
  have hu74 := Try.underlying74
  subst hr_
  have HR0 := Aside0.mk hr0
  have HC0 := Aside0.mk hc0
  have HB := Aside0.mk (Below.refl w.heap.size w)
  have TOK0 : Aside0 True := ⟨trivial⟩
  clear hr0 hc0
  unfold laws_FnExactFindBeginning.f at h
  by_cases ck : (a1.size : Int) > 1048576
  · have ckb0 : decide (1048576 < (a1.size : Int)) = true := decide_eq_true ck
    have ckb1 : decide (1048576 < a1.size) = true := decide_eq_true (by omega)
    clear h ck
    go_enter Try.func8, Try.ntmps8
    go_wp2
    go_ret
    exact ⟨rfl, HB.out⟩
  rw [if_neg ck] at h
  have ckb0 : decide (1048576 < (a1.size : Int)) = false := decide_eq_false ck
  have ckb1 : decide (1048576 < a1.size) = false := decide_eq_false (by omega)
  clear ck
  obtain ⟨n, hn, h⟩ := Option.bind_eq_some_iff.mp h
  have A2 := Aside0.mk hn
  clear hn
  by_cases c3 : n < 0
  · have c3b0 : decide (n < 0) = true := decide_eq_true c3
    clear h c3
    go_enter Try.func8, Try.ntmps8
    go_wp2_with (first | (have tq_ := TOK0; clear tq_ TOK0; (with_reducible refine gate_callee (f := 11) rfl ?_); refine goesL_ (some 21) rfl rfl Try.func11 (by kernel_rfl) rfl #[.slice A0 l0.length c0, .int .i64 1048576] rfl (by (try simp only [List.map_toArray, List.map_cons, List.map_nil]); first | done | rfl) ?_; have hcall := laws_szForkS.calls k _ _ l0 1048576 n _ (Kd.C_below HR0.out HB.out) HC0.out A2.out; refine hcall.mono ?_; clear hcall; rintro e w1 ⟨rfl, hb⟩; refine ⟨_, rfl, ?_⟩; have m0_ := Aside0.mk (below_step HB.out hb); (try clear HB); have HB := m0_; clear m0_; clear hb; have TOK1 : Aside0 True := ⟨trivial⟩))
    go_ret
    exact ⟨rfl, HB.out⟩
  rw [if_neg c3] at h
  have c3b0 : decide (n < 0) = false := decide_eq_false c3
  clear c3
  obtain ⟨p, hp, h⟩ := Option.bind_eq_some_iff.mp h
  obtain ⟨⟨s1, s2⟩, hs, h⟩ := Option.bind_eq_some_iff.mp h
  obtain ⟨⟨g1, g2⟩, hg, h⟩ := Option.bind_eq_some_iff.mp h
  obtain ⟨b0, he, h⟩ := Option.bind_eq_some_iff.mp h
  obtain ⟨b1, hx, h⟩ := Option.bind_eq_some_iff.mp h
  obtain ⟨⟨m1, m2⟩, hm, h⟩ := Option.bind_eq_some_iff.mp h
  obtain ⟨⟨f1, f2⟩, hf, h⟩ := Option.bind_eq_some_iff.mp h
  obtain ⟨q, hq, h⟩ := Option.bind_eq_some_iff.mp h
  by_cases hall : b0 = true ∧ g2 = s2 ∧ b1 = true ∧ 0 ≤ m1 ∧ 0 ≤ q ∧ q = f1
  rotate_left
  · rw [if_neg hall] at h; cases h
  clear h
  obtain ⟨rfl, rfl, rfl, hm0, hq0, rfl⟩ := hall
  have ZP := Aside0.mk hp
  have ZS := Aside0.mk hs
  have ZG := Aside0.mk hg
  have ZE := Aside0.mk he
  have ZX := Aside0.mk hx
  have ZM := Aside0.mk hm
  have ZF := Aside0.mk hf
  have ZQ := Aside0.mk hq
  have hmb : decide (m1 < 0) = false := decide_eq_false (by omega)
  have hqb : decide (q < 0) = false := decide_eq_false (by omega)
  have hqq : (q != q) = false := bne_self_eq_false _
  have hn0 : (g2 != g2) = false := bne_self_eq_false _
  clear hm0 hq0 hp hs hg he hx hm hf hq
  go_enter Try.func8, Try.ntmps8
  go_wp2_with (first | (have tq_ := TOK0; clear tq_ TOK0; (with_reducible refine gate_callee (f := 11) rfl ?_); refine goesL_ (some 21) rfl rfl Try.func11 (by kernel_rfl) rfl #[.slice A0 l0.length c0, .int .i64 1048576] rfl (by (try simp only [List.map_toArray, List.map_cons, List.map_nil]); first | done | rfl) ?_; have hcall := laws_szForkS.calls k _ _ l0 1048576 n _ (Kd.C_below HR0.out HB.out) HC0.out A2.out; refine hcall.mono ?_; clear hcall; rintro e w1 ⟨rfl, hb⟩; refine ⟨_, rfl, ?_⟩; have m0_ := Aside0.mk (below_step HB.out hb); (try clear HB); have HB := m0_; clear m0_; clear hb; have TOK1 : Aside0 True := ⟨trivial⟩) | (have tq_ := TOK1; clear tq_ TOK1; (with_reducible refine gate_callee (f := 13) rfl ?_); refine goesL_ (some 26) rfl rfl Try.func13 (by kernel_rfl) rfl #[.slice A0 l0.length c0] rfl (by (try simp only [List.map_toArray, List.map_cons, List.map_nil]); first | done | rfl) ?_; have hcall := laws_toForkS.calls k _ _ l0 p _ (Kd.C_below HR0.out HB.out) HC0.out ZP.out; refine hcall.mono ?_; clear hcall; rintro e w2 ⟨v_P, rfl, ho, hb⟩; refine ⟨_, rfl, ?_⟩; have m0_ := Aside0.mk (below_step HB.out hb); have m1_ := Aside0.mk (show SI k74 74 w.heap.size w1.heap.size w2.heap.size w2 v_P p from SI.new ho (below_size HB.out)); (try clear HB); (try clear HP); have HB := m0_; have HP := m1_; clear m0_ m1_; clear hb ho; obtain ⟨A_P, c_P, rfl⟩ := HP.out.slice; have TOK2 : Aside0 True := ⟨trivial⟩) | (have tq_ := TOK2; clear tq_ TOK2; (with_reducible refine gate_callee (f := 36) rfl ?_); refine goesL_ (some 28) rfl rfl Try.func36 (by kernel_rfl) rfl #[.slice A_P p.length c_P, .string a1] rfl (by (try simp only [List.map_toArray, List.map_cons, List.map_nil]); first | done | rfl) ?_; have hcall := spec_FindBeginning.calls k _ _ p a1 s1 g2 _ HP.out.reads.2.2 HP.out.le ZS.out; refine hcall.mono ?_; clear hcall; rintro e w3 ⟨v_S, rfl, ho, hb⟩; refine ⟨_, rfl, ?_⟩; have m0_ := Aside0.mk (below_step HB.out hb); have m1_ := Aside0.mk (show RI (Kd.int .i64) 3 w.heap.size w2.heap.size w3.heap.size w3 v_S s1 from RI.new ho (below_size HB.out)); (try clear HB); (try clear HS); (try clear HP); have HB := m0_; have HS := m1_; clear m0_ m1_; clear hb ho; obtain ⟨A_S, c_S, rfl⟩ := HS.out.slice; have TOK3 : Aside0 True := ⟨trivial⟩) | (have tq_ := TOK3; clear tq_ TOK3; (with_reducible refine gate_callee (f := 13) rfl ?_); refine goesL_ (some 32) rfl rfl Try.func13 (by kernel_rfl) rfl #[.slice A0 l0.length c0] rfl (by (try simp only [List.map_toArray, List.map_cons, List.map_nil]); first | done | rfl) ?_; have hcall := laws_toForkS.calls k _ _ l0 p _ (Kd.C_below HR0.out HB.out) HC0.out ZP.out; refine hcall.mono ?_; clear hcall; rintro e w4 ⟨v_X, rfl, ho, hb⟩; refine ⟨_, rfl, ?_⟩; have m0_ := Aside0.mk (below_step HB.out hb); have m1_ := Aside0.mk (HS.out.below hb); have m2_ := Aside0.mk (show SI k74 74 w.heap.size w3.heap.size w4.heap.size w4 v_X p from SI.new ho (below_size HB.out)); have m3_ := Aside0.mk (show w3.heap.size ≤ w3.heap.size from HS.out.2.2); (try clear HB); (try clear HS); (try clear HX); (try clear D_S_X); have HB := m0_; have HS := m1_; have HX := m2_; have D_S_X := m3_; clear m0_ m1_ m2_ m3_; clear hb ho; obtain ⟨A_X, c_X, rfl⟩ := HX.out.slice; have TOK4 : Aside0 True := ⟨trivial⟩) | (have tq_ := TOK4; clear tq_ TOK4; (with_reducible refine gate_callee (f := 37) rfl ?_); refine goesL_ (some 36) rfl rfl Try.func37 (by kernel_rfl) rfl #[.slice A_X p.length c_X, .string a1] rfl (by (try simp only [List.map_toArray, List.map_cons, List.map_nil]); first | done | rfl) ?_; have hcall := impl_FindBeginning.calls k _ _ p a1 g1 g2 _ HX.out.reads.2.2 HX.out.le ZG.out; refine hcall.mono ?_; clear hcall; rintro e w5 ⟨v_G, rfl, ho, hb⟩; refine ⟨_, rfl, ?_⟩; have m0_ := Aside0.mk (below_step HB.out hb); have m1_ := Aside0.mk (HS.out.below hb); have m2_ := Aside0.mk (HX.out.below hb); have m3_ := Aside0.mk (show RI (Kd.int .i64) 3 w.heap.size w4.heap.size w5.heap.size w5 v_G g1 from RI.new ho (below_size HB.out)); have m4_ := Aside0.mk (show w3.heap.size ≤ w4.heap.size from HS.out.2.2); have m5_ := Aside0.mk (show w4.heap.size ≤ w4.heap.size from HX.out.2.2); (try clear HB); (try clear HS); (try clear HX); (try clear HG); (try clear D_S_G); (try clear D_X_G); have HB := m0_; have HS := m1_; have HX := m2_; have HG := m3_; have D_S_G := m4_; have D_X_G := m5_; clear m0_ m1_ m2_ m3_ m4_ m5_; clear hb ho; obtain ⟨A_G, c_G, rfl⟩ := HG.out.slice; have TOK5 : Aside0 True := ⟨trivial⟩) | (have tq_ := TOK5; clear tq_ TOK5; (with_reducible refine gate_callee (f := 26) rfl ?_); refine goesL_ (some 41) rfl rfl Try.func26 (by kernel_rfl) rfl #[.slice A_G g1.length c_G, .slice A_S s1.length c_S] rfl (by (try simp only [List.map_toArray, List.map_cons, List.map_nil]); first | done | rfl) ?_; have hcall := laws_eqIntS.calls k _ _ g1 _ _ s1 true _ HG.out.reads.2.2 HG.out.le HS.out.reads.2.2 HS.out.le ZE.out; refine hcall.mono ?_; clear hcall; rintro e w6 ⟨rfl, hd⟩; refine ⟨_, rfl, ?_⟩; have hb := Drawn0.below hd; clear hd; have m0_ := Aside0.mk (below_step HB.out hb); have m1_ := Aside0.mk (HS.out.below hb); have m2_ := Aside0.mk (HX.out.below hb); have m3_ := Aside0.mk (HG.out.below hb); (try clear HB); (try clear HS); (try clear HX); (try clear HG); have HB := m0_; have HS := m1_; have HX := m2_; have HG := m3_; clear m0_ m1_ m2_ m3_; clear hb; have TOK6 : Aside0 True := ⟨trivial⟩) | (have tq_ := TOK6; clear tq_ TOK6; (with_reducible refine gate_callee (f := 13) rfl ?_); refine goesL_ (some 50) rfl rfl Try.func13 (by kernel_rfl) rfl #[.slice A0 l0.length c0] rfl (by (try simp only [List.map_toArray, List.map_cons, List.map_nil]); first | done | rfl) ?_; have hcall := laws_toForkS.calls k _ _ l0 p _ (Kd.C_below HR0.out HB.out) HC0.out ZP.out; refine hcall.mono ?_; clear hcall; rintro e w7 ⟨v_Y, rfl, ho, hb⟩; refine ⟨_, rfl, ?_⟩; have m0_ := Aside0.mk (below_step HB.out hb); have m1_ := Aside0.mk (HS.out.below hb); have m2_ := Aside0.mk (HX.out.below hb); have m3_ := Aside0.mk (HG.out.below hb); have m4_ := Aside0.mk (show SI k74 74 w.heap.size w6.heap.size w7.heap.size w7 v_Y p from SI.new ho (below_size HB.out)); have m5_ := Aside0.mk (show w3.heap.size ≤ w6.heap.size from HS.out.2.2); have m6_ := Aside0.mk (show w4.heap.size ≤ w6.heap.size from HX.out.2.2); have m7_ := Aside0.mk (show w5.heap.size ≤ w6.heap.size from HG.out.2.2); (try clear HB); (try clear HS); (try clear HX); (try clear HG); (try clear HY); (try clear D_S_Y); (try clear D_X_Y); (try clear D_G_Y); have HB := m0_; have HS := m1_; have HX := m2_; have HG := m3_; have HY := m4_; have D_S_Y := m5_; have D_X_Y := m6_; have D_G_Y := m7_; clear m0_ m1_ m2_ m3_ m4_ m5_ m6_ m7_; clear hb ho; obtain ⟨A_Y, c_Y, rfl⟩ := HY.out.slice; have TOK7 : Aside0 True := ⟨trivial⟩) | (have tq_ := TOK7; clear tq_ TOK7; (with_reducible refine gate_callee (f := 15) rfl ?_); refine goesL_ (some 51) rfl rfl Try.func15 (by kernel_rfl) rfl #[.slice A_X p.length c_X, .slice A_Y p.length c_Y] rfl (by (try simp only [List.map_toArray, List.map_cons, List.map_nil]); first | done | rfl) ?_; have hcall := laws_eqForkS.calls k _ _ p _ _ p true _ HX.out.reads.2.2 HX.out.le HY.out.reads.2.2 HY.out.le ZX.out; refine hcall.mono ?_; clear hcall; rintro e w8 ⟨rfl, hb⟩; refine ⟨_, rfl, ?_⟩; have m0_ := Aside0.mk (below_step HB.out hb); have m1_ := Aside0.mk (HS.out.below hb); have m2_ := Aside0.mk (HX.out.below hb); have m3_ := Aside0.mk (HG.out.below hb); (try clear HB); (try clear HS); (try clear HX); (try clear HG); (try clear HY); have HB := m0_; have HS := m1_; have HX := m2_; have HG := m3_; clear m0_ m1_ m2_ m3_; clear hb; have TOK8 : Aside0 True := ⟨trivial⟩) | (have tq_ := TOK8; clear tq_ TOK8; (with_reducible refine gate_callee (f := 22) rfl ?_); refine goesL_ (some 55) rfl rfl Try.func22 (by kernel_rfl) rfl #[.slice A_X p.length c_X, .int .i64 1] rfl (by (try simp only [List.map_toArray, List.map_cons, List.map_nil]); first | done | rfl) ?_; have hcall := laws_markForkS.run k (fun k_ => w3.heap.size ≤ k_ ∧ k_ < w4.heap.size) (.slice A_X p.length c_X) p 1 m1 m2 w _ HB.out HX.out.1 ZM.out; refine hcall.mono ?_; clear hcall; rintro e w9 ⟨rfl, hr, hb, hkp⟩; refine ⟨_, rfl, ?_⟩; have m0_ := Aside0.mk (hb); have m1_ := Aside0.mk (HS.out.kept hkp (fun k hk => .inr (Nat.le_trans D_S_X.out hk.1))); have m2_ := Aside0.mk (HX.out.over hr hkp.1); have m3_ := Aside0.mk (HG.out.kept hkp (fun k hk => .inl (Nat.lt_of_lt_of_le hk.2 D_X_G.out))); (try clear HB); (try clear HS); (try clear HX); (try clear HG); have HB := m0_; have HS := m1_; have HX := m2_; have HG := m3_; clear m0_ m1_ m2_ m3_; clear hb hr hkp; have TOK9 : Aside0 True := ⟨trivial⟩) | (have tq_ := TOK9; clear tq_ TOK9; go_at_call 26; have hcall := laws_eqIntS.calls k _ _ g1 _ _ s1 true _ HG.out.reads.2.2 HG.out.le HS.out.reads.2.2 HS.out.le ZE.out; refine hcall.mono ?_; clear hcall; rintro e w10 ⟨rfl, hd⟩; have hb := Drawn0.below hd; clear hd; have m0_ := Aside0.mk (below_step HB.out hb); have m1_ := Aside0.mk (HS.out.below hb); have m2_ := Aside0.mk (HG.out.below hb); (try clear HB); (try clear HS); (try clear HG); (try clear HX); have HB := m0_; have HS := m1_; have HG := m2_; clear m0_ m1_ m2_; clear hb; have TOK10 : Aside0 True := ⟨trivial⟩) | (have tq_ := TOK10; clear tq_ TOK10; (with_reducible refine gate_callee (f := 27) rfl ?_); refine goesL_ (some 71) rfl rfl Try.func27 (by kernel_rfl) rfl #[.slice A_G g1.length c_G, .int .i64 1] rfl (by (try simp only [List.map_toArray, List.map_cons, List.map_nil]); first | done | rfl) ?_; have hcall := laws_markIntS.calls k (fun k_ => w4.heap.size ≤ k_ ∧ k_ < w5.heap.size) (.slice A_G g1.length c_G) g1 1 q f2 w _ HB.out HG.out.1 ZF.out; refine hcall.mono ?_; clear hcall; rintro e w11 ⟨rfl, hr, hb, hkp⟩; refine ⟨_, rfl, ?_⟩; have m0_ := Aside0.mk (hb); have m1_ := Aside0.mk (HS.out.kept hkp (fun k hk => .inr (Nat.le_trans D_S_G.out hk.1))); have m2_ := Aside0.mk (HG.out.over rfl hr hkp.1); (try clear HB); (try clear HS); (try clear HG); have HB := m0_; have HS := m1_; have HG := m2_; clear m0_ m1_ m2_; clear hb hr hkp; have TOK11 : Aside0 True := ⟨trivial⟩) | (have tq_ := TOK11; clear tq_ TOK11; (with_reducible refine gate_callee (f := 28) rfl ?_); refine goesL_ (some 74) rfl rfl Try.func28 (by kernel_rfl) rfl #[.slice A_G g1.length c_G, .int .i64 1] rfl (by (try simp only [List.map_toArray, List.map_cons, List.map_nil]); first | done | rfl) ?_; have hcall := laws_heldIntS.calls k _ _ f2 1 q _ HG.out.reads.2.2 HG.out.le ZQ.out; rw [← HG.out.reads.1] at hcall; refine hcall.mono ?_; clear hcall; rintro e w12 ⟨rfl, hd⟩; refine ⟨_, rfl, ?_⟩; have hb := Drawn0.below hd; clear hd; have m0_ := Aside0.mk (below_step HB.out hb); have m1_ := Aside0.mk (HS.out.below hb); have m2_ := Aside0.mk (HG.out.below hb); (try clear HB); (try clear HS); (try clear HG); have HB := m0_; have HS := m1_; have HG := m2_; clear m0_ m1_ m2_; clear hb; have TOK12 : Aside0 True := ⟨trivial⟩) | (have tq_ := TOK12; clear tq_ TOK12; (with_reducible refine gate_callee (f := 13) rfl ?_); refine goesL_ (some 82) rfl rfl Try.func13 (by kernel_rfl) rfl #[.slice A0 l0.length c0] rfl (by (try simp only [List.map_toArray, List.map_cons, List.map_nil]); first | done | rfl) ?_; have hcall := laws_toForkS.calls k _ _ l0 p _ (Kd.C_below HR0.out HB.out) HC0.out ZP.out; refine hcall.mono ?_; clear hcall; rintro e w13 ⟨v_K, rfl, ho, hb⟩; refine ⟨_, rfl, ?_⟩; have m0_ := Aside0.mk (below_step HB.out hb); have m1_ := Aside0.mk (HS.out.below hb); have m2_ := Aside0.mk (HG.out.below hb); have m3_ := Aside0.mk (show SI k74 74 w.heap.size w12.heap.size w13.heap.size w13 v_K p from SI.new ho (below_size HB.out)); have m4_ := Aside0.mk (show w3.heap.size ≤ w12.heap.size from HS.out.2.2); have m5_ := Aside0.mk (show w5.heap.size ≤ w12.heap.size from HG.out.2.2); (try clear HB); (try clear HS); (try clear HG); (try clear HK); (try clear D_S_K); (try clear D_G_K); have HB := m0_; have HS := m1_; have HG := m2_; have HK := m3_; have D_S_K := m4_; have D_G_K := m5_; clear m0_ m1_ m2_ m3_ m4_ m5_; clear hb ho; obtain ⟨A_K, c_K, rfl⟩ := HK.out.slice; have TOK13 : Aside0 True := ⟨trivial⟩) | (have tq_ := TOK13; clear tq_ TOK13; (with_reducible refine gate_callee (f := 37) rfl ?_); refine goesL_ (some 84) rfl rfl Try.func37 (by kernel_rfl) rfl #[.slice A_K p.length c_K, .string a1] rfl (by (try simp only [List.map_toArray, List.map_cons, List.map_nil]); first | done | rfl) ?_; have hcall := impl_FindBeginning.calls k _ _ p a1 g1 g2 _ HK.out.reads.2.2 HK.out.le ZG.out; refine hcall.mono ?_; clear hcall; rintro e w14 ⟨v_H, rfl, ho, hb⟩; refine ⟨_, rfl, ?_⟩; have m0_ := Aside0.mk (below_step HB.out hb); have m1_ := Aside0.mk (HS.out.below hb); have m2_ := Aside0.mk (HG.out.below hb); have m3_ := Aside0.mk (show RI (Kd.int .i64) 3 w.heap.size w13.heap.size w14.heap.size w14 v_H g1 from RI.new ho (below_size HB.out)); have m4_ := Aside0.mk (show w3.heap.size ≤ w13.heap.size from HS.out.2.2); have m5_ := Aside0.mk (show w5.heap.size ≤ w13.heap.size from HG.out.2.2); (try clear HB); (try clear HS); (try clear HG); (try clear HH); (try clear D_S_H); (try clear D_G_H); (try clear HK); have HB := m0_; have HS := m1_; have HG := m2_; have HH := m3_; have D_S_H := m4_; have D_G_H := m5_; clear m0_ m1_ m2_ m3_ m4_ m5_; clear hb ho; obtain ⟨A_H, c_H, rfl⟩ := HH.out.slice; have TOK14 : Aside0 True := ⟨trivial⟩) | (have tq_ := TOK14; clear tq_ TOK14; (with_reducible refine gate_callee (f := 26) rfl ?_); refine goesL_ (some 89) rfl rfl Try.func26 (by kernel_rfl) rfl #[.slice A_H g1.length c_H, .slice A_S s1.length c_S] rfl (by (try simp only [List.map_toArray, List.map_cons, List.map_nil]); first | done | rfl) ?_; have hcall := laws_eqIntS.calls k _ _ g1 _ _ s1 true _ HH.out.reads.2.2 HH.out.le HS.out.reads.2.2 HS.out.le ZE.out; refine hcall.mono ?_; clear hcall; rintro e w15 ⟨rfl, hd⟩; refine ⟨_, rfl, ?_⟩; have hb := Drawn0.below hd; clear hd; have m0_ := Aside0.mk (below_step HB.out hb); have m1_ := Aside0.mk (HS.out.below hb); have m2_ := Aside0.mk (HG.out.below hb); (try clear HB); (try clear HS); (try clear HG); (try clear HH); have HB := m0_; have HS := m1_; have HG := m2_; clear m0_ m1_ m2_; clear hb; have TOK15 : Aside0 True := ⟨trivial⟩) | (have tq_ := TOK15; clear tq_ TOK15; (with_reducible refine gate_callee (f := 28) rfl ?_); refine goesL_ (some 98) rfl rfl Try.func28 (by kernel_rfl) rfl #[.slice A_G g1.length c_G, .int .i64 1] rfl (by (try simp only [List.map_toArray, List.map_cons, List.map_nil]); first | done | rfl) ?_; have hcall := laws_heldIntS.calls k _ _ f2 1 q _ HG.out.reads.2.2 HG.out.le ZQ.out; rw [← HG.out.reads.1] at hcall; refine hcall.mono ?_; clear hcall; rintro e w16 ⟨rfl, hd⟩; refine ⟨_, rfl, ?_⟩; have hb := Drawn0.below hd; clear hd; have m0_ := Aside0.mk (below_step HB.out hb); have m1_ := Aside0.mk (HS.out.below hb); have m2_ := Aside0.mk (HG.out.below hb); (try clear HB); (try clear HS); (try clear HG); have HB := m0_; have HS := m1_; have HG := m2_; clear m0_ m1_ m2_; clear hb; have TOK16 : Aside0 True := ⟨trivial⟩))
  go_ret
  exact ⟨by first | rfl | (simp; done), HB.out⟩

end
end Go.Proofs.Ytkkphbjemnifiaa.PFnExactFindBeginning
