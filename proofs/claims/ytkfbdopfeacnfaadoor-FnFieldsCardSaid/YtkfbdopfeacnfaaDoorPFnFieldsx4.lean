-- Printed by wip/tools/patch_print.py; Lean checks it.
import Derived.Test.YtkfbdopfeacnfaaDoorPFnFieldsx0
import Derived.Test.YtkfbdopfeacnfaaDoorPFnFieldsx2
import Derived.Test.YtkfbdopfeacnfaaDoorPFnFieldsx3
namespace Go.Proofs.YtkfbdopfeacnfaaDoor.PFnFields
open Go.RowKit Go.Proofs.YtkfbdopfeacnfaaDoorW.PrintWords Go.Proofs.YtkfbdopfeacnfaaDoorW.PrintLast Go.Proofs.YtkfbdopfeacnfaaDoorW.PrintMore
attribute [local go_sem] max2_int min2_int max_two min_two max_three min_three max_four min_four   -- for this text's walks alone
set_option linter.unusedVariables false
set_option linter.unusedSimpArgs false

noncomputable section
/-! ### impl_isPart: function 72 -/
theorem impl_isPart.heap : Kd.Heap k61 := Kd.heap_iso _ (Kd.heap_pair Kd.heap_string (Kd.heap_pair (Kd.heap_int .i64) (Kd.heap_pair (Kd.heap_int .i64) (Kd.heap_pair Kd.heap_string (Kd.heap_int .i64)))))
theorem add0_ad (a : Addr) : a.add 0 = a := by cases a; simp [Addr.add]
/-- Is this part's key wrong here? -/
def impl_isPart.bad (k : Nat) (kind : Int) (key last : ByteArray) (i : Int) : Option Bool :=
 if kind = 7 then (impl_isText.f k key).bind fun t => if t = true then (if 0 < i then (impl_compareKeys.f k last key).bind fun c => some (decide (0 ≤ c)) else some false) else some true
 else if kind = 6 then some (!key.toList.isEmpty) else some false
mutual
def impl_isPart.f : Nat → List S61 → Int → Option Bool
 | 0, _, _ => none
 | k + 1, l, dp => if 6 < dp then some false else if 0 < (l.length : Int) then (impl_isNode.f k (rd_T61 l 0).f0 (rd_T61 l 0).f1 (rd_T61 l 0).f2 (rd_T61 l 0).f3 (rd_T61 l 0).f4).bind fun b => if b = true then (impl_partsOf.f k l).bind fun ps => if ps.length < 1000000 then impl_isPart.l k l dp ps ⟨#[]⟩ 0 else none else some false
  else none
def impl_isPart.l : Nat → List S61 → Int → List (List S61) → ByteArray → Int → Option Bool
 | 0, _, _, _, _, _ => none
 | k + 1, l, dp, ps, last, i => if i < (ps.length : Int) then (if 0 < ((rd_L3 ps i).length : Int) then (impl_isPart.bad k (rd_T61 l 0).f1 (rd_T61 (rd_L3 ps i) 0).f0 last i).bind fun b => if b = true then some false
   else (impl_isPart.f k (rd_L3 ps i) (wrap64 (dp + 1))).bind fun b => if b = true then impl_isPart.l k l dp ps (rd_T61 (rd_L3 ps i) 0).f0 (i + 1) else some false else none) else some true
end
theorem impl_isPart.bad_mono : ∀ kind key last i k, LeO (impl_isPart.bad k kind key last i) (impl_isPart.bad (k + 1) kind key last i) := by
 intro kind key last i k
 unfold impl_isPart.bad
 exact LeO.ite (LeO.bind (impl_isText.mono _ _) fun t => LeO.ite (LeO.ite (LeO.bind (impl_compareKeys.mono _ _ _) fun c => LeO.refl _) (LeO.refl _)) (LeO.refl _)) (LeO.refl _)
theorem impl_isPart.mono_l : ∀ k, (∀ l dp, LeO (impl_isPart.f k l dp) (impl_isPart.f (k + 1) l dp)) ∧ (∀ l dp ps last i, LeO (impl_isPart.l k l dp ps last i) (impl_isPart.l (k + 1) l dp ps last i))
 | 0 => ⟨fun _ _ r h => by simp [impl_isPart.f] at h, fun _ _ _ _ _ r h => by simp [impl_isPart.l] at h⟩
 | k + 1 => by
  obtain ⟨ih0, ih1⟩ := impl_isPart.mono_l k
  refine ⟨?_, ?_⟩
  ·intro l dp
   rw [impl_isPart.f, impl_isPart.f]
   exact LeO.ite (LeO.refl _) (LeO.ite (LeO.bind (impl_isNode.mono _ _ _ _ _ _) fun b => LeO.ite (LeO.bind (impl_partsOf.mono _ _) fun ps => LeO.ite (ih1 _ _ _ _ _) (LeO.refl _)) (LeO.refl _)) (LeO.refl _))
  ·intro l dp ps last i
   rw [impl_isPart.l, impl_isPart.l]
   exact LeO.ite (LeO.ite (LeO.bind (impl_isPart.bad_mono _ _ _ _ _) fun b => LeO.ite (LeO.refl _) (LeO.bind (ih0 _ _) fun b => LeO.ite (ih1 _ _ _ _ _) (LeO.refl _))) (LeO.refl _)) (LeO.refl _)
theorem impl_isPart.mono : ∀ l dp k, LeO (impl_isPart.f k l dp) (impl_isPart.f (k + 1) l dp) := fun l dp k => (impl_isPart.mono_l k).1 l dp
set_option maxHeartbeats 16000000 in
set_option maxRecDepth 100000 in
theorem impl_isPart.calls (k : Nat) : ∀ (A0 : Option Addr) (c0 : Nat) (l : List S61) (dp : Int) (r : Bool) (w : World) (tb : TabsU.Tabs0 w) (hr0 : Kd.C k61 w A0 l.length l) (hc0 : l.length ≤ c0) (h : impl_isPart.f k l dp = some r),
  Calls Tryd.prog 72 #[.slice A0 l.length c0, .int .i64 dp] w fun e w' => e = .returned (.bool r) ∧ Below w.heap.size w w' := by
 induction k using Nat.strongRecOn with
 | _ k IH =>
 intro A0 c0 l dp r w tb hr0 hc0 h
 have hu61 := Tryd.underlying61
 have HR0 := Aside0.mk hr0
 have HC0 := Aside0.mk hc0
 have HB := Aside0.mk (Below.refl w.heap.size w)
 have TB := Aside0.mk tb
 have HIH := Aside0.mk IH
 clear hr0 hc0 tb IH
 cases k with
 | zero => rw [impl_isPart.f] at h; cases h
 | succ k =>
 have HIH := Aside0.mk (fun (m : Nat) (hm : m ≤ k) => HIH.out m (Nat.lt_succ_of_le hm))
 obtain ⟨K, hK⟩ : ∃ K, K = k := ⟨_, rfl⟩
 rw [impl_isPart.f] at h
 by_cases c1 : 6 < dp
 ·rw [if_pos c1] at h
  have c1b0 : decide (6 < dp) = true := decide_eq_true c1
  injection h with h
  subst h
  clear c1
  go_enter Tryd.func72, Tryd.ntmps72
  go_wp2
  go_ret
  exact ⟨by first | rfl | (simp; done), HB.out⟩
 rw [if_neg c1] at h
 have c1b0 : decide (6 < dp) = false := decide_eq_false c1
 by_cases c3 : 0 < (l.length : Int)
 rotate_left
 ·rw [if_neg c3] at h; cases h
 rw [if_pos c3] at h
 obtain ⟨ad, e0, hx0, hx1, hx2, hx3, hx4⟩ := at_T61 HR0.out 0 (Int.le_refl _) (by omega)
 cases e0
 have q0 : ((0 : Int) < (l.length : Int)) = True := eq_true c3
 have q1 : (0 < l.length) = True := eq_true (by omega)
 simp only [Int.toNat_zero, Nat.zero_mul, add0_ad] at hx0 hx1 hx2 hx3 hx4
 have X0 := Aside0.mk hx0
 have X1 := Aside0.mk hx1
 have X2 := Aside0.mk hx2
 have X3 := Aside0.mk hx3
 have X4 := Aside0.mk hx4
 obtain ⟨x, hx⟩ : ∃ x, x = rd_T61 l 0 := ⟨_, rfl⟩
 rw [← hx] at h hx0 hx1 hx2 hx3 hx4 X0 X1 X2 X3 X4
 have HX := Aside0.mk hx
 clear hx c1 c3
 obtain ⟨b, hb0, h⟩ := Option.bind_eq_some_iff.mp h
 have HNODE := Aside0.mk hb0
 clear hb0
 cases b with
 | false =>
  rw [if_neg (by decide)] at h
  injection h with h
  subst h
  go_enter Tryd.func72, Tryd.ntmps72
  go_wp2_with (first | (go_at_call 103; refine (impl_isNode.calls k x.f0 x.f1 x.f2 x.f3 x.f4 _ _ (TabsU.Tabs0.of_below TB.out HB.out) HNODE.out).mono ?_; rintro e w1 ⟨rfl, hb⟩; have m0_ := Aside0.mk (below_step HB.out hb); clear hx0 hx1 hx2 hx3 hx4 hb; clear HB; have HB := m0_; clear m0_; have hx0 := (HB.out.cell (World.block_lt_of_cell? _ _ X0.out)).trans X0.out; have hx1 := (HB.out.cell (World.block_lt_of_cell? _ _ X1.out)).trans X1.out; have hx2 := (HB.out.cell (World.block_lt_of_cell? _ _ X2.out)).trans X2.out; have hx3 := (HB.out.cell (World.block_lt_of_cell? _ _ X3.out)).trans X3.out; have hx4 := (HB.out.cell (World.block_lt_of_cell? _ _ X4.out)).trans X4.out))
  go_ret
  exact ⟨by first | rfl | (simp; done), HB.out⟩
 | true =>
 rw [if_pos rfl] at h
 obtain ⟨ps, hps, h⟩ := Option.bind_eq_some_iff.mp h
 have HPS := Aside0.mk hps
 clear hps
 by_cases c4 : ps.length < 1000000
 rotate_left
 ·rw [if_neg c4] at h; cases h
 rw [if_pos c4] at h
 have HLEN := Aside0.mk c4
 have HL := Aside0.mk h
 clear h c4
 go_enter Tryd.func72, Tryd.ntmps72
 go_wp2_with (first | (go_at_call 103; refine (impl_isNode.calls k x.f0 x.f1 x.f2 x.f3 x.f4 _ _ (TabsU.Tabs0.of_below TB.out HB.out) HNODE.out).mono ?_; rintro e w1 ⟨rfl, hb⟩; have m0_ := Aside0.mk (below_step HB.out hb); clear hx0 hx1 hx2 hx3 hx4 hb; clear HB; have HB := m0_; clear m0_; have hx0 := (HB.out.cell (World.block_lt_of_cell? _ _ X0.out)).trans X0.out; have hx1 := (HB.out.cell (World.block_lt_of_cell? _ _ X1.out)).trans X1.out; have hx2 := (HB.out.cell (World.block_lt_of_cell? _ _ X2.out)).trans X2.out; have hx3 := (HB.out.cell (World.block_lt_of_cell? _ _ X3.out)).trans X3.out; have hx4 := (HB.out.cell (World.block_lt_of_cell? _ _ X4.out)).trans X4.out) | (go_at_call 44; refine (impl_partsOf.calls k (fun k_ => k_ < w.heap.size) _ _ l ps _ (Kd.V_mk HC0.out (Kd.F_below (Kd.C_F impl_isPart.heap HR0.out) HB.out)) HPS.out).mono ?_; rintro e w2 ⟨v281, rfl, ho0, hb⟩; have HN := Aside0.mk (Kd.N_lower (Kd.N_mono (ok' := fun k_ => True) ho0 (fun k_ hk_ => trivial)) (below_size HB.out)); have m0_ := Aside0.mk (below_step HB.out hb); clear hx0 hx1 hx2 hx3 hx4 hb; clear HB; have HB := m0_; clear m0_; have hx0 := (HB.out.cell (World.block_lt_of_cell? _ _ X0.out)).trans X0.out; have hx1 := (HB.out.cell (World.block_lt_of_cell? _ _ X1.out)).trans X1.out; have hx2 := (HB.out.cell (World.block_lt_of_cell? _ _ X2.out)).trans X2.out; have hx3 := (HB.out.cell (World.block_lt_of_cell? _ _ X3.out)).trans X3.out; have hx4 := (HB.out.cell (World.block_lt_of_cell? _ _ X4.out)).trans X4.out; clear ho0; obtain ⟨A2, c2, e2⟩ := Kd.N_slice HN.out; subst e2))
 subst hK
 go_loopg [5, 21] K (fun kq v5 v21 w' => ∃ (last : ByteArray) (i : Int), v5 = .string last ∧ v21 = .int .i64 i ∧ Aside0 (impl_isPart.l kq l dp ps last i = some r ∧ kq ≤ K ∧ 0 ≤ i) ∧ Aside0 (Kd.N (Kd.slice 61 k61) 22 w' w.heap.size (fun _ => True) (.slice A2 ps.length c2) ps) ∧ Aside0 (Below w.heap.size w w'))
 case atStart => exact ⟨⟨#[]⟩, 0, rfl, rfl, ⟨HL.out, Nat.le_refl _, Int.le_refl _⟩, HN, HB⟩
 case round =>
  clear HL HB HN hx0 hx1 hx2 hx3 hx4
  obtain ⟨last, i, rfl, rfl, HL, HN, HB⟩ := hrel
  have hx0 := (HB.out.cell (World.block_lt_of_cell? _ _ X0.out)).trans X0.out
  have hx1 := (HB.out.cell (World.block_lt_of_cell? _ _ X1.out)).trans X1.out
  have hx2 := (HB.out.cell (World.block_lt_of_cell? _ _ X2.out)).trans X2.out
  have hx3 := (HB.out.cell (World.block_lt_of_cell? _ _ X3.out)).trans X3.out
  have hx4 := (HB.out.cell (World.block_lt_of_cell? _ _ X4.out)).trans X4.out
  cases gk with
  | zero => have := HL.out.1; rw [impl_isPart.l] at this; cases this
  | succ m =>
   have h := HL.out.1
   rw [impl_isPart.l, ← HX.out] at h
   by_cases c5 : i < (ps.length : Int)
   rotate_left
   ·rw [if_neg c5] at h
    have c5b0 : decide (i < (ps.length : Int)) = false := decide_eq_false c5
    clear c5
    injection h with h
    subst h
    go_wp2
    go_ret
    exact ⟨by first | rfl | (simp; done), HB.out⟩
   rw [if_pos c5] at h
   have c5b0 : decide (i < (ps.length : Int)) = true := decide_eq_true c5
   have hi0 : (0 ≤ i) = True := eq_true HL.out.2.2
   have hi1 : (i < (ps.length : Int)) = True := eq_true c5
   have hi2 : wrap64 (i + 1) = i + 1 := by unfold wrap64; have := HL.out.2.2; have := HLEN.out; omega
   have hi3 : IntKind.i64.wrap (i + 1) = i + 1 := by rw [IntKind.wrap_i64]; have := HL.out.2.2; have := HLEN.out; omega
   obtain ⟨ad3, A3, c3, e3, hcl, hQC, hQ⟩ := at_L3 (Kd.N_reads' HN.out).2.2 i HL.out.2.2 c5
   cases e3
   obtain ⟨q, hq⟩ : ∃ q, q = rd_L3 ps i := ⟨_, rfl⟩
   rw [← hq] at h hcl hQC hQ
   by_cases c6 : 0 < (q.length : Int)
   rotate_left
   ·rw [if_neg c6] at h; cases h
   rw [if_pos c6] at h
   obtain ⟨ad4, e4, hy0, _⟩ := at_T61 hQ 0 (Int.le_refl _) (by omega)
   cases e4
   simp only [Int.toNat_zero, Nat.zero_mul, add0_ad] at hy0
   obtain ⟨p, hp⟩ : ∃ p, p = rd_T61 q 0 := ⟨_, rfl⟩
   rw [← hp] at h hy0
   have q2 : ((0 : Int) < (q.length : Int)) = True := eq_true c6
   have q3 : (0 < q.length) = True := eq_true (by omega)
   have HP := Aside0.mk hQ
   have HQC := Aside0.mk hQC
   have HQ_ := Aside0.mk hq
   have HP_ := Aside0.mk hp
   clear c5 c6 hQ hQC hq hp
   obtain ⟨bad, hbad, h⟩ := Option.bind_eq_some_iff.mp h
   unfold impl_isPart.bad at hbad
   by_cases c7 : x.f1 = 7
   ·rw [if_pos c7] at hbad
    have c7b0 : (x.f1 == 7) = true := beq_iff_eq.mpr c7
    have c7b1 : (x.f1 == 6) = false := beq_eq_false_iff_ne.mpr (by omega)
    clear c7
    obtain ⟨t, ht, hbad⟩ := Option.bind_eq_some_iff.mp hbad
    have HTX := Aside0.mk ht
    clear ht
    cases t with
    | false =>
     rw [if_neg (by decide)] at hbad
     injection hbad with hbad
     subst hbad
     rw [if_pos rfl] at h
     injection h with h
     subst h
     go_wp2_with (first | (go_at_call 104; refine (impl_isText.calls m p.f0 _ _ (TabsU.Tabs0.of_below TB.out HB.out) HTX.out).mono ?_; rintro e w4 ⟨rfl, hb⟩; have m0_ := Aside0.mk (below_step HB.out hb); have m1_ := Aside0.mk (Kd.N_below HN.out hb); have m2_ := Aside0.mk (Kd.C_below HP.out hb); clear hx0 hx1 hx2 hx3 hx4 hb; clear HB HN HP; (try clear hcl); have HB := m0_; have HN := m1_; have HP := m2_; clear m0_ m1_ m2_; have hx0 := (HB.out.cell (World.block_lt_of_cell? _ _ X0.out)).trans X0.out; have hx1 := (HB.out.cell (World.block_lt_of_cell? _ _ X1.out)).trans X1.out; have hx2 := (HB.out.cell (World.block_lt_of_cell? _ _ X2.out)).trans X2.out; have hx3 := (HB.out.cell (World.block_lt_of_cell? _ _ X3.out)).trans X3.out; have hx4 := (HB.out.cell (World.block_lt_of_cell? _ _ X4.out)).trans X4.out))
     go_ret
     exact ⟨by first | rfl | (simp; done), HB.out⟩
    | true =>
     rw [if_pos rfl] at hbad
     by_cases c8 : 0 < i
     ·rw [if_pos c8] at hbad
      have c8b0 : decide (0 < i) = true := decide_eq_true c8
      clear c8
      obtain ⟨c, hc, hbad⟩ := Option.bind_eq_some_iff.mp hbad
      have HCM := Aside0.mk hc
      clear hc
      injection hbad with hbad
      cases bad with
      | true =>
       rw [if_pos rfl] at h
       injection h with h
       subst h
       go_wp2_with (first | (go_at_call 104; refine (impl_isText.calls m p.f0 _ _ (TabsU.Tabs0.of_below TB.out HB.out) HTX.out).mono ?_; rintro e w4 ⟨rfl, hb⟩; have m0_ := Aside0.mk (below_step HB.out hb); have m1_ := Aside0.mk (Kd.N_below HN.out hb); have m2_ := Aside0.mk (Kd.C_below HP.out hb); clear hx0 hx1 hx2 hx3 hx4 hb; clear HB HN HP; (try clear hcl); have HB := m0_; have HN := m1_; have HP := m2_; clear m0_ m1_ m2_; have hx0 := (HB.out.cell (World.block_lt_of_cell? _ _ X0.out)).trans X0.out; have hx1 := (HB.out.cell (World.block_lt_of_cell? _ _ X1.out)).trans X1.out; have hx2 := (HB.out.cell (World.block_lt_of_cell? _ _ X2.out)).trans X2.out; have hx3 := (HB.out.cell (World.block_lt_of_cell? _ _ X3.out)).trans X3.out; have hx4 := (HB.out.cell (World.block_lt_of_cell? _ _ X4.out)).trans X4.out) | (go_at_call 85; refine (impl_compareKeys.calls m last p.f0 _ _ (TabsU.Tabs0.of_below TB.out HB.out) HCM.out).mono ?_; rintro e w5 ⟨rfl, hb⟩; have m0_ := Aside0.mk (below_step HB.out hb); have m1_ := Aside0.mk (Kd.N_below HN.out hb); have m2_ := Aside0.mk (Kd.C_below HP.out hb); clear hx0 hx1 hx2 hx3 hx4 hb; clear HB HN HP; have HB := m0_; have HN := m1_; have HP := m2_; clear m0_ m1_ m2_; have hx0 := (HB.out.cell (World.block_lt_of_cell? _ _ X0.out)).trans X0.out; have hx1 := (HB.out.cell (World.block_lt_of_cell? _ _ X1.out)).trans X1.out; have hx2 := (HB.out.cell (World.block_lt_of_cell? _ _ X2.out)).trans X2.out; have hx3 := (HB.out.cell (World.block_lt_of_cell? _ _ X3.out)).trans X3.out; have hx4 := (HB.out.cell (World.block_lt_of_cell? _ _ X4.out)).trans X4.out))
       go_ret
       exact ⟨by first | rfl | (simp; done), HB.out⟩
      | false =>
       rw [if_neg (by decide)] at h
       obtain ⟨b, hself, h⟩ := Option.bind_eq_some_iff.mp h
       have HSELF := Aside0.mk (fun w_ h_ t_ => HIH.out m (by have := HL.out.2.1; omega) (some ad4) c3 q (wrap64 (dp + 1)) b w_ t_ h_ HQC.out hself)
       clear hself
       cases b with
       | false =>
        rw [if_neg (by decide)] at h
        injection h with h
        subst h
        go_wp2_with (first | (go_at_call 104; refine (impl_isText.calls m p.f0 _ _ (TabsU.Tabs0.of_below TB.out HB.out) HTX.out).mono ?_; rintro e w4 ⟨rfl, hb⟩; have m0_ := Aside0.mk (below_step HB.out hb); have m1_ := Aside0.mk (Kd.N_below HN.out hb); have m2_ := Aside0.mk (Kd.C_below HP.out hb); clear hx0 hx1 hx2 hx3 hx4 hb; clear HB HN HP; (try clear hcl); have HB := m0_; have HN := m1_; have HP := m2_; clear m0_ m1_ m2_; have hx0 := (HB.out.cell (World.block_lt_of_cell? _ _ X0.out)).trans X0.out; have hx1 := (HB.out.cell (World.block_lt_of_cell? _ _ X1.out)).trans X1.out; have hx2 := (HB.out.cell (World.block_lt_of_cell? _ _ X2.out)).trans X2.out; have hx3 := (HB.out.cell (World.block_lt_of_cell? _ _ X3.out)).trans X3.out; have hx4 := (HB.out.cell (World.block_lt_of_cell? _ _ X4.out)).trans X4.out) | (go_at_call 85; refine (impl_compareKeys.calls m last p.f0 _ _ (TabsU.Tabs0.of_below TB.out HB.out) HCM.out).mono ?_; rintro e w5 ⟨rfl, hb⟩; have m0_ := Aside0.mk (below_step HB.out hb); have m1_ := Aside0.mk (Kd.N_below HN.out hb); have m2_ := Aside0.mk (Kd.C_below HP.out hb); clear hx0 hx1 hx2 hx3 hx4 hb; clear HB HN HP; have HB := m0_; have HN := m1_; have HP := m2_; clear m0_ m1_ m2_; have hx0 := (HB.out.cell (World.block_lt_of_cell? _ _ X0.out)).trans X0.out; have hx1 := (HB.out.cell (World.block_lt_of_cell? _ _ X1.out)).trans X1.out; have hx2 := (HB.out.cell (World.block_lt_of_cell? _ _ X2.out)).trans X2.out; have hx3 := (HB.out.cell (World.block_lt_of_cell? _ _ X3.out)).trans X3.out; have hx4 := (HB.out.cell (World.block_lt_of_cell? _ _ X4.out)).trans X4.out) | ((with_reducible refine gate_callee (f := 72) rfl ?_); refine goesL_ (some 65) rfl rfl Tryd.func72 (by kernel_rfl) rfl #[.slice (some ad4) q.length c3, .int .i64 (wrap64 (dp + 1))] rfl (by (try simp only [List.map_toArray, List.map_cons, List.map_nil]); first | done | rfl) ?_; (refine (HSELF.out _ HP.out (TabsU.Tabs0.of_below TB.out HB.out)).mono ?_); rintro e w6 ⟨rfl, hb⟩; refine ⟨_, rfl, ?_⟩; have m0_ := Aside0.mk (below_step HB.out hb); have m1_ := Aside0.mk (Kd.N_below HN.out hb); have m2_ := Aside0.mk (Kd.C_below HP.out hb); clear hx0 hx1 hx2 hx3 hx4 hb; clear HB HN HP; have HB := m0_; have HN := m1_; have HP := m2_; clear m0_ m1_ m2_; have hx0 := (HB.out.cell (World.block_lt_of_cell? _ _ X0.out)).trans X0.out; have hx1 := (HB.out.cell (World.block_lt_of_cell? _ _ X1.out)).trans X1.out; have hx2 := (HB.out.cell (World.block_lt_of_cell? _ _ X2.out)).trans X2.out; have hx3 := (HB.out.cell (World.block_lt_of_cell? _ _ X3.out)).trans X3.out; have hx4 := (HB.out.cell (World.block_lt_of_cell? _ _ X4.out)).trans X4.out))
        go_ret
        exact ⟨by first | rfl | (simp; done), HB.out⟩
       | true =>
        rw [if_pos rfl] at h
        have HL2 := Aside0.mk (show impl_isPart.l m l dp ps p.f0 (i + 1) = some r ∧ m ≤ K ∧ 0 ≤ i + 1 from ⟨h, by have := HL.out.2.1; omega, by have := HL.out.2.2; omega⟩)
        clear h
        go_wp2_with (first | (go_at_call 104; refine (impl_isText.calls m p.f0 _ _ (TabsU.Tabs0.of_below TB.out HB.out) HTX.out).mono ?_; rintro e w4 ⟨rfl, hb⟩; have m0_ := Aside0.mk (below_step HB.out hb); have m1_ := Aside0.mk (Kd.N_below HN.out hb); have m2_ := Aside0.mk (Kd.C_below HP.out hb); clear hx0 hx1 hx2 hx3 hx4 hb; clear HB HN HP; (try clear hcl); have HB := m0_; have HN := m1_; have HP := m2_; clear m0_ m1_ m2_; have hx0 := (HB.out.cell (World.block_lt_of_cell? _ _ X0.out)).trans X0.out; have hx1 := (HB.out.cell (World.block_lt_of_cell? _ _ X1.out)).trans X1.out; have hx2 := (HB.out.cell (World.block_lt_of_cell? _ _ X2.out)).trans X2.out; have hx3 := (HB.out.cell (World.block_lt_of_cell? _ _ X3.out)).trans X3.out; have hx4 := (HB.out.cell (World.block_lt_of_cell? _ _ X4.out)).trans X4.out) | (go_at_call 85; refine (impl_compareKeys.calls m last p.f0 _ _ (TabsU.Tabs0.of_below TB.out HB.out) HCM.out).mono ?_; rintro e w5 ⟨rfl, hb⟩; have m0_ := Aside0.mk (below_step HB.out hb); have m1_ := Aside0.mk (Kd.N_below HN.out hb); have m2_ := Aside0.mk (Kd.C_below HP.out hb); clear hx0 hx1 hx2 hx3 hx4 hb; clear HB HN HP; have HB := m0_; have HN := m1_; have HP := m2_; clear m0_ m1_ m2_; have hx0 := (HB.out.cell (World.block_lt_of_cell? _ _ X0.out)).trans X0.out; have hx1 := (HB.out.cell (World.block_lt_of_cell? _ _ X1.out)).trans X1.out; have hx2 := (HB.out.cell (World.block_lt_of_cell? _ _ X2.out)).trans X2.out; have hx3 := (HB.out.cell (World.block_lt_of_cell? _ _ X3.out)).trans X3.out; have hx4 := (HB.out.cell (World.block_lt_of_cell? _ _ X4.out)).trans X4.out) | ((with_reducible refine gate_callee (f := 72) rfl ?_); refine goesL_ (some 65) rfl rfl Tryd.func72 (by kernel_rfl) rfl #[.slice (some ad4) q.length c3, .int .i64 (wrap64 (dp + 1))] rfl (by (try simp only [List.map_toArray, List.map_cons, List.map_nil]); first | done | rfl) ?_; (refine (HSELF.out _ HP.out (TabsU.Tabs0.of_below TB.out HB.out)).mono ?_); rintro e w6 ⟨rfl, hb⟩; refine ⟨_, rfl, ?_⟩; have m0_ := Aside0.mk (below_step HB.out hb); have m1_ := Aside0.mk (Kd.N_below HN.out hb); have m2_ := Aside0.mk (Kd.C_below HP.out hb); clear hx0 hx1 hx2 hx3 hx4 hb; clear HB HN HP; have HB := m0_; have HN := m1_; have HP := m2_; clear m0_ m1_ m2_; have hx0 := (HB.out.cell (World.block_lt_of_cell? _ _ X0.out)).trans X0.out; have hx1 := (HB.out.cell (World.block_lt_of_cell? _ _ X1.out)).trans X1.out; have hx2 := (HB.out.cell (World.block_lt_of_cell? _ _ X2.out)).trans X2.out; have hx3 := (HB.out.cell (World.block_lt_of_cell? _ _ X3.out)).trans X3.out; have hx4 := (HB.out.cell (World.block_lt_of_cell? _ _ X4.out)).trans X4.out))
        go_roundg m
        case measure => have := HL2.out.2.1; omega
        case rel => exact ⟨p.f0, i + 1, by first | rfl | (simp; done), by first | rfl | (rw [hi2]; done) | (rw [hi3]; done), HL2, HN, HB⟩
     ·rw [if_neg c8] at hbad
      have c8b0 : decide (0 < i) = false := decide_eq_false c8
      clear c8
      injection hbad with hbad
      subst hbad
      rw [if_neg (by decide)] at h
      obtain ⟨b, hself, h⟩ := Option.bind_eq_some_iff.mp h
      have HSELF := Aside0.mk (fun w_ h_ t_ => HIH.out m (by have := HL.out.2.1; omega) (some ad4) c3 q (wrap64 (dp + 1)) b w_ t_ h_ HQC.out hself)
      clear hself
      cases b with
      | false =>
       rw [if_neg (by decide)] at h
       injection h with h
       subst h
       go_wp2_with (first | (go_at_call 104; refine (impl_isText.calls m p.f0 _ _ (TabsU.Tabs0.of_below TB.out HB.out) HTX.out).mono ?_; rintro e w4 ⟨rfl, hb⟩; have m0_ := Aside0.mk (below_step HB.out hb); have m1_ := Aside0.mk (Kd.N_below HN.out hb); have m2_ := Aside0.mk (Kd.C_below HP.out hb); clear hx0 hx1 hx2 hx3 hx4 hb; clear HB HN HP; (try clear hcl); have HB := m0_; have HN := m1_; have HP := m2_; clear m0_ m1_ m2_; have hx0 := (HB.out.cell (World.block_lt_of_cell? _ _ X0.out)).trans X0.out; have hx1 := (HB.out.cell (World.block_lt_of_cell? _ _ X1.out)).trans X1.out; have hx2 := (HB.out.cell (World.block_lt_of_cell? _ _ X2.out)).trans X2.out; have hx3 := (HB.out.cell (World.block_lt_of_cell? _ _ X3.out)).trans X3.out; have hx4 := (HB.out.cell (World.block_lt_of_cell? _ _ X4.out)).trans X4.out) | ((with_reducible refine gate_callee (f := 72) rfl ?_); refine goesL_ (some 65) rfl rfl Tryd.func72 (by kernel_rfl) rfl #[.slice (some ad4) q.length c3, .int .i64 (wrap64 (dp + 1))] rfl (by (try simp only [List.map_toArray, List.map_cons, List.map_nil]); first | done | rfl) ?_; (refine (HSELF.out _ HP.out (TabsU.Tabs0.of_below TB.out HB.out)).mono ?_); rintro e w6 ⟨rfl, hb⟩; refine ⟨_, rfl, ?_⟩; have m0_ := Aside0.mk (below_step HB.out hb); have m1_ := Aside0.mk (Kd.N_below HN.out hb); have m2_ := Aside0.mk (Kd.C_below HP.out hb); clear hx0 hx1 hx2 hx3 hx4 hb; clear HB HN HP; have HB := m0_; have HN := m1_; have HP := m2_; clear m0_ m1_ m2_; have hx0 := (HB.out.cell (World.block_lt_of_cell? _ _ X0.out)).trans X0.out; have hx1 := (HB.out.cell (World.block_lt_of_cell? _ _ X1.out)).trans X1.out; have hx2 := (HB.out.cell (World.block_lt_of_cell? _ _ X2.out)).trans X2.out; have hx3 := (HB.out.cell (World.block_lt_of_cell? _ _ X3.out)).trans X3.out; have hx4 := (HB.out.cell (World.block_lt_of_cell? _ _ X4.out)).trans X4.out))
       go_ret
       exact ⟨by first | rfl | (simp; done), HB.out⟩
      | true =>
       rw [if_pos rfl] at h
       have HL2 := Aside0.mk (show impl_isPart.l m l dp ps p.f0 (i + 1) = some r ∧ m ≤ K ∧ 0 ≤ i + 1 from ⟨h, by have := HL.out.2.1; omega, by have := HL.out.2.2; omega⟩)
       clear h
       go_wp2_with (first | (go_at_call 104; refine (impl_isText.calls m p.f0 _ _ (TabsU.Tabs0.of_below TB.out HB.out) HTX.out).mono ?_; rintro e w4 ⟨rfl, hb⟩; have m0_ := Aside0.mk (below_step HB.out hb); have m1_ := Aside0.mk (Kd.N_below HN.out hb); have m2_ := Aside0.mk (Kd.C_below HP.out hb); clear hx0 hx1 hx2 hx3 hx4 hb; clear HB HN HP; (try clear hcl); have HB := m0_; have HN := m1_; have HP := m2_; clear m0_ m1_ m2_; have hx0 := (HB.out.cell (World.block_lt_of_cell? _ _ X0.out)).trans X0.out; have hx1 := (HB.out.cell (World.block_lt_of_cell? _ _ X1.out)).trans X1.out; have hx2 := (HB.out.cell (World.block_lt_of_cell? _ _ X2.out)).trans X2.out; have hx3 := (HB.out.cell (World.block_lt_of_cell? _ _ X3.out)).trans X3.out; have hx4 := (HB.out.cell (World.block_lt_of_cell? _ _ X4.out)).trans X4.out) | ((with_reducible refine gate_callee (f := 72) rfl ?_); refine goesL_ (some 65) rfl rfl Tryd.func72 (by kernel_rfl) rfl #[.slice (some ad4) q.length c3, .int .i64 (wrap64 (dp + 1))] rfl (by (try simp only [List.map_toArray, List.map_cons, List.map_nil]); first | done | rfl) ?_; (refine (HSELF.out _ HP.out (TabsU.Tabs0.of_below TB.out HB.out)).mono ?_); rintro e w6 ⟨rfl, hb⟩; refine ⟨_, rfl, ?_⟩; have m0_ := Aside0.mk (below_step HB.out hb); have m1_ := Aside0.mk (Kd.N_below HN.out hb); have m2_ := Aside0.mk (Kd.C_below HP.out hb); clear hx0 hx1 hx2 hx3 hx4 hb; clear HB HN HP; have HB := m0_; have HN := m1_; have HP := m2_; clear m0_ m1_ m2_; have hx0 := (HB.out.cell (World.block_lt_of_cell? _ _ X0.out)).trans X0.out; have hx1 := (HB.out.cell (World.block_lt_of_cell? _ _ X1.out)).trans X1.out; have hx2 := (HB.out.cell (World.block_lt_of_cell? _ _ X2.out)).trans X2.out; have hx3 := (HB.out.cell (World.block_lt_of_cell? _ _ X3.out)).trans X3.out; have hx4 := (HB.out.cell (World.block_lt_of_cell? _ _ X4.out)).trans X4.out))
       go_roundg m
       case measure => have := HL2.out.2.1; omega
       case rel => exact ⟨p.f0, i + 1, by first | rfl | (simp; done), by first | rfl | (rw [hi2]; done) | (rw [hi3]; done), HL2, HN, HB⟩
   ·rw [if_neg c7] at hbad
    have c7b0 : (x.f1 == 7) = false := beq_eq_false_iff_ne.mpr c7
    clear c7
    by_cases c8 : x.f1 = 6
    ·rw [if_pos c8] at hbad
     have c8b0 : (x.f1 == 6) = true := beq_iff_eq.mpr c8
     clear c8
     injection hbad with hbad
     cases c9 : p.f0.toList.isEmpty with
     | true =>
      have hb1 : bad = false := by rw [← hbad, c9]; rfl
      have c9b0 : (p.f0.toList == ([] : List UInt8)) = true := by rw [← c9]; cases p.f0.toList <;> rfl
      have c9b1 : (p.f0.toList != ([] : List UInt8)) = false := by simp only [bne, c9b0]; rfl
      clear hbad
      subst hb1
      rw [if_neg (by decide)] at h
      obtain ⟨b, hself, h⟩ := Option.bind_eq_some_iff.mp h
      have HSELF := Aside0.mk (fun w_ h_ t_ => HIH.out m (by have := HL.out.2.1; omega) (some ad4) c3 q (wrap64 (dp + 1)) b w_ t_ h_ HQC.out hself)
      clear hself
      cases b with
      | false =>
       rw [if_neg (by decide)] at h
       injection h with h
       subst h
       go_wp2_with (first | ((with_reducible refine gate_callee (f := 72) rfl ?_); refine goesL_ (some 65) rfl rfl Tryd.func72 (by kernel_rfl) rfl #[.slice (some ad4) q.length c3, .int .i64 (wrap64 (dp + 1))] rfl (by (try simp only [List.map_toArray, List.map_cons, List.map_nil]); first | done | rfl) ?_; (refine (HSELF.out _ HP.out (TabsU.Tabs0.of_below TB.out HB.out)).mono ?_); rintro e w6 ⟨rfl, hb⟩; refine ⟨_, rfl, ?_⟩; have m0_ := Aside0.mk (below_step HB.out hb); have m1_ := Aside0.mk (Kd.N_below HN.out hb); have m2_ := Aside0.mk (Kd.C_below HP.out hb); clear hx0 hx1 hx2 hx3 hx4 hb; clear HB HN HP; have HB := m0_; have HN := m1_; have HP := m2_; clear m0_ m1_ m2_; have hx0 := (HB.out.cell (World.block_lt_of_cell? _ _ X0.out)).trans X0.out; have hx1 := (HB.out.cell (World.block_lt_of_cell? _ _ X1.out)).trans X1.out; have hx2 := (HB.out.cell (World.block_lt_of_cell? _ _ X2.out)).trans X2.out; have hx3 := (HB.out.cell (World.block_lt_of_cell? _ _ X3.out)).trans X3.out; have hx4 := (HB.out.cell (World.block_lt_of_cell? _ _ X4.out)).trans X4.out))
       go_ret
       exact ⟨by first | rfl | (simp; done), HB.out⟩
      | true =>
       rw [if_pos rfl] at h
       have HL2 := Aside0.mk (show impl_isPart.l m l dp ps p.f0 (i + 1) = some r ∧ m ≤ K ∧ 0 ≤ i + 1 from ⟨h, by have := HL.out.2.1; omega, by have := HL.out.2.2; omega⟩)
       clear h
       go_wp2_with (first | ((with_reducible refine gate_callee (f := 72) rfl ?_); refine goesL_ (some 65) rfl rfl Tryd.func72 (by kernel_rfl) rfl #[.slice (some ad4) q.length c3, .int .i64 (wrap64 (dp + 1))] rfl (by (try simp only [List.map_toArray, List.map_cons, List.map_nil]); first | done | rfl) ?_; (refine (HSELF.out _ HP.out (TabsU.Tabs0.of_below TB.out HB.out)).mono ?_); rintro e w6 ⟨rfl, hb⟩; refine ⟨_, rfl, ?_⟩; have m0_ := Aside0.mk (below_step HB.out hb); have m1_ := Aside0.mk (Kd.N_below HN.out hb); have m2_ := Aside0.mk (Kd.C_below HP.out hb); clear hx0 hx1 hx2 hx3 hx4 hb; clear HB HN HP; have HB := m0_; have HN := m1_; have HP := m2_; clear m0_ m1_ m2_; have hx0 := (HB.out.cell (World.block_lt_of_cell? _ _ X0.out)).trans X0.out; have hx1 := (HB.out.cell (World.block_lt_of_cell? _ _ X1.out)).trans X1.out; have hx2 := (HB.out.cell (World.block_lt_of_cell? _ _ X2.out)).trans X2.out; have hx3 := (HB.out.cell (World.block_lt_of_cell? _ _ X3.out)).trans X3.out; have hx4 := (HB.out.cell (World.block_lt_of_cell? _ _ X4.out)).trans X4.out))
       go_roundg m
       case measure => have := HL2.out.2.1; omega
       case rel => exact ⟨p.f0, i + 1, by first | rfl | (simp; done), by first | rfl | (rw [hi2]; done) | (rw [hi3]; done), HL2, HN, HB⟩
     | false =>
      have hb1 : bad = true := by rw [← hbad, c9]; rfl
      have c9b0 : (p.f0.toList == ([] : List UInt8)) = false := by rw [← c9]; cases p.f0.toList <;> rfl
      have c9b1 : (p.f0.toList != ([] : List UInt8)) = true := by simp only [bne, c9b0]; rfl
      clear hbad
      subst hb1
      rw [if_pos rfl] at h
      injection h with h
      subst h
      go_wp2
      go_ret
      exact ⟨by first | rfl | (simp; done), HB.out⟩
    ·rw [if_neg c8] at hbad
     have c8b0 : (x.f1 == 6) = false := beq_eq_false_iff_ne.mpr c8
     clear c8
     injection hbad with hbad
     subst hbad
     rw [if_neg (by decide)] at h
     obtain ⟨b, hself, h⟩ := Option.bind_eq_some_iff.mp h
     have HSELF := Aside0.mk (fun w_ h_ t_ => HIH.out m (by have := HL.out.2.1; omega) (some ad4) c3 q (wrap64 (dp + 1)) b w_ t_ h_ HQC.out hself)
     clear hself
     cases b with
     | false =>
      rw [if_neg (by decide)] at h
      injection h with h
      subst h
      go_wp2_with (first | ((with_reducible refine gate_callee (f := 72) rfl ?_); refine goesL_ (some 65) rfl rfl Tryd.func72 (by kernel_rfl) rfl #[.slice (some ad4) q.length c3, .int .i64 (wrap64 (dp + 1))] rfl (by (try simp only [List.map_toArray, List.map_cons, List.map_nil]); first | done | rfl) ?_; (refine (HSELF.out _ HP.out (TabsU.Tabs0.of_below TB.out HB.out)).mono ?_); rintro e w6 ⟨rfl, hb⟩; refine ⟨_, rfl, ?_⟩; have m0_ := Aside0.mk (below_step HB.out hb); have m1_ := Aside0.mk (Kd.N_below HN.out hb); have m2_ := Aside0.mk (Kd.C_below HP.out hb); clear hx0 hx1 hx2 hx3 hx4 hb; clear HB HN HP; have HB := m0_; have HN := m1_; have HP := m2_; clear m0_ m1_ m2_; have hx0 := (HB.out.cell (World.block_lt_of_cell? _ _ X0.out)).trans X0.out; have hx1 := (HB.out.cell (World.block_lt_of_cell? _ _ X1.out)).trans X1.out; have hx2 := (HB.out.cell (World.block_lt_of_cell? _ _ X2.out)).trans X2.out; have hx3 := (HB.out.cell (World.block_lt_of_cell? _ _ X3.out)).trans X3.out; have hx4 := (HB.out.cell (World.block_lt_of_cell? _ _ X4.out)).trans X4.out))
      go_ret
      exact ⟨by first | rfl | (simp; done), HB.out⟩
     | true =>
      rw [if_pos rfl] at h
      have HL2 := Aside0.mk (show impl_isPart.l m l dp ps p.f0 (i + 1) = some r ∧ m ≤ K ∧ 0 ≤ i + 1 from ⟨h, by have := HL.out.2.1; omega, by have := HL.out.2.2; omega⟩)
      clear h
      go_wp2_with (first | ((with_reducible refine gate_callee (f := 72) rfl ?_); refine goesL_ (some 65) rfl rfl Tryd.func72 (by kernel_rfl) rfl #[.slice (some ad4) q.length c3, .int .i64 (wrap64 (dp + 1))] rfl (by (try simp only [List.map_toArray, List.map_cons, List.map_nil]); first | done | rfl) ?_; (refine (HSELF.out _ HP.out (TabsU.Tabs0.of_below TB.out HB.out)).mono ?_); rintro e w6 ⟨rfl, hb⟩; refine ⟨_, rfl, ?_⟩; have m0_ := Aside0.mk (below_step HB.out hb); have m1_ := Aside0.mk (Kd.N_below HN.out hb); have m2_ := Aside0.mk (Kd.C_below HP.out hb); clear hx0 hx1 hx2 hx3 hx4 hb; clear HB HN HP; have HB := m0_; have HN := m1_; have HP := m2_; clear m0_ m1_ m2_; have hx0 := (HB.out.cell (World.block_lt_of_cell? _ _ X0.out)).trans X0.out; have hx1 := (HB.out.cell (World.block_lt_of_cell? _ _ X1.out)).trans X1.out; have hx2 := (HB.out.cell (World.block_lt_of_cell? _ _ X2.out)).trans X2.out; have hx3 := (HB.out.cell (World.block_lt_of_cell? _ _ X3.out)).trans X3.out; have hx4 := (HB.out.cell (World.block_lt_of_cell? _ _ X4.out)).trans X4.out))
      go_roundg m
      case measure => have := HL2.out.2.1; omega
      case rel => exact ⟨p.f0, i + 1, by first | rfl | (simp; done), by first | rfl | (rw [hi2]; done) | (rw [hi3]; done), HL2, HN, HB⟩

/-! ### impl_isValue: function 41 -/
def impl_isValue.f (k : Nat) (l0 : List (S61)) : Option (Bool) := (impl_within.f (l0.length : Int) 1 40).bind fun t173 => (if t173 = true then ((impl_sizeOf.f k l0).bind fun t174 => (if t174 = (l0.length : Int) then (if 0 < (l0.length : Int) then (if ((rd_T61 l0 0).f0).toList = ([] : List UInt8) then ((impl_isPart.f k l0 1).bind fun t176 => (some t176)) else (some false)) else (none)) else (some false))) else (some false))
theorem impl_isValue.mono : ∀ a0 k, LeO (impl_isValue.f k a0) (impl_isValue.f (k + 1) a0) := by
 intro a0 k
 unfold impl_isValue.f
 repeat' first
   | (with_reducible exact impl_isPart.mono _ _ _)
   | (with_reducible exact impl_sizeOf.mono _ _)
   | (with_reducible exact LeO.refl _)
   | (with_reducible exact LeO.none _)
   | (with_reducible refine LeO.ite ?_ ?_)
   | (with_reducible refine LeO.bind ?_ (fun _ => ?_))
   | exact impl_isPart.mono _ _ _
   | exact impl_sizeOf.mono _ _
   | exact LeO.none _
   | refine LeO.ite ?_ ?_
   | refine LeO.bind ?_ (fun _ => ?_)
set_option maxHeartbeats 8000000 in
set_option maxRecDepth 100000 in
theorem impl_isValue.calls (k : Nat) (A0 : Option Addr) (c0 : Nat) (l0 : List (S61)) (r : Bool) (w : World) (tb : TabsU.Tabs0 w) (hr0 : Kd.C k61 w A0 l0.length l0) (hc0 : l0.length ≤ c0) (h : impl_isValue.f k l0 = some r) :
  Calls Tryd.prog 41 #[.slice A0 l0.length c0] w fun e w' => e = .returned (.bool r) ∧ Below w.heap.size w w' := by
 have TB := Aside0.mk tb
 clear tb
 have HR0 := Aside0.mk hr0
 have HC0 := Aside0.mk hc0
 clear hr0 hc0
 have HB := Aside0.mk (Below.refl w.heap.size w)
 have H : ((impl_within.f (l0.length : Int) 1 40).bind fun t173 => (if t173 = true then ((impl_sizeOf.f k l0).bind fun t174 => (if t174 = (l0.length : Int) then (if 0 < (l0.length : Int) then (if ((rd_T61 l0 0).f0).toList = ([] : List UInt8) then ((impl_isPart.f k l0 1).bind fun t176 => (some t176)) else (some false)) else (none)) else (some false))) else (some false))) = some r := h
 clear h
 replace H := Option.bind_eq_some_iff.mp H
 obtain ⟨t173, A20, H⟩ := H
 replace H : (if t173 = true then ((impl_sizeOf.f k l0).bind fun t174 => (if t174 = (l0.length : Int) then (if 0 < (l0.length : Int) then (if ((rd_T61 l0 0).f0).toList = ([] : List UInt8) then ((impl_isPart.f k l0 1).bind fun t176 => (some t176)) else (some false)) else (none)) else (some false))) else (some false)) = some r := H
 have A2 := Aside0.mk A20
 clear A20
 by_cases c3 : t173 = true
 ·subst c3
  have H1 : ((impl_sizeOf.f k l0).bind fun t174 => (if t174 = (l0.length : Int) then (if 0 < (l0.length : Int) then (if ((rd_T61 l0 0).f0).toList = ([] : List UInt8) then ((impl_isPart.f k l0 1).bind fun t176 => (some t176)) else (some false)) else (none)) else (some false))) = some r := by rw [if_pos rfl] at H; exact H
  clear H
  have H := H1
  clear H1
  replace H := Option.bind_eq_some_iff.mp H
  obtain ⟨t174, A40, H⟩ := H
  replace H : (if t174 = (l0.length : Int) then (if 0 < (l0.length : Int) then (if ((rd_T61 l0 0).f0).toList = ([] : List UInt8) then ((impl_isPart.f k l0 1).bind fun t176 => (some t176)) else (some false)) else (none)) else (some false)) = some r := H
  have A4 := Aside0.mk A40
  clear A40
  by_cases c5 : t174 = (l0.length : Int)
  ·rw [if_pos c5] at H
   have c5b0 : (t174 == (l0.length : Int)) = true := beq_iff_eq.mpr c5
   have c5b1 : (t174 != (l0.length : Int)) = false := bne_eq_false_iff_eq.mpr c5
   clear c5
   by_cases c6 : 0 < (l0.length : Int)
   ·rw [if_pos c6] at H
    have c6b0 : decide (0 < (l0.length : Int)) = true := decide_eq_true c6
    have c6b1 : decide (0 < l0.length) = true := decide_eq_true (by omega)
    clear c6
    by_cases c7 : ((rd_T61 l0 0).f0).toList = ([] : List UInt8)
    ·rw [if_pos c7] at H
     have c7b0 : (((rd_T61 l0 0).f0).toList == ([] : List UInt8)) = true := beq_iff_eq.mpr c7
     have c7b1 : (((rd_T61 l0 0).f0).toList != ([] : List UInt8)) = false := bne_eq_false_iff_eq.mpr c7
     clear c7
     replace H := Option.bind_eq_some_iff.mp H
     obtain ⟨t176, A80, H⟩ := H
     replace H : (some t176) = some r := H
     have A8 := Aside0.mk A80
     clear A80
     obtain rfl := Option.some.inj H
     go_enter Tryd.func41, Tryd.ntmps41
     go_wp2_with (first | ((with_reducible refine gate_callee (f := 70) rfl ?_); refine goesL_ (some 5) rfl rfl Tryd.func70 (by kernel_rfl) rfl #[.int .i64 (l0.length : Int), .int .i64 1, .int .i64 40] rfl (by (try simp only [List.map_toArray, List.map_cons, List.map_nil]); first | done | rfl | (simp only [List.length_drop, List.length_take]; rfl)) ?_; (with_reducible refine (impl_within.calls (l0.length : Int) 1 40 true _ A2.out).mono ?_); rintro e w' ⟨rfl, ⟨nd, rfl⟩⟩; refine ⟨_, rfl, ?_⟩) | (go_at_call 71; (with_reducible refine (impl_sizeOf.calls k _ _ l0 t174 _ ?side1 ?side2 A4.out).mono ?_); (case side1 => repeat (first | exact HR0.out | (with_reducible refine Kd.C_alloc ?_ _) | (with_reducible refine Kd.C_drewN ?_ _) | (with_reducible refine Kd.C_drew ?_))); (case side2 => exact HC0.out); rintro e w9 ⟨rfl, hb⟩; have n0_ := Aside0.mk (below_step (by repeat first | (with_reducible first | exact HB.out | apply jD | apply jE | apply jF) | exact HB.out) hb); clear HB; have HB := n0_; clear n0_; (try clear hb); (try clear hk); (try clear hi); have p175 : 0 ≤ (0 : Int) := (by omega); have q175 : 0 < (l0.length : Int) := of_decide_eq_true (by first | (with_reducible assumption) | assumption); obtain ⟨ad175, e175, hx175_0, hx175_1, hx175_2, hx175_3, hx175_4⟩ := at_T61 HR0.out 0 p175 q175; cases e175; have qi175 : (0 < l0.length) = True := eq_true (by omega); (try rw [show ((0 : Int)).toNat = 0 from rfl] at hx175_0); (try rw [show 0 * 5 = 0 from rfl] at hx175_0); (try rw [Addr.add_zero'] at hx175_0); (try rw [show ((0 : Int)).toNat = 0 from rfl] at hx175_1); (try rw [show 0 * 5 = 0 from rfl] at hx175_1); (try rw [Addr.add_zero'] at hx175_1); (try rw [show ((0 : Int)).toNat = 0 from rfl] at hx175_2); (try rw [show 0 * 5 = 0 from rfl] at hx175_2); (try rw [Addr.add_zero'] at hx175_2); (try rw [show ((0 : Int)).toNat = 0 from rfl] at hx175_3); (try rw [show 0 * 5 = 0 from rfl] at hx175_3); (try rw [Addr.add_zero'] at hx175_3); (try rw [show ((0 : Int)).toNat = 0 from rfl] at hx175_4); (try rw [show 0 * 5 = 0 from rfl] at hx175_4); (try rw [Addr.add_zero'] at hx175_4); replace hx175_0 := (HB.out.cell (World.block_lt_of_cell? w _ hx175_0)).trans hx175_0; replace hx175_1 := (HB.out.cell (World.block_lt_of_cell? w _ hx175_1)).trans hx175_1; replace hx175_2 := (HB.out.cell (World.block_lt_of_cell? w _ hx175_2)).trans hx175_2; replace hx175_3 := (HB.out.cell (World.block_lt_of_cell? w _ hx175_3)).trans hx175_3; replace hx175_4 := (HB.out.cell (World.block_lt_of_cell? w _ hx175_4)).trans hx175_4; replace p175 := eq_true p175; replace q175 := eq_true q175) | (go_at_call 72; (with_reducible refine (impl_isPart.calls k _ _ l0 1 t176 _ ?side1 ?side2 ?side3 A8.out).mono ?_); (case side1 => exact TabsU.Tabs0.of_below TB.out (by repeat first | (with_reducible first | exact HB.out | apply jD | apply jE | apply jF) | exact HB.out)); (case side2 => repeat (first | exact (Kd.C_below HR0.out HB.out) | (with_reducible refine Kd.C_alloc ?_ _) | (with_reducible refine Kd.C_drewN ?_ _) | (with_reducible refine Kd.C_drew ?_))); (case side3 => exact HC0.out); rintro e w10 ⟨rfl, hb⟩; have n0_ := Aside0.mk (below_step (by repeat first | (with_reducible first | exact HB.out | apply jD | apply jE | apply jF) | exact HB.out) hb); clear HB; have HB := n0_; clear n0_; (try clear hb); (try clear hk); (try clear hi)))
     go_ret
     exact ⟨by first | rfl | (simp [errW_none, errW_some] <;> rfl) | (simp [*, errW_none, errW_some] <;> rfl), by repeat (first | (with_reducible first | exact HB.out | apply jD | apply jE | apply jF) | exact HB.out)⟩
    ·rw [if_neg c7] at H
     have c7b0 : (((rd_T61 l0 0).f0).toList == ([] : List UInt8)) = false := beq_eq_false_iff_ne.mpr c7
     have c7b1 : (((rd_T61 l0 0).f0).toList != ([] : List UInt8)) = true := bne_iff_ne.mpr c7
     obtain rfl := Option.some.inj H
     go_enter Tryd.func41, Tryd.ntmps41
     go_wp2_with (first | ((with_reducible refine gate_callee (f := 70) rfl ?_); refine goesL_ (some 5) rfl rfl Tryd.func70 (by kernel_rfl) rfl #[.int .i64 (l0.length : Int), .int .i64 1, .int .i64 40] rfl (by (try simp only [List.map_toArray, List.map_cons, List.map_nil]); first | done | rfl | (simp only [List.length_drop, List.length_take]; rfl)) ?_; (with_reducible refine (impl_within.calls (l0.length : Int) 1 40 true _ A2.out).mono ?_); rintro e w' ⟨rfl, ⟨nd, rfl⟩⟩; refine ⟨_, rfl, ?_⟩) | (go_at_call 71; (with_reducible refine (impl_sizeOf.calls k _ _ l0 t174 _ ?side1 ?side2 A4.out).mono ?_); (case side1 => repeat (first | exact HR0.out | (with_reducible refine Kd.C_alloc ?_ _) | (with_reducible refine Kd.C_drewN ?_ _) | (with_reducible refine Kd.C_drew ?_))); (case side2 => exact HC0.out); rintro e w11 ⟨rfl, hb⟩; have n0_ := Aside0.mk (below_step (by repeat first | (with_reducible first | exact HB.out | apply jD | apply jE | apply jF) | exact HB.out) hb); clear HB; have HB := n0_; clear n0_; (try clear hb); (try clear hk); (try clear hi); have p175 : 0 ≤ (0 : Int) := (by omega); have q175 : 0 < (l0.length : Int) := of_decide_eq_true (by first | (with_reducible assumption) | assumption); obtain ⟨ad175, e175, hx175_0, hx175_1, hx175_2, hx175_3, hx175_4⟩ := at_T61 HR0.out 0 p175 q175; cases e175; have qi175 : (0 < l0.length) = True := eq_true (by omega); (try rw [show ((0 : Int)).toNat = 0 from rfl] at hx175_0); (try rw [show 0 * 5 = 0 from rfl] at hx175_0); (try rw [Addr.add_zero'] at hx175_0); (try rw [show ((0 : Int)).toNat = 0 from rfl] at hx175_1); (try rw [show 0 * 5 = 0 from rfl] at hx175_1); (try rw [Addr.add_zero'] at hx175_1); (try rw [show ((0 : Int)).toNat = 0 from rfl] at hx175_2); (try rw [show 0 * 5 = 0 from rfl] at hx175_2); (try rw [Addr.add_zero'] at hx175_2); (try rw [show ((0 : Int)).toNat = 0 from rfl] at hx175_3); (try rw [show 0 * 5 = 0 from rfl] at hx175_3); (try rw [Addr.add_zero'] at hx175_3); (try rw [show ((0 : Int)).toNat = 0 from rfl] at hx175_4); (try rw [show 0 * 5 = 0 from rfl] at hx175_4); (try rw [Addr.add_zero'] at hx175_4); replace hx175_0 := (HB.out.cell (World.block_lt_of_cell? w _ hx175_0)).trans hx175_0; replace hx175_1 := (HB.out.cell (World.block_lt_of_cell? w _ hx175_1)).trans hx175_1; replace hx175_2 := (HB.out.cell (World.block_lt_of_cell? w _ hx175_2)).trans hx175_2; replace hx175_3 := (HB.out.cell (World.block_lt_of_cell? w _ hx175_3)).trans hx175_3; replace hx175_4 := (HB.out.cell (World.block_lt_of_cell? w _ hx175_4)).trans hx175_4; replace p175 := eq_true p175; replace q175 := eq_true q175))
     go_ret
     exact ⟨by first | rfl | (simp [errW_none, errW_some] <;> rfl) | (simp [*, errW_none, errW_some] <;> rfl), by repeat (first | (with_reducible first | exact HB.out | apply jD | apply jE | apply jF) | exact HB.out)⟩
   ·rw [if_neg c6] at H
    exact absurd H (by simp)
  ·rw [if_neg c5] at H
   have c5b0 : (t174 == (l0.length : Int)) = false := beq_eq_false_iff_ne.mpr c5
   have c5b1 : (t174 != (l0.length : Int)) = true := bne_iff_ne.mpr c5
   obtain rfl := Option.some.inj H
   go_enter Tryd.func41, Tryd.ntmps41
   go_wp2_with (first | ((with_reducible refine gate_callee (f := 70) rfl ?_); refine goesL_ (some 5) rfl rfl Tryd.func70 (by kernel_rfl) rfl #[.int .i64 (l0.length : Int), .int .i64 1, .int .i64 40] rfl (by (try simp only [List.map_toArray, List.map_cons, List.map_nil]); first | done | rfl | (simp only [List.length_drop, List.length_take]; rfl)) ?_; (with_reducible refine (impl_within.calls (l0.length : Int) 1 40 true _ A2.out).mono ?_); rintro e w' ⟨rfl, ⟨nd, rfl⟩⟩; refine ⟨_, rfl, ?_⟩) | (go_at_call 71; (with_reducible refine (impl_sizeOf.calls k _ _ l0 t174 _ ?side1 ?side2 A4.out).mono ?_); (case side1 => repeat (first | exact HR0.out | (with_reducible refine Kd.C_alloc ?_ _) | (with_reducible refine Kd.C_drewN ?_ _) | (with_reducible refine Kd.C_drew ?_))); (case side2 => exact HC0.out); rintro e w12 ⟨rfl, hb⟩; have n0_ := Aside0.mk (below_step (by repeat first | (with_reducible first | exact HB.out | apply jD | apply jE | apply jF) | exact HB.out) hb); clear HB; have HB := n0_; clear n0_; (try clear hb); (try clear hk); (try clear hi)))
   go_ret
   exact ⟨by first | rfl | (simp [errW_none, errW_some] <;> rfl) | (simp [*, errW_none, errW_some] <;> rfl), by repeat (first | (with_reducible first | exact HB.out | apply jD | apply jE | apply jF) | exact HB.out)⟩
 ·replace c3 := Bool.eq_false_iff.mpr c3
  subst c3
  have H1 : (some false) = some r := by rw [if_neg (show ¬ (false = true) by decide)] at H; exact H
  clear H
  have H := H1
  clear H1
  obtain rfl := Option.some.inj H
  go_enter Tryd.func41, Tryd.ntmps41
  go_wp2_with (first | ((with_reducible refine gate_callee (f := 70) rfl ?_); refine goesL_ (some 5) rfl rfl Tryd.func70 (by kernel_rfl) rfl #[.int .i64 (l0.length : Int), .int .i64 1, .int .i64 40] rfl (by (try simp only [List.map_toArray, List.map_cons, List.map_nil]); first | done | rfl | (simp only [List.length_drop, List.length_take]; rfl)) ?_; (with_reducible refine (impl_within.calls (l0.length : Int) 1 40 false _ A2.out).mono ?_); rintro e w' ⟨rfl, ⟨nd, rfl⟩⟩; refine ⟨_, rfl, ?_⟩))
  go_ret
  exact ⟨by first | rfl | (simp [errW_none, errW_some] <;> rfl) | (simp [*, errW_none, errW_some] <;> rfl), by repeat (first | (with_reducible first | exact HB.out | apply jD | apply jE | apply jF) | exact HB.out)⟩

/-! ### impl_GoodValue: function 18 -/
def impl_GoodValue.f (k : Nat) (l0 : List (S61)) : Option (Bool) := (impl_isValue.f k l0).bind fun t177 => (some t177)
theorem impl_GoodValue.mono : ∀ a0 k, LeO (impl_GoodValue.f k a0) (impl_GoodValue.f (k + 1) a0) := by
 intro a0 k
 unfold impl_GoodValue.f
 repeat' first
   | (with_reducible exact impl_isValue.mono _ _)
   | (with_reducible exact LeO.refl _)
   | (with_reducible exact LeO.none _)
   | (with_reducible refine LeO.ite ?_ ?_)
   | (with_reducible refine LeO.bind ?_ (fun _ => ?_))
   | exact impl_isValue.mono _ _
   | exact LeO.none _
   | refine LeO.ite ?_ ?_
   | refine LeO.bind ?_ (fun _ => ?_)
set_option maxHeartbeats 8000000 in
set_option maxRecDepth 100000 in
theorem impl_GoodValue.calls (k : Nat) (A0 : Option Addr) (c0 : Nat) (l0 : List (S61)) (r : Bool) (w : World) (tb : TabsU.Tabs0 w) (hr0 : Kd.C k61 w A0 l0.length l0) (hc0 : l0.length ≤ c0) (h : impl_GoodValue.f k l0 = some r) :
  Calls Tryd.prog 18 #[.slice A0 l0.length c0] w fun e w' => e = .returned (.bool r) ∧ Below w.heap.size w w' := by
 have TB := Aside0.mk tb
 clear tb
 have HR0 := Aside0.mk hr0
 have HC0 := Aside0.mk hc0
 clear hr0 hc0
 have HB := Aside0.mk (Below.refl w.heap.size w)
 have H : ((impl_isValue.f k l0).bind fun t177 => (some t177)) = some r := h
 clear h
 replace H := Option.bind_eq_some_iff.mp H
 obtain ⟨t177, A20, H⟩ := H
 replace H : (some t177) = some r := H
 have A2 := Aside0.mk A20
 clear A20
 obtain rfl := Option.some.inj H
 go_enter Tryd.func18, Tryd.ntmps18
 go_wp2_with (first | ((with_reducible refine gate_callee (f := 41) rfl ?_); refine goesL_ (some 4) rfl rfl Tryd.func41 (by kernel_rfl) rfl #[.slice A0 l0.length c0] rfl (by (try simp only [List.map_toArray, List.map_cons, List.map_nil]); first | done | rfl | (simp only [List.length_drop, List.length_take]; rfl)) ?_; (with_reducible refine (impl_isValue.calls k _ _ l0 t177 _ ?side1 ?side2 ?side3 A2.out).mono ?_); (case side1 => exact TabsU.Tabs0.of_below TB.out (by repeat first | (with_reducible first | exact HB.out | apply jD | apply jE | apply jF) | exact HB.out)); (case side2 => repeat (first | exact HR0.out | (with_reducible refine Kd.C_alloc ?_ _) | (with_reducible refine Kd.C_drewN ?_ _) | (with_reducible refine Kd.C_drew ?_))); (case side3 => exact HC0.out); rintro e w3 ⟨rfl, hb⟩; refine ⟨_, rfl, ?_⟩; have n0_ := Aside0.mk (below_step (by repeat first | (with_reducible first | exact HB.out | apply jD | apply jE | apply jF) | exact HB.out) hb); clear HB; have HB := n0_; clear n0_; (try clear hb); (try clear hk); (try clear hi)))
 go_ret
 exact ⟨by first | rfl | (simp [errW_none, errW_some] <;> rfl) | (simp [*, errW_none, errW_some] <;> rfl), by repeat (first | (with_reducible first | exact HB.out | apply jD | apply jE | apply jF) | exact HB.out)⟩

/-! ### spec_l2Long: function 114 -/
def spec_l2Long.f (a0 : ByteArray) : Option (Bool) := some (decide ((a0.size : Int) ≤ 240))
set_option maxHeartbeats 8000000 in
set_option maxRecDepth 100000 in
theorem spec_l2Long.calls (a0 : ByteArray) (r : Bool) (w : World) (h : spec_l2Long.f a0 = some r) :
  Calls Tryd.prog 114 #[.string a0] w fun e w' => e = .returned (.bool r) ∧ Drawn0 w w' := by
 have H : (some (decide ((a0.size : Int) ≤ 240))) = some r := h
 clear h
 obtain rfl := Option.some.inj H
 go_enter Tryd.func114, Tryd.ntmps114
 go_wp2
 go_ret
 exact ⟨by first | rfl | (simp; done) | (simp [*]; done), by repeat (first | exact Drawn0.refl _ | apply Drawn0.step)⟩

/-! ### spec_l1In: function 124 -/
def spec_l1In.f (a0 : Int) (a1 : Int) (a2 : Int) : Option (Bool) := if a0 ≥ a1 then (some (decide (a0 ≤ a2))) else (some false)
set_option maxHeartbeats 8000000 in
set_option maxRecDepth 100000 in
theorem spec_l1In.calls (a0 : Int) (a1 : Int) (a2 : Int) (r : Bool) (w : World) (h : spec_l1In.f a0 a1 a2 = some r) :
  Calls Tryd.prog 124 #[.int .i64 a0, .int .i64 a1, .int .i64 a2] w fun e w' => e = .returned (.bool r) ∧ Drawn0 w w' := by
 have H : (if a0 ≥ a1 then (some (decide (a0 ≤ a2))) else (some false)) = some r := h
 clear h
 by_cases c4 : a0 ≥ a1
 ·rw [if_pos c4] at H
  have c4b0 : decide (a1 ≤ a0) = true := decide_eq_true c4
  clear c4
  obtain rfl := Option.some.inj H
  go_enter Tryd.func124, Tryd.ntmps124
  go_wp2
  go_ret
  exact ⟨by first | rfl | (simp; done) | (simp [*]; done), by repeat (first | exact Drawn0.refl _ | apply Drawn0.step)⟩
 ·rw [if_neg c4] at H
  have c4b0 : decide (a1 ≤ a0) = false := decide_eq_false c4
  clear c4
  obtain rfl := Option.some.inj H
  go_enter Tryd.func124, Tryd.ntmps124
  go_wp2
  go_ret
  exact ⟨by first | rfl | (simp; done) | (simp [*]; done), by repeat (first | exact Drawn0.refl _ | apply Drawn0.step)⟩

/-! ### spec_GoodRune: function 125 -/
def spec_GoodRune.f (a0 : Int) : Option (Bool) := (spec_l1In.f a0 0 1114111).bind fun t178 => (if t178 = true then ((spec_l1In.f a0 55296 57343).bind fun t179 => (some (!t179))) else (some false))
set_option maxHeartbeats 8000000 in
set_option maxRecDepth 100000 in
theorem spec_GoodRune.calls (a0 : Int) (r : Bool) (w : World) (h : spec_GoodRune.f a0 = some r) :
  Calls Tryd.prog 125 #[.int .i64 a0] w fun e w' => e = .returned (.bool r) ∧ Drawn0 w w' := by
 have H : ((spec_l1In.f a0 0 1114111).bind fun t178 => (if t178 = true then ((spec_l1In.f a0 55296 57343).bind fun t179 => (some (!t179))) else (some false))) = some r := h
 clear h
 replace H := Option.bind_eq_some_iff.mp H
 obtain ⟨t178, A20, H⟩ := H
 replace H : (if t178 = true then ((spec_l1In.f a0 55296 57343).bind fun t179 => (some (!t179))) else (some false)) = some r := H
 have A2 := Aside0.mk A20
 clear A20
 by_cases c3 : t178 = true
 ·subst c3
  have H1 : ((spec_l1In.f a0 55296 57343).bind fun t179 => (some (!t179))) = some r := by rw [if_pos rfl] at H; exact H
  clear H
  have H := H1
  clear H1
  replace H := Option.bind_eq_some_iff.mp H
  obtain ⟨t179, A40, H⟩ := H
  replace H : (some (!t179)) = some r := H
  have A4 := Aside0.mk A40
  clear A40
  obtain rfl := Option.some.inj H
  go_enter Tryd.func125, Tryd.ntmps125
  go_wp2_with (first | ((with_reducible refine gate_callee (f := 124) rfl ?_); refine goesL_ (some 4) rfl rfl Tryd.func124 (by kernel_rfl) rfl #[.int .i64 a0, .int .i64 0, .int .i64 1114111] rfl (by (try simp only [List.map_toArray, List.map_cons, List.map_nil]); first | done | rfl | (simp only [List.length_drop, List.length_take]; rfl)) ?_; (with_reducible refine (spec_l1In.calls a0 0 1114111 true _ A2.out).mono ?_); rintro e w' ⟨rfl, ⟨nd, rfl⟩⟩; refine ⟨_, rfl, ?_⟩) | (go_at_call 124; (with_reducible refine (spec_l1In.calls a0 55296 57343 t179 _ A4.out).mono ?_); rintro e w' ⟨rfl, ⟨nd, rfl⟩⟩))
  go_ret
  exact ⟨by first | rfl | (simp; done) | (simp [*]; done), by repeat (first | exact Drawn0.refl _ | apply Drawn0.step)⟩
 ·replace c3 := Bool.eq_false_iff.mpr c3
  subst c3
  have H1 : (some false) = some r := by rw [if_neg (show ¬ (false = true) by decide)] at H; exact H
  clear H
  have H := H1
  clear H1
  obtain rfl := Option.some.inj H
  go_enter Tryd.func125, Tryd.ntmps125
  go_wp2_with (first | ((with_reducible refine gate_callee (f := 124) rfl ?_); refine goesL_ (some 4) rfl rfl Tryd.func124 (by kernel_rfl) rfl #[.int .i64 a0, .int .i64 0, .int .i64 1114111] rfl (by (try simp only [List.map_toArray, List.map_cons, List.map_nil]); first | done | rfl | (simp only [List.length_drop, List.length_take]; rfl)) ?_; (with_reducible refine (spec_l1In.calls a0 0 1114111 false _ A2.out).mono ?_); rintro e w' ⟨rfl, ⟨nd, rfl⟩⟩; refine ⟨_, rfl, ?_⟩))
  go_ret
  exact ⟨by first | rfl | (simp; done) | (simp [*]; done), by repeat (first | exact Drawn0.refl _ | apply Drawn0.step)⟩

/-! ### spec_l2Bytes: function 126 -/
def spec_l2Bytes.f (a0 : Int) : Option (ByteArray) := if a0 < 128 then (some (strOfNums (([(a0) % 256] : List Int)))) else (if a0 < 2048 then (some (strOfNums (([(wrap64 (192 + (a0 / 64))) % 256, (wrap64 (128 + (Go.bits .and .i64 a0 63))) % 256] : List Int)))) else (if a0 < 65536 then (some (strOfNums (([(wrap64 (224 + (a0 / 4096))) % 256, (wrap64 (128 + (Go.bits .and .i64 (a0 / 64) 63))) % 256, (wrap64 (128 + (Go.bits .and .i64 a0 63))) % 256] : List Int)))) else (some (strOfNums (([(wrap64 (240 + (a0 / 262144))) % 256, (wrap64 (128 + (Go.bits .and .i64 (a0 / 4096) 63))) % 256, (wrap64 (128 + (Go.bits .and .i64 (a0 / 64) 63))) % 256, (wrap64 (128 + (Go.bits .and .i64 a0 63))) % 256] : List Int))))))
set_option maxHeartbeats 8000000 in
set_option maxRecDepth 100000 in
theorem spec_l2Bytes.calls (a0 : Int) (r : ByteArray) (w : World) (h : spec_l2Bytes.f a0 = some r) :
  Calls Tryd.prog 126 #[.int .i64 a0] w fun e w' => e = .returned (.string r) ∧ Below w.heap.size w w' := by
 have HB := Aside0.mk (Below.refl w.heap.size w)
 have H : (if a0 < 128 then (some (strOfNums (([(a0) % 256] : List Int)))) else (if a0 < 2048 then (some (strOfNums (([(wrap64 (192 + (a0 / 64))) % 256, (wrap64 (128 + (Go.bits .and .i64 a0 63))) % 256] : List Int)))) else (if a0 < 65536 then (some (strOfNums (([(wrap64 (224 + (a0 / 4096))) % 256, (wrap64 (128 + (Go.bits .and .i64 (a0 / 64) 63))) % 256, (wrap64 (128 + (Go.bits .and .i64 a0 63))) % 256] : List Int)))) else (some (strOfNums (([(wrap64 (240 + (a0 / 262144))) % 256, (wrap64 (128 + (Go.bits .and .i64 (a0 / 4096) 63))) % 256, (wrap64 (128 + (Go.bits .and .i64 (a0 / 64) 63))) % 256, (wrap64 (128 + (Go.bits .and .i64 a0 63))) % 256] : List Int))))))) = some r := h
 clear h
 by_cases c2 : a0 < 128
 ·rw [if_pos c2] at H
  have c2b0 : decide (a0 < 128) = true := decide_eq_true c2
  clear c2
  obtain ⟨y180, hy180⟩ : ∃ y_ : List Int, y_ = (([(a0) % 256] : List Int)) := ⟨_, rfl⟩
  replace H : (some (strOfNums y180)) = some r := by first | (rw [hy180]; with_reducible exact H) | (have H2_ := (Option.bind_some _ _).symm.trans H; rw [hy180]; with_reducible exact H2_) | (have H2_ := (Option.bind_some _ _).symm.trans H; with_reducible exact H2_) | with_reducible exact H | (rw [hy180]; exact H) | exact H
  have Ny180 := Aside0.mk hy180
  clear hy180
  obtain rfl := Option.some.inj H
  go_enter Tryd.func126, Tryd.ntmps126
  go_wp2_with (first | ((with_reducible refine gate_dst (N := 8) rfl ?_); refine Kd.R_lit (Kd.int .u8) _ 5 ?hg (N := 8) ?hd (xs := ([(a0) % 256] : List Int)) (inner := [.int .u8 ((a0) % 256)]) (ok := fun _ => True) (okp := fun _ => True) ?hr ?hp (fun _ hk => hk) trivial (Below.refl _ _) (Nat.le_refl _) (by simp) ?_; (case hd => rfl); (case hg => rfl); (case hr => first | (go_simp; done) | (go_simp; rfl)); (case hp => exact (Reps.one (show Kd.M (Kd.int .u8) _ _ _ ((a0) % 256) [.int .u8 ((a0) % 256)] from rfl) (Reps.none _ _))); intro v181 w3 ho4 hb hg_ hnew_; clear hg_ hnew_; (first | rw [← Ny180.out] at ho4 | (simp only [Int.reduceToNat] at ho4; rw [← Ny180.out] at ho4)); have n0_ := Aside0.mk (Kd.R_lower ho4 (below_size (by repeat first | (with_reducible first | exact HB.out | apply jD | apply jE | apply jF) | exact HB.out))); have n1_ := Aside0.mk (below_step (by repeat first | (with_reducible first | exact HB.out | apply jD | apply jE | apply jF) | exact HB.out) hb); clear HB; have HO182 := n0_; have HB := n1_; clear n0_ n1_; clear hb ho4; have hcv5 := own_string (P := Tryd.prog) Tryd.underlying42 Tryd.underlying5 Tryd.underlying9 (Kd.own_of_R HO182.out)))
  go_ret
  exact ⟨by first | rfl | (simp [errW_none, errW_some] <;> rfl) | (simp [*, errW_none, errW_some] <;> rfl), by repeat (first | (with_reducible first | exact HB.out | apply jD | apply jE | apply jF) | exact HB.out)⟩
 ·rw [if_neg c2] at H
  have c2b0 : decide (a0 < 128) = false := decide_eq_false c2
  clear c2
  by_cases c6 : a0 < 2048
  ·rw [if_pos c6] at H
   have c6b0 : decide (a0 < 2048) = true := decide_eq_true c6
   clear c6
   obtain ⟨y183, hy183⟩ : ∃ y_ : List Int, y_ = (([(wrap64 (192 + (a0 / 64))) % 256, (wrap64 (128 + (Go.bits .and .i64 a0 63))) % 256] : List Int)) := ⟨_, rfl⟩
   replace H : (some (strOfNums y183)) = some r := by first | (rw [hy183]; with_reducible exact H) | (have H2_ := (Option.bind_some _ _).symm.trans H; rw [hy183]; with_reducible exact H2_) | (have H2_ := (Option.bind_some _ _).symm.trans H; with_reducible exact H2_) | with_reducible exact H | (rw [hy183]; exact H) | exact H
   have Ny183 := Aside0.mk hy183
   clear hy183
   obtain rfl := Option.some.inj H
   go_enter Tryd.func126, Tryd.ntmps126
   go_wp2_with (first | ((with_reducible refine gate_dst (N := 21) rfl ?_); refine Kd.R_lit (Kd.int .u8) _ 5 ?hg (N := 21) ?hd (xs := ([(wrap64 (192 + (a0 / 64))) % 256, (wrap64 (128 + (Go.bits .and .i64 a0 63))) % 256] : List Int)) (inner := [.int .u8 ((wrap64 (192 + (a0 / 64))) % 256), .int .u8 ((wrap64 (128 + (Go.bits .and .i64 a0 63))) % 256)]) (ok := fun _ => True) (okp := fun _ => True) ?hr ?hp (fun _ hk => hk) trivial (Below.refl _ _) (Nat.le_refl _) (by simp) ?_; (case hd => rfl); (case hg => rfl); (case hr => first | (go_simp; done) | (go_simp; rfl)); (case hp => exact (Reps.one (show Kd.M (Kd.int .u8) _ _ _ ((wrap64 (192 + (a0 / 64))) % 256) [.int .u8 ((wrap64 (192 + (a0 / 64))) % 256)] from rfl) (Reps.one (show Kd.M (Kd.int .u8) _ _ _ ((wrap64 (128 + (Go.bits .and .i64 a0 63))) % 256) [.int .u8 ((wrap64 (128 + (Go.bits .and .i64 a0 63))) % 256)] from rfl) (Reps.none _ _)))); intro v184 w7 ho8 hb hg_ hnew_; clear hg_ hnew_; (first | rw [← Ny183.out] at ho8 | (simp only [Int.reduceToNat] at ho8; rw [← Ny183.out] at ho8)); have n0_ := Aside0.mk (Kd.R_lower ho8 (below_size (by repeat first | (with_reducible first | exact HB.out | apply jD | apply jE | apply jF) | exact HB.out))); have n1_ := Aside0.mk (below_step (by repeat first | (with_reducible first | exact HB.out | apply jD | apply jE | apply jF) | exact HB.out) hb); clear HB; have HO185 := n0_; have HB := n1_; clear n0_ n1_; clear hb ho8; have hcv9 := own_string (P := Tryd.prog) Tryd.underlying42 Tryd.underlying5 Tryd.underlying9 (Kd.own_of_R HO185.out)))
   go_ret
   exact ⟨by first | rfl | (simp [errW_none, errW_some] <;> rfl) | (simp [*, errW_none, errW_some] <;> rfl), by repeat (first | (with_reducible first | exact HB.out | apply jD | apply jE | apply jF) | exact HB.out)⟩
  ·rw [if_neg c6] at H
   have c6b0 : decide (a0 < 2048) = false := decide_eq_false c6
   clear c6
   by_cases c10 : a0 < 65536
   ·rw [if_pos c10] at H
    have c10b0 : decide (a0 < 65536) = true := decide_eq_true c10
    clear c10
    obtain ⟨y186, hy186⟩ : ∃ y_ : List Int, y_ = (([(wrap64 (224 + (a0 / 4096))) % 256, (wrap64 (128 + (Go.bits .and .i64 (a0 / 64) 63))) % 256, (wrap64 (128 + (Go.bits .and .i64 a0 63))) % 256] : List Int)) := ⟨_, rfl⟩
    replace H : (some (strOfNums y186)) = some r := by first | (rw [hy186]; with_reducible exact H) | (have H2_ := (Option.bind_some _ _).symm.trans H; rw [hy186]; with_reducible exact H2_) | (have H2_ := (Option.bind_some _ _).symm.trans H; with_reducible exact H2_) | with_reducible exact H | (rw [hy186]; exact H) | exact H
    have Ny186 := Aside0.mk hy186
    clear hy186
    obtain rfl := Option.some.inj H
    go_enter Tryd.func126, Tryd.ntmps126
    go_wp2_with (first | ((with_reducible refine gate_dst (N := 39) rfl ?_); refine Kd.R_lit (Kd.int .u8) _ 5 ?hg (N := 39) ?hd (xs := ([(wrap64 (224 + (a0 / 4096))) % 256, (wrap64 (128 + (Go.bits .and .i64 (a0 / 64) 63))) % 256, (wrap64 (128 + (Go.bits .and .i64 a0 63))) % 256] : List Int)) (inner := [.int .u8 ((wrap64 (224 + (a0 / 4096))) % 256), .int .u8 ((wrap64 (128 + (Go.bits .and .i64 (a0 / 64) 63))) % 256), .int .u8 ((wrap64 (128 + (Go.bits .and .i64 a0 63))) % 256)]) (ok := fun _ => True) (okp := fun _ => True) ?hr ?hp (fun _ hk => hk) trivial (Below.refl _ _) (Nat.le_refl _) (by simp) ?_; (case hd => rfl); (case hg => rfl); (case hr => first | (go_simp; done) | (go_simp; rfl)); (case hp => exact (Reps.one (show Kd.M (Kd.int .u8) _ _ _ ((wrap64 (224 + (a0 / 4096))) % 256) [.int .u8 ((wrap64 (224 + (a0 / 4096))) % 256)] from rfl) (Reps.one (show Kd.M (Kd.int .u8) _ _ _ ((wrap64 (128 + (Go.bits .and .i64 (a0 / 64) 63))) % 256) [.int .u8 ((wrap64 (128 + (Go.bits .and .i64 (a0 / 64) 63))) % 256)] from rfl) (Reps.one (show Kd.M (Kd.int .u8) _ _ _ ((wrap64 (128 + (Go.bits .and .i64 a0 63))) % 256) [.int .u8 ((wrap64 (128 + (Go.bits .and .i64 a0 63))) % 256)] from rfl) (Reps.none _ _))))); intro v187 w11 ho12 hb hg_ hnew_; clear hg_ hnew_; (first | rw [← Ny186.out] at ho12 | (simp only [Int.reduceToNat] at ho12; rw [← Ny186.out] at ho12)); have n0_ := Aside0.mk (Kd.R_lower ho12 (below_size (by repeat first | (with_reducible first | exact HB.out | apply jD | apply jE | apply jF) | exact HB.out))); have n1_ := Aside0.mk (below_step (by repeat first | (with_reducible first | exact HB.out | apply jD | apply jE | apply jF) | exact HB.out) hb); clear HB; have HO188 := n0_; have HB := n1_; clear n0_ n1_; clear hb ho12; have hcv13 := own_string (P := Tryd.prog) Tryd.underlying42 Tryd.underlying5 Tryd.underlying9 (Kd.own_of_R HO188.out)))
    go_ret
    exact ⟨by first | rfl | (simp [errW_none, errW_some] <;> rfl) | (simp [*, errW_none, errW_some] <;> rfl), by repeat (first | (with_reducible first | exact HB.out | apply jD | apply jE | apply jF) | exact HB.out)⟩
   ·rw [if_neg c10] at H
    have c10b0 : decide (a0 < 65536) = false := decide_eq_false c10
    clear c10
    obtain ⟨y189, hy189⟩ : ∃ y_ : List Int, y_ = (([(wrap64 (240 + (a0 / 262144))) % 256, (wrap64 (128 + (Go.bits .and .i64 (a0 / 4096) 63))) % 256, (wrap64 (128 + (Go.bits .and .i64 (a0 / 64) 63))) % 256, (wrap64 (128 + (Go.bits .and .i64 a0 63))) % 256] : List Int)) := ⟨_, rfl⟩
    replace H : (some (strOfNums y189)) = some r := by first | (rw [hy189]; with_reducible exact H) | (have H2_ := (Option.bind_some _ _).symm.trans H; rw [hy189]; with_reducible exact H2_) | (have H2_ := (Option.bind_some _ _).symm.trans H; with_reducible exact H2_) | with_reducible exact H | (rw [hy189]; exact H) | exact H
    have Ny189 := Aside0.mk hy189
    clear hy189
    obtain rfl := Option.some.inj H
    go_enter Tryd.func126, Tryd.ntmps126
    go_wp2_with (first | ((with_reducible refine gate_dst (N := 59) rfl ?_); refine Kd.R_lit (Kd.int .u8) _ 5 ?hg (N := 59) ?hd (xs := ([(wrap64 (240 + (a0 / 262144))) % 256, (wrap64 (128 + (Go.bits .and .i64 (a0 / 4096) 63))) % 256, (wrap64 (128 + (Go.bits .and .i64 (a0 / 64) 63))) % 256, (wrap64 (128 + (Go.bits .and .i64 a0 63))) % 256] : List Int)) (inner := [.int .u8 ((wrap64 (240 + (a0 / 262144))) % 256), .int .u8 ((wrap64 (128 + (Go.bits .and .i64 (a0 / 4096) 63))) % 256), .int .u8 ((wrap64 (128 + (Go.bits .and .i64 (a0 / 64) 63))) % 256), .int .u8 ((wrap64 (128 + (Go.bits .and .i64 a0 63))) % 256)]) (ok := fun _ => True) (okp := fun _ => True) ?hr ?hp (fun _ hk => hk) trivial (Below.refl _ _) (Nat.le_refl _) (by simp) ?_; (case hd => rfl); (case hg => rfl); (case hr => first | (go_simp; done) | (go_simp; rfl)); (case hp => exact (Reps.one (show Kd.M (Kd.int .u8) _ _ _ ((wrap64 (240 + (a0 / 262144))) % 256) [.int .u8 ((wrap64 (240 + (a0 / 262144))) % 256)] from rfl) (Reps.one (show Kd.M (Kd.int .u8) _ _ _ ((wrap64 (128 + (Go.bits .and .i64 (a0 / 4096) 63))) % 256) [.int .u8 ((wrap64 (128 + (Go.bits .and .i64 (a0 / 4096) 63))) % 256)] from rfl) (Reps.one (show Kd.M (Kd.int .u8) _ _ _ ((wrap64 (128 + (Go.bits .and .i64 (a0 / 64) 63))) % 256) [.int .u8 ((wrap64 (128 + (Go.bits .and .i64 (a0 / 64) 63))) % 256)] from rfl) (Reps.one (show Kd.M (Kd.int .u8) _ _ _ ((wrap64 (128 + (Go.bits .and .i64 a0 63))) % 256) [.int .u8 ((wrap64 (128 + (Go.bits .and .i64 a0 63))) % 256)] from rfl) (Reps.none _ _)))))); intro v190 w14 ho15 hb hg_ hnew_; clear hg_ hnew_; (first | rw [← Ny189.out] at ho15 | (simp only [Int.reduceToNat] at ho15; rw [← Ny189.out] at ho15)); have n0_ := Aside0.mk (Kd.R_lower ho15 (below_size (by repeat first | (with_reducible first | exact HB.out | apply jD | apply jE | apply jF) | exact HB.out))); have n1_ := Aside0.mk (below_step (by repeat first | (with_reducible first | exact HB.out | apply jD | apply jE | apply jF) | exact HB.out) hb); clear HB; have HO191 := n0_; have HB := n1_; clear n0_ n1_; clear hb ho15; have hcv16 := own_string (P := Tryd.prog) Tryd.underlying42 Tryd.underlying5 Tryd.underlying9 (Kd.own_of_R HO191.out)))
    go_ret
    exact ⟨by first | rfl | (simp [errW_none, errW_some] <;> rfl) | (simp [*, errW_none, errW_some] <;> rfl), by repeat (first | (with_reducible first | exact HB.out | apply jD | apply jE | apply jF) | exact HB.out)⟩

end
end Go.Proofs.YtkfbdopfeacnfaaDoor.PFnFields
