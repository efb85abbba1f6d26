-- Printed for this claim by a changed copy of the kit's printing program (wip/tools/patch_print.py); Lean checks it.
import Derived.Test.YtkfbdopfeacnfaaDoorPFnExactFieldOfx0
import Derived.Test.YtkfbdopfeacnfaaDoorPFnExactFieldOfx8
import Derived.Test.YtkfbdopfeacnfaaDoorPFnExactFieldOfx9
import Derived.Test.YtkfbdopfeacnfaaDoorPFnExactFieldOfx10
namespace Go.Proofs.YtkfbdopfeacnfaaDoor.PFnExactFieldOf
open Go.RowKit Go.Proofs.YtkfbdopfeacnfaaDoorW.PrintWords Go.Proofs.YtkfbdopfeacnfaaDoorW.PrintLast Go.Proofs.YtkfbdopfeacnfaaDoorW.PrintMore
attribute [local go_sem] max2_int min2_int max_two min_two max_three min_three max_four min_four   -- for this text's walks alone
set_option linter.unusedVariables false
set_option linter.unusedSimpArgs false

noncomputable section
/-! ### impl_isPart: function 72 -/
theorem impl_isPart.heap : Kd.Heap k61 := Kd.heap_iso _ (Kd.heap_pair Kd.heap_string (Kd.heap_pair (Kd.heap_int .i64) (Kd.heap_pair (Kd.heap_int .i64) (Kd.heap_pair Kd.heap_string (Kd.heap_int .i64)))))
theorem add0_ad (a : Addr) : a.add 0 = a := by cases a; simp [Addr.add]
/-- Is this part's key wrong here? -/
def impl_isPart.bad (k : Nat) (kind : Int) (key last : ByteArray) (i : Int) : Option Bool :=
  if kind = 7 then (impl_isText.f k key).bind fun t => if t = true then (if 0 < i then (impl_compareKeys.f k last key).bind fun c => some (decide (0 ≤ c)) else some false) else some true
  else if kind = 6 then some (!key.toList.isEmpty) else some false
mutual
def impl_isPart.f : Nat → List S61 → Int → Option Bool
  | 0, _, _ => none
  | k + 1, l, dp => if 6 < dp then some false else if 0 < (l.length : Int) then (impl_isNode.f k (rd_T61 l 0).f0 (rd_T61 l 0).f1 (rd_T61 l 0).f2 (rd_T61 l 0).f3 (rd_T61 l 0).f4).bind fun b => if b = true then (impl_partsOf.f k l).bind fun ps => if ps.length < 1000000 then impl_isPart.l k l dp ps ⟨#[]⟩ 0 else none else some false
    else none
def impl_isPart.l : Nat → List S61 → Int → List (List S61) → ByteArray → Int → Option Bool
  | 0, _, _, _, _, _ => none
  | k + 1, l, dp, ps, last, i => if i < (ps.length : Int) then (if 0 < ((rd_L5 ps i).length : Int) then (impl_isPart.bad k (rd_T61 l 0).f1 (rd_T61 (rd_L5 ps i) 0).f0 last i).bind fun b => if b = true then some false
      else (impl_isPart.f k (rd_L5 ps i) (wrap64 (dp + 1))).bind fun b => if b = true then impl_isPart.l k l dp ps (rd_T61 (rd_L5 ps i) 0).f0 (i + 1) else some false else none) else some true
end
theorem impl_isPart.bad_mono : ∀ kind key last i k, LeO (impl_isPart.bad k kind key last i) (impl_isPart.bad (k + 1) kind key last i) := by
  intro kind key last i k
  unfold impl_isPart.bad
  exact LeO.ite (LeO.bind (impl_isText.mono _ _) fun t => LeO.ite (LeO.ite (LeO.bind (impl_compareKeys.mono _ _ _) fun c => LeO.refl _) (LeO.refl _)) (LeO.refl _)) (LeO.refl _)
theorem impl_isPart.mono_l : ∀ k, (∀ l dp, LeO (impl_isPart.f k l dp) (impl_isPart.f (k + 1) l dp)) ∧ (∀ l dp ps last i, LeO (impl_isPart.l k l dp ps last i) (impl_isPart.l (k + 1) l dp ps last i))
  | 0 => ⟨fun _ _ r h => by simp [impl_isPart.f] at h, fun _ _ _ _ _ r h => by simp [impl_isPart.l] at h⟩
  | k + 1 => by
    obtain ⟨ih0, ih1⟩ := impl_isPart.mono_l k
    refine ⟨?_, ?_⟩
    · intro l dp
      rw [impl_isPart.f, impl_isPart.f]
      exact LeO.ite (LeO.refl _) (LeO.ite (LeO.bind (impl_isNode.mono _ _ _ _ _ _) fun b => LeO.ite (LeO.bind (impl_partsOf.mono _ _) fun ps => LeO.ite (ih1 _ _ _ _ _) (LeO.refl _)) (LeO.refl _)) (LeO.refl _))
    · intro l dp ps last i
      rw [impl_isPart.l, impl_isPart.l]
      exact LeO.ite (LeO.ite (LeO.bind (impl_isPart.bad_mono _ _ _ _ _) fun b => LeO.ite (LeO.refl _) (LeO.bind (ih0 _ _) fun b => LeO.ite (ih1 _ _ _ _ _) (LeO.refl _))) (LeO.refl _)) (LeO.refl _)
theorem impl_isPart.mono : ∀ l dp k, LeO (impl_isPart.f k l dp) (impl_isPart.f (k + 1) l dp) := fun l dp k => (impl_isPart.mono_l k).1 l dp
set_option maxHeartbeats 16000000 in
set_option maxRecDepth 100000 in
theorem impl_isPart.calls (k : Nat) : ∀ (A0 : Option Addr) (c0 : Nat) (l : List S61) (dp : Int) (r : Bool) (w : World) (tb : Go.Proofs.YtkfbdopfeacnfaaDoor.TabsU.Tabs0 w) (hr0 : Kd.C k61 w A0 l.length l) (hc0 : l.length ≤ c0) (h : impl_isPart.f k l dp = some r),
    Calls Tryd.prog 72 #[.slice A0 l.length c0, .int .i64 dp] w fun e w' => e = .returned (.bool r) ∧ Below w.heap.size w w' := by
  induction k using Nat.strongRecOn with
  | _ k IH =>
  intro A0 c0 l dp r w tb hr0 hc0 h
  have hu61 := Tryd.underlying61
  have HR0 := Aside0.mk hr0
  have HC0 := Aside0.mk hc0
  have HB := Aside0.mk (Below.refl w.heap.size w)
  have TB := Aside0.mk tb
  have HIH := Aside0.mk IH
  clear hr0 hc0 tb IH
  cases k with
  | zero => rw [impl_isPart.f] at h; cases h
  | succ k =>
  have HIH := Aside0.mk (fun (m : Nat) (hm : m ≤ k) => HIH.out m (Nat.lt_succ_of_le hm))
  obtain ⟨K, hK⟩ : ∃ K, K = k := ⟨_, rfl⟩
  rw [impl_isPart.f] at h
  by_cases c1 : 6 < dp
  · rw [if_pos c1] at h
    have c1b0 : decide (6 < dp) = true := decide_eq_true c1
    injection h with h
    subst h
    clear c1
    go_enter Tryd.func72, Tryd.ntmps72
    go_wp2
    go_ret
    exact ⟨by first | rfl | (simp; done), HB.out⟩
  rw [if_neg c1] at h
  have c1b0 : decide (6 < dp) = false := decide_eq_false c1
  by_cases c3 : 0 < (l.length : Int)
  rotate_left
  · rw [if_neg c3] at h; cases h
  rw [if_pos c3] at h
  obtain ⟨ad, e0, hx0, hx1, hx2, hx3, hx4⟩ := at_T61 HR0.out 0 (Int.le_refl _) (by omega)
  cases e0
  have q0 : ((0 : Int) < (l.length : Int)) = True := eq_true c3
  have q1 : (0 < l.length) = True := eq_true (by omega)
  simp only [Int.toNat_zero, Nat.zero_mul, add0_ad] at hx0 hx1 hx2 hx3 hx4
  have X0 := Aside0.mk hx0
  have X1 := Aside0.mk hx1
  have X2 := Aside0.mk hx2
  have X3 := Aside0.mk hx3
  have X4 := Aside0.mk hx4
  obtain ⟨x, hx⟩ : ∃ x, x = rd_T61 l 0 := ⟨_, rfl⟩
  rw [← hx] at h hx0 hx1 hx2 hx3 hx4 X0 X1 X2 X3 X4
  have HX := Aside0.mk hx
  clear hx c1 c3
  obtain ⟨b, hb0, h⟩ := Option.bind_eq_some_iff.mp h
  have HNODE := Aside0.mk hb0
  clear hb0
  cases b with
  | false =>
    rw [if_neg (by decide)] at h
    injection h with h
    subst h
    go_enter Tryd.func72, Tryd.ntmps72
    go_wp2_with (first | (go_at_call 103; refine (impl_isNode.calls k x.f0 x.f1 x.f2 x.f3 x.f4 _ _ (Go.Proofs.YtkfbdopfeacnfaaDoor.TabsU.Tabs0.of_below TB.out HB.out) HNODE.out).mono ?_; rintro e w1 ⟨rfl, hb⟩; have m0_ := Aside0.mk (below_step HB.out hb); clear hx0 hx1 hx2 hx3 hx4 hb; clear HB; have HB := m0_; clear m0_; have hx0 := (HB.out.cell (World.block_lt_of_cell? _ _ X0.out)).trans X0.out; have hx1 := (HB.out.cell (World.block_lt_of_cell? _ _ X1.out)).trans X1.out; have hx2 := (HB.out.cell (World.block_lt_of_cell? _ _ X2.out)).trans X2.out; have hx3 := (HB.out.cell (World.block_lt_of_cell? _ _ X3.out)).trans X3.out; have hx4 := (HB.out.cell (World.block_lt_of_cell? _ _ X4.out)).trans X4.out))
    go_ret
    exact ⟨by first | rfl | (simp; done), HB.out⟩
  | true =>
  rw [if_pos rfl] at h
  obtain ⟨ps, hps, h⟩ := Option.bind_eq_some_iff.mp h
  have HPS := Aside0.mk hps
  clear hps
  by_cases c4 : ps.length < 1000000
  rotate_left
  · rw [if_neg c4] at h; cases h
  rw [if_pos c4] at h
  have HLEN := Aside0.mk c4
  have HL := Aside0.mk h
  clear h c4
  go_enter Tryd.func72, Tryd.ntmps72
  go_wp2_with (first | (go_at_call 103; refine (impl_isNode.calls k x.f0 x.f1 x.f2 x.f3 x.f4 _ _ (Go.Proofs.YtkfbdopfeacnfaaDoor.TabsU.Tabs0.of_below TB.out HB.out) HNODE.out).mono ?_; rintro e w1 ⟨rfl, hb⟩; have m0_ := Aside0.mk (below_step HB.out hb); clear hx0 hx1 hx2 hx3 hx4 hb; clear HB; have HB := m0_; clear m0_; have hx0 := (HB.out.cell (World.block_lt_of_cell? _ _ X0.out)).trans X0.out; have hx1 := (HB.out.cell (World.block_lt_of_cell? _ _ X1.out)).trans X1.out; have hx2 := (HB.out.cell (World.block_lt_of_cell? _ _ X2.out)).trans X2.out; have hx3 := (HB.out.cell (World.block_lt_of_cell? _ _ X3.out)).trans X3.out; have hx4 := (HB.out.cell (World.block_lt_of_cell? _ _ X4.out)).trans X4.out) | (go_at_call 44; refine (impl_partsOf.calls k (fun k_ => k_ < w.heap.size) _ _ l ps _ (Kd.V_mk HC0.out (Kd.F_below (Kd.C_F impl_isPart.heap HR0.out) HB.out)) HPS.out).mono ?_; rintro e w2 ⟨v281, rfl, ho0, hb⟩; have HN := Aside0.mk (Kd.N_lower (Kd.N_mono (ok' := fun k_ => True) ho0 (fun k_ hk_ => trivial)) (below_size HB.out)); have m0_ := Aside0.mk (below_step HB.out hb); clear hx0 hx1 hx2 hx3 hx4 hb; clear HB; have HB := m0_; clear m0_; have hx0 := (HB.out.cell (World.block_lt_of_cell? _ _ X0.out)).trans X0.out; have hx1 := (HB.out.cell (World.block_lt_of_cell? _ _ X1.out)).trans X1.out; have hx2 := (HB.out.cell (World.block_lt_of_cell? _ _ X2.out)).trans X2.out; have hx3 := (HB.out.cell (World.block_lt_of_cell? _ _ X3.out)).trans X3.out; have hx4 := (HB.out.cell (World.block_lt_of_cell? _ _ X4.out)).trans X4.out; clear ho0; obtain ⟨A2, c2, e2⟩ := Kd.N_slice HN.out; subst e2))
  subst hK
  go_loopg [5, 21] K (fun kq v5 v21 w' => ∃ (last : ByteArray) (i : Int), v5 = .string last ∧ v21 = .int .i64 i ∧ Aside0 (impl_isPart.l kq l dp ps last i = some r ∧ kq ≤ K ∧ 0 ≤ i) ∧ Aside0 (Kd.N (Kd.slice 61 k61) 22 w' w.heap.size (fun _ => True) (.slice A2 ps.length c2) ps) ∧ Aside0 (Below w.heap.size w w'))
  case atStart => exact ⟨⟨#[]⟩, 0, rfl, rfl, ⟨HL.out, Nat.le_refl _, Int.le_refl _⟩, HN, HB⟩
  case round =>
    clear HL HB HN hx0 hx1 hx2 hx3 hx4
    obtain ⟨last, i, rfl, rfl, HL, HN, HB⟩ := hrel
    have hx0 := (HB.out.cell (World.block_lt_of_cell? _ _ X0.out)).trans X0.out
    have hx1 := (HB.out.cell (World.block_lt_of_cell? _ _ X1.out)).trans X1.out
    have hx2 := (HB.out.cell (World.block_lt_of_cell? _ _ X2.out)).trans X2.out
    have hx3 := (HB.out.cell (World.block_lt_of_cell? _ _ X3.out)).trans X3.out
    have hx4 := (HB.out.cell (World.block_lt_of_cell? _ _ X4.out)).trans X4.out
    cases gk with
    | zero => have := HL.out.1; rw [impl_isPart.l] at this; cases this
    | succ m =>
      have h := HL.out.1
      rw [impl_isPart.l, ← HX.out] at h
      by_cases c5 : i < (ps.length : Int)
      rotate_left
      · rw [if_neg c5] at h
        have c5b0 : decide (i < (ps.length : Int)) = false := decide_eq_false c5
        clear c5
        injection h with h
        subst h
        go_wp2
        go_ret
        exact ⟨by first | rfl | (simp; done), HB.out⟩
      rw [if_pos c5] at h
      have c5b0 : decide (i < (ps.length : Int)) = true := decide_eq_true c5
      have hi0 : (0 ≤ i) = True := eq_true HL.out.2.2
      have hi1 : (i < (ps.length : Int)) = True := eq_true c5
      have hi2 : wrap64 (i + 1) = i + 1 := by unfold wrap64; have := HL.out.2.2; have := HLEN.out; omega
      have hi3 : IntKind.i64.wrap (i + 1) = i + 1 := by rw [IntKind.wrap_i64]; have := HL.out.2.2; have := HLEN.out; omega
      obtain ⟨ad3, A3, c3, e3, hcl, hQC, hQ⟩ := at_L5 (Kd.N_reads' HN.out).2.2 i HL.out.2.2 c5
      cases e3
      obtain ⟨q, hq⟩ : ∃ q, q = rd_L5 ps i := ⟨_, rfl⟩
      rw [← hq] at h hcl hQC hQ
      by_cases c6 : 0 < (q.length : Int)
      rotate_left
      · rw [if_neg c6] at h; cases h
      rw [if_pos c6] at h
      obtain ⟨ad4, e4, hy0, _⟩ := at_T61 hQ 0 (Int.le_refl _) (by omega)
      cases e4
      simp only [Int.toNat_zero, Nat.zero_mul, add0_ad] at hy0
      obtain ⟨p, hp⟩ : ∃ p, p = rd_T61 q 0 := ⟨_, rfl⟩
      rw [← hp] at h hy0
      have q2 : ((0 : Int) < (q.length : Int)) = True := eq_true c6
      have q3 : (0 < q.length) = True := eq_true (by omega)
      have HP := Aside0.mk hQ
      have HQC := Aside0.mk hQC
      have HQ_ := Aside0.mk hq
      have HP_ := Aside0.mk hp
      clear c5 c6 hQ hQC hq hp
      obtain ⟨bad, hbad, h⟩ := Option.bind_eq_some_iff.mp h
      unfold impl_isPart.bad at hbad
      by_cases c7 : x.f1 = 7
      · rw [if_pos c7] at hbad
        have c7b0 : (x.f1 == 7) = true := beq_iff_eq.mpr c7
        have c7b1 : (x.f1 == 6) = false := beq_eq_false_iff_ne.mpr (by omega)
        clear c7
        obtain ⟨t, ht, hbad⟩ := Option.bind_eq_some_iff.mp hbad
        have HTX := Aside0.mk ht
        clear ht
        cases t with
        | false =>
          rw [if_neg (by decide)] at hbad
          injection hbad with hbad
          subst hbad
          rw [if_pos rfl] at h
          injection h with h
          subst h
          go_wp2_with (first | (go_at_call 104; refine (impl_isText.calls m p.f0 _ _ (Go.Proofs.YtkfbdopfeacnfaaDoor.TabsU.Tabs0.of_below TB.out HB.out) HTX.out).mono ?_; rintro e w4 ⟨rfl, hb⟩; have m0_ := Aside0.mk (below_step HB.out hb); have m1_ := Aside0.mk (Kd.N_below HN.out hb); have m2_ := Aside0.mk (Kd.C_below HP.out hb); clear hx0 hx1 hx2 hx3 hx4 hb; clear HB HN HP; (try clear hcl); have HB := m0_; have HN := m1_; have HP := m2_; clear m0_ m1_ m2_; have hx0 := (HB.out.cell (World.block_lt_of_cell? _ _ X0.out)).trans X0.out; have hx1 := (HB.out.cell (World.block_lt_of_cell? _ _ X1.out)).trans X1.out; have hx2 := (HB.out.cell (World.block_lt_of_cell? _ _ X2.out)).trans X2.out; have hx3 := (HB.out.cell (World.block_lt_of_cell? _ _ X3.out)).trans X3.out; have hx4 := (HB.out.cell (World.block_lt_of_cell? _ _ X4.out)).trans X4.out))
          go_ret
          exact ⟨by first | rfl | (simp; done), HB.out⟩
        | true =>
          rw [if_pos rfl] at hbad
          by_cases c8 : 0 < i
          · rw [if_pos c8] at hbad
            have c8b0 : decide (0 < i) = true := decide_eq_true c8
            clear c8
            obtain ⟨c, hc, hbad⟩ := Option.bind_eq_some_iff.mp hbad
            have HCM := Aside0.mk hc
            clear hc
            injection hbad with hbad
            cases bad with
            | true =>
              rw [if_pos rfl] at h
              injection h with h
              subst h
              go_wp2_with (first | (go_at_call 104; refine (impl_isText.calls m p.f0 _ _ (Go.Proofs.YtkfbdopfeacnfaaDoor.TabsU.Tabs0.of_below TB.out HB.out) HTX.out).mono ?_; rintro e w4 ⟨rfl, hb⟩; have m0_ := Aside0.mk (below_step HB.out hb); have m1_ := Aside0.mk (Kd.N_below HN.out hb); have m2_ := Aside0.mk (Kd.C_below HP.out hb); clear hx0 hx1 hx2 hx3 hx4 hb; clear HB HN HP; (try clear hcl); have HB := m0_; have HN := m1_; have HP := m2_; clear m0_ m1_ m2_; have hx0 := (HB.out.cell (World.block_lt_of_cell? _ _ X0.out)).trans X0.out; have hx1 := (HB.out.cell (World.block_lt_of_cell? _ _ X1.out)).trans X1.out; have hx2 := (HB.out.cell (World.block_lt_of_cell? _ _ X2.out)).trans X2.out; have hx3 := (HB.out.cell (World.block_lt_of_cell? _ _ X3.out)).trans X3.out; have hx4 := (HB.out.cell (World.block_lt_of_cell? _ _ X4.out)).trans X4.out) | (go_at_call 85; refine (impl_compareKeys.calls m last p.f0 _ _ (Go.Proofs.YtkfbdopfeacnfaaDoor.TabsU.Tabs0.of_below TB.out HB.out) HCM.out).mono ?_; rintro e w5 ⟨rfl, hb⟩; have m0_ := Aside0.mk (below_step HB.out hb); have m1_ := Aside0.mk (Kd.N_below HN.out hb); have m2_ := Aside0.mk (Kd.C_below HP.out hb); clear hx0 hx1 hx2 hx3 hx4 hb; clear HB HN HP; have HB := m0_; have HN := m1_; have HP := m2_; clear m0_ m1_ m2_; have hx0 := (HB.out.cell (World.block_lt_of_cell? _ _ X0.out)).trans X0.out; have hx1 := (HB.out.cell (World.block_lt_of_cell? _ _ X1.out)).trans X1.out; have hx2 := (HB.out.cell (World.block_lt_of_cell? _ _ X2.out)).trans X2.out; have hx3 := (HB.out.cell (World.block_lt_of_cell? _ _ X3.out)).trans X3.out; have hx4 := (HB.out.cell (World.block_lt_of_cell? _ _ X4.out)).trans X4.out))
              go_ret
              exact ⟨by first | rfl | (simp; done), HB.out⟩
            | false =>
              rw [if_neg (by decide)] at h
              obtain ⟨b, hself, h⟩ := Option.bind_eq_some_iff.mp h
              have HSELF := Aside0.mk (fun w_ h_ t_ => HIH.out m (by have := HL.out.2.1; omega) (some ad4) c3 q (wrap64 (dp + 1)) b w_ t_ h_ HQC.out hself)
              clear hself
              cases b with
              | false =>
                rw [if_neg (by decide)] at h
                injection h with h
                subst h
                go_wp2_with (first | (go_at_call 104; refine (impl_isText.calls m p.f0 _ _ (Go.Proofs.YtkfbdopfeacnfaaDoor.TabsU.Tabs0.of_below TB.out HB.out) HTX.out).mono ?_; rintro e w4 ⟨rfl, hb⟩; have m0_ := Aside0.mk (below_step HB.out hb); have m1_ := Aside0.mk (Kd.N_below HN.out hb); have m2_ := Aside0.mk (Kd.C_below HP.out hb); clear hx0 hx1 hx2 hx3 hx4 hb; clear HB HN HP; (try clear hcl); have HB := m0_; have HN := m1_; have HP := m2_; clear m0_ m1_ m2_; have hx0 := (HB.out.cell (World.block_lt_of_cell? _ _ X0.out)).trans X0.out; have hx1 := (HB.out.cell (World.block_lt_of_cell? _ _ X1.out)).trans X1.out; have hx2 := (HB.out.cell (World.block_lt_of_cell? _ _ X2.out)).trans X2.out; have hx3 := (HB.out.cell (World.block_lt_of_cell? _ _ X3.out)).trans X3.out; have hx4 := (HB.out.cell (World.block_lt_of_cell? _ _ X4.out)).trans X4.out) | (go_at_call 85; refine (impl_compareKeys.calls m last p.f0 _ _ (Go.Proofs.YtkfbdopfeacnfaaDoor.TabsU.Tabs0.of_below TB.out HB.out) HCM.out).mono ?_; rintro e w5 ⟨rfl, hb⟩; have m0_ := Aside0.mk (below_step HB.out hb); have m1_ := Aside0.mk (Kd.N_below HN.out hb); have m2_ := Aside0.mk (Kd.C_below HP.out hb); clear hx0 hx1 hx2 hx3 hx4 hb; clear HB HN HP; have HB := m0_; have HN := m1_; have HP := m2_; clear m0_ m1_ m2_; have hx0 := (HB.out.cell (World.block_lt_of_cell? _ _ X0.out)).trans X0.out; have hx1 := (HB.out.cell (World.block_lt_of_cell? _ _ X1.out)).trans X1.out; have hx2 := (HB.out.cell (World.block_lt_of_cell? _ _ X2.out)).trans X2.out; have hx3 := (HB.out.cell (World.block_lt_of_cell? _ _ X3.out)).trans X3.out; have hx4 := (HB.out.cell (World.block_lt_of_cell? _ _ X4.out)).trans X4.out) | ((with_reducible refine gate_callee (f := 72) rfl ?_); refine goesL_ (some 65) rfl rfl Tryd.func72 (by kernel_rfl) rfl #[.slice (some ad4) q.length c3, .int .i64 (wrap64 (dp + 1))] rfl (by (try simp only [List.map_toArray, List.map_cons, List.map_nil]); first | done | rfl) ?_; (refine (HSELF.out _ HP.out (Go.Proofs.YtkfbdopfeacnfaaDoor.TabsU.Tabs0.of_below TB.out HB.out)).mono ?_); rintro e w6 ⟨rfl, hb⟩; refine ⟨_, rfl, ?_⟩; have m0_ := Aside0.mk (below_step HB.out hb); have m1_ := Aside0.mk (Kd.N_below HN.out hb); have m2_ := Aside0.mk (Kd.C_below HP.out hb); clear hx0 hx1 hx2 hx3 hx4 hb; clear HB HN HP; have HB := m0_; have HN := m1_; have HP := m2_; clear m0_ m1_ m2_; have hx0 := (HB.out.cell (World.block_lt_of_cell? _ _ X0.out)).trans X0.out; have hx1 := (HB.out.cell (World.block_lt_of_cell? _ _ X1.out)).trans X1.out; have hx2 := (HB.out.cell (World.block_lt_of_cell? _ _ X2.out)).trans X2.out; have hx3 := (HB.out.cell (World.block_lt_of_cell? _ _ X3.out)).trans X3.out; have hx4 := (HB.out.cell (World.block_lt_of_cell? _ _ X4.out)).trans X4.out))
                go_ret
                exact ⟨by first | rfl | (simp; done), HB.out⟩
              | true =>
                rw [if_pos rfl] at h
                have HL2 := Aside0.mk (show impl_isPart.l m l dp ps p.f0 (i + 1) = some r ∧ m ≤ K ∧ 0 ≤ i + 1 from ⟨h, by have := HL.out.2.1; omega, by have := HL.out.2.2; omega⟩)
                clear h
                go_wp2_with (first | (go_at_call 104; refine (impl_isText.calls m p.f0 _ _ (Go.Proofs.YtkfbdopfeacnfaaDoor.TabsU.Tabs0.of_below TB.out HB.out) HTX.out).mono ?_; rintro e w4 ⟨rfl, hb⟩; have m0_ := Aside0.mk (below_step HB.out hb); have m1_ := Aside0.mk (Kd.N_below HN.out hb); have m2_ := Aside0.mk (Kd.C_below HP.out hb); clear hx0 hx1 hx2 hx3 hx4 hb; clear HB HN HP; (try clear hcl); have HB := m0_; have HN := m1_; have HP := m2_; clear m0_ m1_ m2_; have hx0 := (HB.out.cell (World.block_lt_of_cell? _ _ X0.out)).trans X0.out; have hx1 := (HB.out.cell (World.block_lt_of_cell? _ _ X1.out)).trans X1.out; have hx2 := (HB.out.cell (World.block_lt_of_cell? _ _ X2.out)).trans X2.out; have hx3 := (HB.out.cell (World.block_lt_of_cell? _ _ X3.out)).trans X3.out; have hx4 := (HB.out.cell (World.block_lt_of_cell? _ _ X4.out)).trans X4.out) | (go_at_call 85; refine (impl_compareKeys.calls m last p.f0 _ _ (Go.Proofs.YtkfbdopfeacnfaaDoor.TabsU.Tabs0.of_below TB.out HB.out) HCM.out).mono ?_; rintro e w5 ⟨rfl, hb⟩; have m0_ := Aside0.mk (below_step HB.out hb); have m1_ := Aside0.mk (Kd.N_below HN.out hb); have m2_ := Aside0.mk (Kd.C_below HP.out hb); clear hx0 hx1 hx2 hx3 hx4 hb; clear HB HN HP; have HB := m0_; have HN := m1_; have HP := m2_; clear m0_ m1_ m2_; have hx0 := (HB.out.cell (World.block_lt_of_cell? _ _ X0.out)).trans X0.out; have hx1 := (HB.out.cell (World.block_lt_of_cell? _ _ X1.out)).trans X1.out; have hx2 := (HB.out.cell (World.block_lt_of_cell? _ _ X2.out)).trans X2.out; have hx3 := (HB.out.cell (World.block_lt_of_cell? _ _ X3.out)).trans X3.out; have hx4 := (HB.out.cell (World.block_lt_of_cell? _ _ X4.out)).trans X4.out) | ((with_reducible refine gate_callee (f := 72) rfl ?_); refine goesL_ (some 65) rfl rfl Tryd.func72 (by kernel_rfl) rfl #[.slice (some ad4) q.length c3, .int .i64 (wrap64 (dp + 1))] rfl (by (try simp only [List.map_toArray, List.map_cons, List.map_nil]); first | done | rfl) ?_; (refine (HSELF.out _ HP.out (Go.Proofs.YtkfbdopfeacnfaaDoor.TabsU.Tabs0.of_below TB.out HB.out)).mono ?_); rintro e w6 ⟨rfl, hb⟩; refine ⟨_, rfl, ?_⟩; have m0_ := Aside0.mk (below_step HB.out hb); have m1_ := Aside0.mk (Kd.N_below HN.out hb); have m2_ := Aside0.mk (Kd.C_below HP.out hb); clear hx0 hx1 hx2 hx3 hx4 hb; clear HB HN HP; have HB := m0_; have HN := m1_; have HP := m2_; clear m0_ m1_ m2_; have hx0 := (HB.out.cell (World.block_lt_of_cell? _ _ X0.out)).trans X0.out; have hx1 := (HB.out.cell (World.block_lt_of_cell? _ _ X1.out)).trans X1.out; have hx2 := (HB.out.cell (World.block_lt_of_cell? _ _ X2.out)).trans X2.out; have hx3 := (HB.out.cell (World.block_lt_of_cell? _ _ X3.out)).trans X3.out; have hx4 := (HB.out.cell (World.block_lt_of_cell? _ _ X4.out)).trans X4.out))
                go_roundg m
                case measure => have := HL2.out.2.1; omega
                case rel => exact ⟨p.f0, i + 1, by first | rfl | (simp; done), by first | rfl | (rw [hi2]; done) | (rw [hi3]; done), HL2, HN, HB⟩
          · rw [if_neg c8] at hbad
            have c8b0 : decide (0 < i) = false := decide_eq_false c8
            clear c8
            injection hbad with hbad
            subst hbad
            rw [if_neg (by decide)] at h
            obtain ⟨b, hself, h⟩ := Option.bind_eq_some_iff.mp h
            have HSELF := Aside0.mk (fun w_ h_ t_ => HIH.out m (by have := HL.out.2.1; omega) (some ad4) c3 q (wrap64 (dp + 1)) b w_ t_ h_ HQC.out hself)
            clear hself
            cases b with
            | false =>
              rw [if_neg (by decide)] at h
              injection h with h
              subst h
              go_wp2_with (first | (go_at_call 104; refine (impl_isText.calls m p.f0 _ _ (Go.Proofs.YtkfbdopfeacnfaaDoor.TabsU.Tabs0.of_below TB.out HB.out) HTX.out).mono ?_; rintro e w4 ⟨rfl, hb⟩; have m0_ := Aside0.mk (below_step HB.out hb); have m1_ := Aside0.mk (Kd.N_below HN.out hb); have m2_ := Aside0.mk (Kd.C_below HP.out hb); clear hx0 hx1 hx2 hx3 hx4 hb; clear HB HN HP; (try clear hcl); have HB := m0_; have HN := m1_; have HP := m2_; clear m0_ m1_ m2_; have hx0 := (HB.out.cell (World.block_lt_of_cell? _ _ X0.out)).trans X0.out; have hx1 := (HB.out.cell (World.block_lt_of_cell? _ _ X1.out)).trans X1.out; have hx2 := (HB.out.cell (World.block_lt_of_cell? _ _ X2.out)).trans X2.out; have hx3 := (HB.out.cell (World.block_lt_of_cell? _ _ X3.out)).trans X3.out; have hx4 := (HB.out.cell (World.block_lt_of_cell? _ _ X4.out)).trans X4.out) | ((with_reducible refine gate_callee (f := 72) rfl ?_); refine goesL_ (some 65) rfl rfl Tryd.func72 (by kernel_rfl) rfl #[.slice (some ad4) q.length c3, .int .i64 (wrap64 (dp + 1))] rfl (by (try simp only [List.map_toArray, List.map_cons, List.map_nil]); first | done | rfl) ?_; (refine (HSELF.out _ HP.out (Go.Proofs.YtkfbdopfeacnfaaDoor.TabsU.Tabs0.of_below TB.out HB.out)).mono ?_); rintro e w6 ⟨rfl, hb⟩; refine ⟨_, rfl, ?_⟩; have m0_ := Aside0.mk (below_step HB.out hb); have m1_ := Aside0.mk (Kd.N_below HN.out hb); have m2_ := Aside0.mk (Kd.C_below HP.out hb); clear hx0 hx1 hx2 hx3 hx4 hb; clear HB HN HP; have HB := m0_; have HN := m1_; have HP := m2_; clear m0_ m1_ m2_; have hx0 := (HB.out.cell (World.block_lt_of_cell? _ _ X0.out)).trans X0.out; have hx1 := (HB.out.cell (World.block_lt_of_cell? _ _ X1.out)).trans X1.out; have hx2 := (HB.out.cell (World.block_lt_of_cell? _ _ X2.out)).trans X2.out; have hx3 := (HB.out.cell (World.block_lt_of_cell? _ _ X3.out)).trans X3.out; have hx4 := (HB.out.cell (World.block_lt_of_cell? _ _ X4.out)).trans X4.out))
              go_ret
              exact ⟨by first | rfl | (simp; done), HB.out⟩
            | true =>
              rw [if_pos rfl] at h
              have HL2 := Aside0.mk (show impl_isPart.l m l dp ps p.f0 (i + 1) = some r ∧ m ≤ K ∧ 0 ≤ i + 1 from ⟨h, by have := HL.out.2.1; omega, by have := HL.out.2.2; omega⟩)
              clear h
              go_wp2_with (first | (go_at_call 104; refine (impl_isText.calls m p.f0 _ _ (Go.Proofs.YtkfbdopfeacnfaaDoor.TabsU.Tabs0.of_below TB.out HB.out) HTX.out).mono ?_; rintro e w4 ⟨rfl, hb⟩; have m0_ := Aside0.mk (below_step HB.out hb); have m1_ := Aside0.mk (Kd.N_below HN.out hb); have m2_ := Aside0.mk (Kd.C_below HP.out hb); clear hx0 hx1 hx2 hx3 hx4 hb; clear HB HN HP; (try clear hcl); have HB := m0_; have HN := m1_; have HP := m2_; clear m0_ m1_ m2_; have hx0 := (HB.out.cell (World.block_lt_of_cell? _ _ X0.out)).trans X0.out; have hx1 := (HB.out.cell (World.block_lt_of_cell? _ _ X1.out)).trans X1.out; have hx2 := (HB.out.cell (World.block_lt_of_cell? _ _ X2.out)).trans X2.out; have hx3 := (HB.out.cell (World.block_lt_of_cell? _ _ X3.out)).trans X3.out; have hx4 := (HB.out.cell (World.block_lt_of_cell? _ _ X4.out)).trans X4.out) | ((with_reducible refine gate_callee (f := 72) rfl ?_); refine goesL_ (some 65) rfl rfl Tryd.func72 (by kernel_rfl) rfl #[.slice (some ad4) q.length c3, .int .i64 (wrap64 (dp + 1))] rfl (by (try simp only [List.map_toArray, List.map_cons, List.map_nil]); first | done | rfl) ?_; (refine (HSELF.out _ HP.out (Go.Proofs.YtkfbdopfeacnfaaDoor.TabsU.Tabs0.of_below TB.out HB.out)).mono ?_); rintro e w6 ⟨rfl, hb⟩; refine ⟨_, rfl, ?_⟩; have m0_ := Aside0.mk (below_step HB.out hb); have m1_ := Aside0.mk (Kd.N_below HN.out hb); have m2_ := Aside0.mk (Kd.C_below HP.out hb); clear hx0 hx1 hx2 hx3 hx4 hb; clear HB HN HP; have HB := m0_; have HN := m1_; have HP := m2_; clear m0_ m1_ m2_; have hx0 := (HB.out.cell (World.block_lt_of_cell? _ _ X0.out)).trans X0.out; have hx1 := (HB.out.cell (World.block_lt_of_cell? _ _ X1.out)).trans X1.out; have hx2 := (HB.out.cell (World.block_lt_of_cell? _ _ X2.out)).trans X2.out; have hx3 := (HB.out.cell (World.block_lt_of_cell? _ _ X3.out)).trans X3.out; have hx4 := (HB.out.cell (World.block_lt_of_cell? _ _ X4.out)).trans X4.out))
              go_roundg m
              case measure => have := HL2.out.2.1; omega
              case rel => exact ⟨p.f0, i + 1, by first | rfl | (simp; done), by first | rfl | (rw [hi2]; done) | (rw [hi3]; done), HL2, HN, HB⟩
      · rw [if_neg c7] at hbad
        have c7b0 : (x.f1 == 7) = false := beq_eq_false_iff_ne.mpr c7
        clear c7
        by_cases c8 : x.f1 = 6
        · rw [if_pos c8] at hbad
          have c8b0 : (x.f1 == 6) = true := beq_iff_eq.mpr c8
          clear c8
          injection hbad with hbad
          cases c9 : p.f0.toList.isEmpty with
          | true =>
            have hb1 : bad = false := by rw [← hbad, c9]; rfl
            have c9b0 : (p.f0.toList == ([] : List UInt8)) = true := by rw [← c9]; cases p.f0.toList <;> rfl
            have c9b1 : (p.f0.toList != ([] : List UInt8)) = false := by simp only [bne, c9b0]; rfl
            clear hbad
            subst hb1
            rw [if_neg (by decide)] at h
            obtain ⟨b, hself, h⟩ := Option.bind_eq_some_iff.mp h
            have HSELF := Aside0.mk (fun w_ h_ t_ => HIH.out m (by have := HL.out.2.1; omega) (some ad4) c3 q (wrap64 (dp + 1)) b w_ t_ h_ HQC.out hself)
            clear hself
            cases b with
            | false =>
              rw [if_neg (by decide)] at h
              injection h with h
              subst h
              go_wp2_with (first | ((with_reducible refine gate_callee (f := 72) rfl ?_); refine goesL_ (some 65) rfl rfl Tryd.func72 (by kernel_rfl) rfl #[.slice (some ad4) q.length c3, .int .i64 (wrap64 (dp + 1))] rfl (by (try simp only [List.map_toArray, List.map_cons, List.map_nil]); first | done | rfl) ?_; (refine (HSELF.out _ HP.out (Go.Proofs.YtkfbdopfeacnfaaDoor.TabsU.Tabs0.of_below TB.out HB.out)).mono ?_); rintro e w6 ⟨rfl, hb⟩; refine ⟨_, rfl, ?_⟩; have m0_ := Aside0.mk (below_step HB.out hb); have m1_ := Aside0.mk (Kd.N_below HN.out hb); have m2_ := Aside0.mk (Kd.C_below HP.out hb); clear hx0 hx1 hx2 hx3 hx4 hb; clear HB HN HP; have HB := m0_; have HN := m1_; have HP := m2_; clear m0_ m1_ m2_; have hx0 := (HB.out.cell (World.block_lt_of_cell? _ _ X0.out)).trans X0.out; have hx1 := (HB.out.cell (World.block_lt_of_cell? _ _ X1.out)).trans X1.out; have hx2 := (HB.out.cell (World.block_lt_of_cell? _ _ X2.out)).trans X2.out; have hx3 := (HB.out.cell (World.block_lt_of_cell? _ _ X3.out)).trans X3.out; have hx4 := (HB.out.cell (World.block_lt_of_cell? _ _ X4.out)).trans X4.out))
              go_ret
              exact ⟨by first | rfl | (simp; done), HB.out⟩
            | true =>
              rw [if_pos rfl] at h
              have HL2 := Aside0.mk (show impl_isPart.l m l dp ps p.f0 (i + 1) = some r ∧ m ≤ K ∧ 0 ≤ i + 1 from ⟨h, by have := HL.out.2.1; omega, by have := HL.out.2.2; omega⟩)
              clear h
              go_wp2_with (first | ((with_reducible refine gate_callee (f := 72) rfl ?_); refine goesL_ (some 65) rfl rfl Tryd.func72 (by kernel_rfl) rfl #[.slice (some ad4) q.length c3, .int .i64 (wrap64 (dp + 1))] rfl (by (try simp only [List.map_toArray, List.map_cons, List.map_nil]); first | done | rfl) ?_; (refine (HSELF.out _ HP.out (Go.Proofs.YtkfbdopfeacnfaaDoor.TabsU.Tabs0.of_below TB.out HB.out)).mono ?_); rintro e w6 ⟨rfl, hb⟩; refine ⟨_, rfl, ?_⟩; have m0_ := Aside0.mk (below_step HB.out hb); have m1_ := Aside0.mk (Kd.N_below HN.out hb); have m2_ := Aside0.mk (Kd.C_below HP.out hb); clear hx0 hx1 hx2 hx3 hx4 hb; clear HB HN HP; have HB := m0_; have HN := m1_; have HP := m2_; clear m0_ m1_ m2_; have hx0 := (HB.out.cell (World.block_lt_of_cell? _ _ X0.out)).trans X0.out; have hx1 := (HB.out.cell (World.block_lt_of_cell? _ _ X1.out)).trans X1.out; have hx2 := (HB.out.cell (World.block_lt_of_cell? _ _ X2.out)).trans X2.out; have hx3 := (HB.out.cell (World.block_lt_of_cell? _ _ X3.out)).trans X3.out; have hx4 := (HB.out.cell (World.block_lt_of_cell? _ _ X4.out)).trans X4.out))
              go_roundg m
              case measure => have := HL2.out.2.1; omega
              case rel => exact ⟨p.f0, i + 1, by first | rfl | (simp; done), by first | rfl | (rw [hi2]; done) | (rw [hi3]; done), HL2, HN, HB⟩
          | false =>
            have hb1 : bad = true := by rw [← hbad, c9]; rfl
            have c9b0 : (p.f0.toList == ([] : List UInt8)) = false := by rw [← c9]; cases p.f0.toList <;> rfl
            have c9b1 : (p.f0.toList != ([] : List UInt8)) = true := by simp only [bne, c9b0]; rfl
            clear hbad
            subst hb1
            rw [if_pos rfl] at h
            injection h with h
            subst h
            go_wp2
            go_ret
            exact ⟨by first | rfl | (simp; done), HB.out⟩
        · rw [if_neg c8] at hbad
          have c8b0 : (x.f1 == 6) = false := beq_eq_false_iff_ne.mpr c8
          clear c8
          injection hbad with hbad
          subst hbad
          rw [if_neg (by decide)] at h
          obtain ⟨b, hself, h⟩ := Option.bind_eq_some_iff.mp h
          have HSELF := Aside0.mk (fun w_ h_ t_ => HIH.out m (by have := HL.out.2.1; omega) (some ad4) c3 q (wrap64 (dp + 1)) b w_ t_ h_ HQC.out hself)
          clear hself
          cases b with
          | false =>
            rw [if_neg (by decide)] at h
            injection h with h
            subst h
            go_wp2_with (first | ((with_reducible refine gate_callee (f := 72) rfl ?_); refine goesL_ (some 65) rfl rfl Tryd.func72 (by kernel_rfl) rfl #[.slice (some ad4) q.length c3, .int .i64 (wrap64 (dp + 1))] rfl (by (try simp only [List.map_toArray, List.map_cons, List.map_nil]); first | done | rfl) ?_; (refine (HSELF.out _ HP.out (Go.Proofs.YtkfbdopfeacnfaaDoor.TabsU.Tabs0.of_below TB.out HB.out)).mono ?_); rintro e w6 ⟨rfl, hb⟩; refine ⟨_, rfl, ?_⟩; have m0_ := Aside0.mk (below_step HB.out hb); have m1_ := Aside0.mk (Kd.N_below HN.out hb); have m2_ := Aside0.mk (Kd.C_below HP.out hb); clear hx0 hx1 hx2 hx3 hx4 hb; clear HB HN HP; have HB := m0_; have HN := m1_; have HP := m2_; clear m0_ m1_ m2_; have hx0 := (HB.out.cell (World.block_lt_of_cell? _ _ X0.out)).trans X0.out; have hx1 := (HB.out.cell (World.block_lt_of_cell? _ _ X1.out)).trans X1.out; have hx2 := (HB.out.cell (World.block_lt_of_cell? _ _ X2.out)).trans X2.out; have hx3 := (HB.out.cell (World.block_lt_of_cell? _ _ X3.out)).trans X3.out; have hx4 := (HB.out.cell (World.block_lt_of_cell? _ _ X4.out)).trans X4.out))
            go_ret
            exact ⟨by first | rfl | (simp; done), HB.out⟩
          | true =>
            rw [if_pos rfl] at h
            have HL2 := Aside0.mk (show impl_isPart.l m l dp ps p.f0 (i + 1) = some r ∧ m ≤ K ∧ 0 ≤ i + 1 from ⟨h, by have := HL.out.2.1; omega, by have := HL.out.2.2; omega⟩)
            clear h
            go_wp2_with (first | ((with_reducible refine gate_callee (f := 72) rfl ?_); refine goesL_ (some 65) rfl rfl Tryd.func72 (by kernel_rfl) rfl #[.slice (some ad4) q.length c3, .int .i64 (wrap64 (dp + 1))] rfl (by (try simp only [List.map_toArray, List.map_cons, List.map_nil]); first | done | rfl) ?_; (refine (HSELF.out _ HP.out (Go.Proofs.YtkfbdopfeacnfaaDoor.TabsU.Tabs0.of_below TB.out HB.out)).mono ?_); rintro e w6 ⟨rfl, hb⟩; refine ⟨_, rfl, ?_⟩; have m0_ := Aside0.mk (below_step HB.out hb); have m1_ := Aside0.mk (Kd.N_below HN.out hb); have m2_ := Aside0.mk (Kd.C_below HP.out hb); clear hx0 hx1 hx2 hx3 hx4 hb; clear HB HN HP; have HB := m0_; have HN := m1_; have HP := m2_; clear m0_ m1_ m2_; have hx0 := (HB.out.cell (World.block_lt_of_cell? _ _ X0.out)).trans X0.out; have hx1 := (HB.out.cell (World.block_lt_of_cell? _ _ X1.out)).trans X1.out; have hx2 := (HB.out.cell (World.block_lt_of_cell? _ _ X2.out)).trans X2.out; have hx3 := (HB.out.cell (World.block_lt_of_cell? _ _ X3.out)).trans X3.out; have hx4 := (HB.out.cell (World.block_lt_of_cell? _ _ X4.out)).trans X4.out))
            go_roundg m
            case measure => have := HL2.out.2.1; omega
            case rel => exact ⟨p.f0, i + 1, by first | rfl | (simp; done), by first | rfl | (rw [hi2]; done) | (rw [hi3]; done), HL2, HN, HB⟩

/-! ### impl_isValue: function 41 -/
def impl_isValue.f (k : Nat) (l0 : List (S61)) : Option (Bool) := (impl_within.f (l0.length : Int) 1 40).bind fun t281 => (if t281 = true then ((impl_sizeOf.f k l0).bind fun t282 => (if t282 = (l0.length : Int) then (if 0 < (l0.length : Int) then (if ((rd_T61 l0 0).f0).toList = ([] : List UInt8) then ((impl_isPart.f k l0 1).bind fun t284 => (some t284)) else (some false)) else (none)) else (some false))) else (some false))
theorem impl_isValue.mono : ∀ a0 k, LeO (impl_isValue.f k a0) (impl_isValue.f (k + 1) a0) := by
  intro a0 k
  unfold impl_isValue.f
  repeat' first
      | (with_reducible exact impl_isPart.mono _ _ _)
      | (with_reducible exact impl_sizeOf.mono _ _)
      | (with_reducible exact LeO.refl _)
      | (with_reducible exact LeO.none _)
      | (with_reducible refine LeO.ite ?_ ?_)
      | (with_reducible refine LeO.bind ?_ (fun _ => ?_))
      | exact impl_isPart.mono _ _ _
      | exact impl_sizeOf.mono _ _
      | exact LeO.none _
      | refine LeO.ite ?_ ?_
      | refine LeO.bind ?_ (fun _ => ?_)
set_option maxHeartbeats 8000000 in
set_option maxRecDepth 100000 in
theorem impl_isValue.calls (k : Nat) (A0 : Option Addr) (c0 : Nat) (l0 : List (S61)) (r : Bool) (w : World) (tb : Go.Proofs.YtkfbdopfeacnfaaDoor.TabsU.Tabs0 w) (hr0 : Kd.C k61 w A0 l0.length l0) (hc0 : l0.length ≤ c0) (h : impl_isValue.f k l0 = some r) :
    Calls Tryd.prog 41 #[.slice A0 l0.length c0] w fun e w' => e = .returned (.bool r) ∧ Below w.heap.size w w' := by
  have TB := Aside0.mk tb
  clear tb
  have HR0 := Aside0.mk hr0
  have HC0 := Aside0.mk hc0
  clear hr0 hc0
  have HB := Aside0.mk (Below.refl w.heap.size w)
  have H : ((impl_within.f (l0.length : Int) 1 40).bind fun t281 => (if t281 = true then ((impl_sizeOf.f k l0).bind fun t282 => (if t282 = (l0.length : Int) then (if 0 < (l0.length : Int) then (if ((rd_T61 l0 0).f0).toList = ([] : List UInt8) then ((impl_isPart.f k l0 1).bind fun t284 => (some t284)) else (some false)) else (none)) else (some false))) else (some false))) = some r := h
  clear h
  replace H := Option.bind_eq_some_iff.mp H
  obtain ⟨t281, A20, H⟩ := H
  replace H : (if t281 = true then ((impl_sizeOf.f k l0).bind fun t282 => (if t282 = (l0.length : Int) then (if 0 < (l0.length : Int) then (if ((rd_T61 l0 0).f0).toList = ([] : List UInt8) then ((impl_isPart.f k l0 1).bind fun t284 => (some t284)) else (some false)) else (none)) else (some false))) else (some false)) = some r := H
  have A2 := Aside0.mk A20
  clear A20
  by_cases c3 : t281 = true
  · subst c3
    have H1 : ((impl_sizeOf.f k l0).bind fun t282 => (if t282 = (l0.length : Int) then (if 0 < (l0.length : Int) then (if ((rd_T61 l0 0).f0).toList = ([] : List UInt8) then ((impl_isPart.f k l0 1).bind fun t284 => (some t284)) else (some false)) else (none)) else (some false))) = some r := by rw [if_pos rfl] at H; exact H
    clear H
    have H := H1
    clear H1
    replace H := Option.bind_eq_some_iff.mp H
    obtain ⟨t282, A40, H⟩ := H
    replace H : (if t282 = (l0.length : Int) then (if 0 < (l0.length : Int) then (if ((rd_T61 l0 0).f0).toList = ([] : List UInt8) then ((impl_isPart.f k l0 1).bind fun t284 => (some t284)) else (some false)) else (none)) else (some false)) = some r := H
    have A4 := Aside0.mk A40
    clear A40
    by_cases c5 : t282 = (l0.length : Int)
    · rw [if_pos c5] at H
      have c5b0 : (t282 == (l0.length : Int)) = true := beq_iff_eq.mpr c5
      have c5b1 : (t282 != (l0.length : Int)) = false := bne_eq_false_iff_eq.mpr c5
      clear c5
      by_cases c6 : 0 < (l0.length : Int)
      · rw [if_pos c6] at H
        have c6b0 : decide (0 < (l0.length : Int)) = true := decide_eq_true c6
        have c6b1 : decide (0 < l0.length) = true := decide_eq_true (by omega)
        clear c6
        by_cases c7 : ((rd_T61 l0 0).f0).toList = ([] : List UInt8)
        · rw [if_pos c7] at H
          have c7b0 : (((rd_T61 l0 0).f0).toList == ([] : List UInt8)) = true := beq_iff_eq.mpr c7
          have c7b1 : (((rd_T61 l0 0).f0).toList != ([] : List UInt8)) = false := bne_eq_false_iff_eq.mpr c7
          clear c7
          replace H := Option.bind_eq_some_iff.mp H
          obtain ⟨t284, A80, H⟩ := H
          replace H : (some t284) = some r := H
          have A8 := Aside0.mk A80
          clear A80
          obtain rfl := Option.some.inj H
          go_enter Tryd.func41, Tryd.ntmps41
          go_wp2_with (first | ((with_reducible refine gate_callee (f := 70) rfl ?_); refine goesL_ (some 5) rfl rfl Tryd.func70 (by kernel_rfl) rfl #[.int .i64 (l0.length : Int), .int .i64 1, .int .i64 40] rfl (by (try simp only [List.map_toArray, List.map_cons, List.map_nil]); first | done | rfl | (simp only [List.length_drop, List.length_take]; rfl)) ?_; (with_reducible refine (impl_within.calls (l0.length : Int) 1 40 true _ A2.out).mono ?_); rintro e w' ⟨rfl, ⟨nd, rfl⟩⟩; refine ⟨_, rfl, ?_⟩) | (go_at_call 71; (with_reducible refine (impl_sizeOf.calls k _ _ l0 t282 _ ?side1 ?side2 A4.out).mono ?_); (case side1 => repeat (first | exact HR0.out | (with_reducible refine Kd.C_alloc ?_ _) | (with_reducible refine Kd.C_drewN ?_ _) | (with_reducible refine Kd.C_drew ?_))); (case side2 => exact HC0.out); rintro e w9 ⟨rfl, hb⟩; have n0_ := Aside0.mk (below_step (by repeat (first | (with_reducible first | exact HB.out | apply below_alloc | apply pw_below_drewN | apply below_drew1) | exact HB.out)) hb); clear HB; have HB := n0_; clear n0_; (try clear hb); (try clear hb2); (try clear hk); (try clear hi); have p283 : 0 ≤ (0 : Int) := (by omega); have q283 : 0 < (l0.length : Int) := of_decide_eq_true (by first | (with_reducible assumption) | assumption); obtain ⟨ad283, e283, hx283_0, hx283_1, hx283_2, hx283_3, hx283_4⟩ := at_T61 HR0.out 0 p283 q283; cases e283; have qi283 : (0 < l0.length) = True := eq_true (by omega); (try rw [show ((0 : Int)).toNat = 0 from rfl] at hx283_0); (try rw [show 0 * 5 = 0 from rfl] at hx283_0); (try rw [Addr.add_zero'] at hx283_0); (try rw [show ((0 : Int)).toNat = 0 from rfl] at hx283_1); (try rw [show 0 * 5 = 0 from rfl] at hx283_1); (try rw [Addr.add_zero'] at hx283_1); (try rw [show ((0 : Int)).toNat = 0 from rfl] at hx283_2); (try rw [show 0 * 5 = 0 from rfl] at hx283_2); (try rw [Addr.add_zero'] at hx283_2); (try rw [show ((0 : Int)).toNat = 0 from rfl] at hx283_3); (try rw [show 0 * 5 = 0 from rfl] at hx283_3); (try rw [Addr.add_zero'] at hx283_3); (try rw [show ((0 : Int)).toNat = 0 from rfl] at hx283_4); (try rw [show 0 * 5 = 0 from rfl] at hx283_4); (try rw [Addr.add_zero'] at hx283_4); replace hx283_0 := (HB.out.cell (World.block_lt_of_cell? w _ hx283_0)).trans hx283_0; replace hx283_1 := (HB.out.cell (World.block_lt_of_cell? w _ hx283_1)).trans hx283_1; replace hx283_2 := (HB.out.cell (World.block_lt_of_cell? w _ hx283_2)).trans hx283_2; replace hx283_3 := (HB.out.cell (World.block_lt_of_cell? w _ hx283_3)).trans hx283_3; replace hx283_4 := (HB.out.cell (World.block_lt_of_cell? w _ hx283_4)).trans hx283_4; replace p283 := eq_true p283; replace q283 := eq_true q283) | (go_at_call 72; (with_reducible refine (impl_isPart.calls k _ _ l0 1 t284 _ ?side1 ?side2 ?side3 A8.out).mono ?_); (case side1 => exact Go.Proofs.YtkfbdopfeacnfaaDoor.TabsU.Tabs0.of_below TB.out (by repeat (first | (with_reducible first | exact HB.out | apply below_alloc | apply pw_below_drewN | apply below_drew1) | exact HB.out))); (case side2 => repeat (first | exact (Kd.C_below HR0.out HB.out) | (with_reducible refine Kd.C_alloc ?_ _) | (with_reducible refine Kd.C_drewN ?_ _) | (with_reducible refine Kd.C_drew ?_))); (case side3 => exact HC0.out); rintro e w10 ⟨rfl, hb⟩; have n0_ := Aside0.mk (below_step (by repeat (first | (with_reducible first | exact HB.out | apply below_alloc | apply pw_below_drewN | apply below_drew1) | exact HB.out)) hb); clear HB; have HB := n0_; clear n0_; (try clear hb); (try clear hb2); (try clear hk); (try clear hi)))
          go_ret
          exact ⟨by first | rfl | (simp [errW_none, errW_some] <;> rfl) | (simp [*, errW_none, errW_some] <;> rfl), by repeat (first | (with_reducible first | exact HB.out | apply below_alloc | apply pw_below_drewN | apply below_drew1) | exact HB.out)⟩
        · rw [if_neg c7] at H
          have c7b0 : (((rd_T61 l0 0).f0).toList == ([] : List UInt8)) = false := beq_eq_false_iff_ne.mpr c7
          have c7b1 : (((rd_T61 l0 0).f0).toList != ([] : List UInt8)) = true := bne_iff_ne.mpr c7
          obtain rfl := Option.some.inj H
          go_enter Tryd.func41, Tryd.ntmps41
          go_wp2_with (first | ((with_reducible refine gate_callee (f := 70) rfl ?_); refine goesL_ (some 5) rfl rfl Tryd.func70 (by kernel_rfl) rfl #[.int .i64 (l0.length : Int), .int .i64 1, .int .i64 40] rfl (by (try simp only [List.map_toArray, List.map_cons, List.map_nil]); first | done | rfl | (simp only [List.length_drop, List.length_take]; rfl)) ?_; (with_reducible refine (impl_within.calls (l0.length : Int) 1 40 true _ A2.out).mono ?_); rintro e w' ⟨rfl, ⟨nd, rfl⟩⟩; refine ⟨_, rfl, ?_⟩) | (go_at_call 71; (with_reducible refine (impl_sizeOf.calls k _ _ l0 t282 _ ?side1 ?side2 A4.out).mono ?_); (case side1 => repeat (first | exact HR0.out | (with_reducible refine Kd.C_alloc ?_ _) | (with_reducible refine Kd.C_drewN ?_ _) | (with_reducible refine Kd.C_drew ?_))); (case side2 => exact HC0.out); rintro e w11 ⟨rfl, hb⟩; have n0_ := Aside0.mk (below_step (by repeat (first | (with_reducible first | exact HB.out | apply below_alloc | apply pw_below_drewN | apply below_drew1) | exact HB.out)) hb); clear HB; have HB := n0_; clear n0_; (try clear hb); (try clear hb2); (try clear hk); (try clear hi); have p283 : 0 ≤ (0 : Int) := (by omega); have q283 : 0 < (l0.length : Int) := of_decide_eq_true (by first | (with_reducible assumption) | assumption); obtain ⟨ad283, e283, hx283_0, hx283_1, hx283_2, hx283_3, hx283_4⟩ := at_T61 HR0.out 0 p283 q283; cases e283; have qi283 : (0 < l0.length) = True := eq_true (by omega); (try rw [show ((0 : Int)).toNat = 0 from rfl] at hx283_0); (try rw [show 0 * 5 = 0 from rfl] at hx283_0); (try rw [Addr.add_zero'] at hx283_0); (try rw [show ((0 : Int)).toNat = 0 from rfl] at hx283_1); (try rw [show 0 * 5 = 0 from rfl] at hx283_1); (try rw [Addr.add_zero'] at hx283_1); (try rw [show ((0 : Int)).toNat = 0 from rfl] at hx283_2); (try rw [show 0 * 5 = 0 from rfl] at hx283_2); (try rw [Addr.add_zero'] at hx283_2); (try rw [show ((0 : Int)).toNat = 0 from rfl] at hx283_3); (try rw [show 0 * 5 = 0 from rfl] at hx283_3); (try rw [Addr.add_zero'] at hx283_3); (try rw [show ((0 : Int)).toNat = 0 from rfl] at hx283_4); (try rw [show 0 * 5 = 0 from rfl] at hx283_4); (try rw [Addr.add_zero'] at hx283_4); replace hx283_0 := (HB.out.cell (World.block_lt_of_cell? w _ hx283_0)).trans hx283_0; replace hx283_1 := (HB.out.cell (World.block_lt_of_cell? w _ hx283_1)).trans hx283_1; replace hx283_2 := (HB.out.cell (World.block_lt_of_cell? w _ hx283_2)).trans hx283_2; replace hx283_3 := (HB.out.cell (World.block_lt_of_cell? w _ hx283_3)).trans hx283_3; replace hx283_4 := (HB.out.cell (World.block_lt_of_cell? w _ hx283_4)).trans hx283_4; replace p283 := eq_true p283; replace q283 := eq_true q283))
          go_ret
          exact ⟨by first | rfl | (simp [errW_none, errW_some] <;> rfl) | (simp [*, errW_none, errW_some] <;> rfl), by repeat (first | (with_reducible first | exact HB.out | apply below_alloc | apply pw_below_drewN | apply below_drew1) | exact HB.out)⟩
      · rw [if_neg c6] at H
        exact absurd H (by simp)
    · rw [if_neg c5] at H
      have c5b0 : (t282 == (l0.length : Int)) = false := beq_eq_false_iff_ne.mpr c5
      have c5b1 : (t282 != (l0.length : Int)) = true := bne_iff_ne.mpr c5
      obtain rfl := Option.some.inj H
      go_enter Tryd.func41, Tryd.ntmps41
      go_wp2_with (first | ((with_reducible refine gate_callee (f := 70) rfl ?_); refine goesL_ (some 5) rfl rfl Tryd.func70 (by kernel_rfl) rfl #[.int .i64 (l0.length : Int), .int .i64 1, .int .i64 40] rfl (by (try simp only [List.map_toArray, List.map_cons, List.map_nil]); first | done | rfl | (simp only [List.length_drop, List.length_take]; rfl)) ?_; (with_reducible refine (impl_within.calls (l0.length : Int) 1 40 true _ A2.out).mono ?_); rintro e w' ⟨rfl, ⟨nd, rfl⟩⟩; refine ⟨_, rfl, ?_⟩) | (go_at_call 71; (with_reducible refine (impl_sizeOf.calls k _ _ l0 t282 _ ?side1 ?side2 A4.out).mono ?_); (case side1 => repeat (first | exact HR0.out | (with_reducible refine Kd.C_alloc ?_ _) | (with_reducible refine Kd.C_drewN ?_ _) | (with_reducible refine Kd.C_drew ?_))); (case side2 => exact HC0.out); rintro e w12 ⟨rfl, hb⟩; have n0_ := Aside0.mk (below_step (by repeat (first | (with_reducible first | exact HB.out | apply below_alloc | apply pw_below_drewN | apply below_drew1) | exact HB.out)) hb); clear HB; have HB := n0_; clear n0_; (try clear hb); (try clear hb2); (try clear hk); (try clear hi)))
      go_ret
      exact ⟨by first | rfl | (simp [errW_none, errW_some] <;> rfl) | (simp [*, errW_none, errW_some] <;> rfl), by repeat (first | (with_reducible first | exact HB.out | apply below_alloc | apply pw_below_drewN | apply below_drew1) | exact HB.out)⟩
  · replace c3 := Bool.eq_false_iff.mpr c3
    subst c3
    have H1 : (some false) = some r := by rw [if_neg (show ¬ (false = true) by decide)] at H; exact H
    clear H
    have H := H1
    clear H1
    obtain rfl := Option.some.inj H
    go_enter Tryd.func41, Tryd.ntmps41
    go_wp2_with (first | ((with_reducible refine gate_callee (f := 70) rfl ?_); refine goesL_ (some 5) rfl rfl Tryd.func70 (by kernel_rfl) rfl #[.int .i64 (l0.length : Int), .int .i64 1, .int .i64 40] rfl (by (try simp only [List.map_toArray, List.map_cons, List.map_nil]); first | done | rfl | (simp only [List.length_drop, List.length_take]; rfl)) ?_; (with_reducible refine (impl_within.calls (l0.length : Int) 1 40 false _ A2.out).mono ?_); rintro e w' ⟨rfl, ⟨nd, rfl⟩⟩; refine ⟨_, rfl, ?_⟩))
    go_ret
    exact ⟨by first | rfl | (simp [errW_none, errW_some] <;> rfl) | (simp [*, errW_none, errW_some] <;> rfl), by repeat (first | (with_reducible first | exact HB.out | apply below_alloc | apply pw_below_drewN | apply below_drew1) | exact HB.out)⟩

/-! ### impl_Node: function 73 -/
def impl_Node.f (l0 : List (S61)) : Option (List (S61)) := if l0.length < 1000000000000 then some l0 else none
set_option maxHeartbeats 8000000 in
set_option maxRecDepth 100000 in
theorem impl_Node.calls (A0 : Option Addr) (c0 : Nat) (l0 : List (S61)) (r : List (S61)) (w : World) (hr0 : Kd.C k61 w A0 l0.length l0) (hc0 : l0.length ≤ c0) (h : impl_Node.f l0 = some r) :
    Calls Tryd.prog 73 #[.slice A0 l0.length c0] w fun e w' => ∃ v0_ : Value, e = .returned (v0_) ∧ Kd.R k61 61 w' w.heap.size (fun _ => True) v0_ r ∧ Below w.heap.size w w' := by
  have q70 : ∀ (w : World) (a : Option Addr) (n c n' c' : Nat), (binOp .eql 22 (.slice a n c) (.slice none n' c')).run Tryd.prog w = .ok (.bool a.isNone) w := fun w a n c n' c' => Lib.run_eql_slice_nil w _ _ a n c n' c' Tryd.underlying22
  unfold impl_Node.f at h
  by_cases hl : l0.length < 1000000000000
  · rw [if_pos hl] at h
    obtain rfl := Option.some.inj h
    have HR0 := Aside0.mk hr0
    have HL := Aside0.mk hl
    have HB := Aside0.mk (Below.refl w.heap.size w)
    clear hl h hc0
    cases A0 with
    | none =>
      have hz : l0.length = 0 := by
        rcases Nat.eq_zero_or_pos l0.length with h | h
        · exact h
        · obtain ⟨ad, e, _⟩ := hr0.2.2 h
          cases e
      obtain rfl : l0 = [] := List.eq_nil_of_length_eq_zero hz
      clear hz hr0
      go_enter Tryd.func73, Tryd.ntmps73
      go_wp2
      go_ret
      exact ⟨_, rfl, Kd.R_nil _ _ _ _ _, HB.out⟩
    | some ad =>
      clear hr0
      go_enter Tryd.func73, Tryd.ntmps73
      go_wp2_with (first | ((with_reducible refine gate_dst (N := 5) rfl ?_); (try (refine gate_guard (by rfl) ?_; dsimp only)); refine Kd.R_lit k61 _ 61 ?hg (N := 5) ?hd (xs := ([] : List (S61))) (inner := []) (ok := fun _ => True) (okp := fun _ => True) ?hr ?hp (fun _ hk => hk) trivial (Below.refl _ _) (Nat.le_refl _) (by simp) ?_; (case hd => rfl); (case hg => rfl); (case hr => first | (go_simp; done) | (go_simp; rfl)); (case hp => exact (Reps.none _ _)); intro v1 w1 ho hb hg_ hnew_; clear hg_ hnew_; have n0_ := Aside0.mk (Kd.R_lower ho (below_size HB.out)); have n1_ := Aside0.mk (below_step HB.out hb); clear HB ho hb; have HO := n0_; have HB := n1_; clear n0_ n1_) | ((with_reducible refine gate_builtin (b := .append) (xs := #[.tmp 5, .tmp 6]) rfl ?_); (try (refine gate_guard (by rfl) ?_; dsimp only)); at_builtin; refine Kd.R_append_rows k61 (w0 := w) w.heap.size rfl (.tmp 5) (.tmp 6) 22 61 (.agg #[(.string ⟨#[]⟩), (.int .i64 0), (.int .i64 0), (.string ⟨#[]⟩), (.int .i64 0)]) 56 rfl Tryd.underlying22 info61 rfl (by decide) (by omega) v1 [] l0 _ _ _ (fun _ => True) (fun _ => False) rfl rfl ?aO ?aR (fun _ _ h => h) (fun _ h => h.elim) ?aF ?aB ?aS ?aL ?_; (case aR => exact Kd.C_below HR0.out HB.out); (case aB => exact HB.out); (case aF => exact (fun _ _ => trivial)); (case aO => exact HO.out); (case aS => exact (below_size HB.out)); (case aL => have := HL.out; simp; omega); intro v2 w2 ho hb hg hat; have n0_ := Aside0.mk hb; have n1_ := Aside0.mk ho; clear HB HO ho hb hg hat; have HB := n0_; have HO := n1_; clear n0_ n1_))
      go_ret
      exact ⟨_, rfl, by simpa using HO.out, HB.out⟩
  · rw [if_neg hl] at h
    cases h

/-! ### impl_keyed: function 45 -/
def impl_keyed.f (l0 : List (S61)) (a1 : ByteArray) : Option ((List (S61))) := (impl_Node.f l0).bind fun t285 => (if 0 < (t285.length : Int) then (some (t285.set (0 : Int).toNat (⟨a1, (rd_T61 t285 0).f1, (rd_T61 t285 0).f2, (rd_T61 t285 0).f3, (rd_T61 t285 0).f4⟩ : S61))) else (none))
set_option maxHeartbeats 8000000 in
set_option maxRecDepth 100000 in
theorem impl_keyed.calls (A0 : Option Addr) (c0 : Nat) (l0 : List (S61)) (a1 : ByteArray) (r : List (S61)) (w : World) (hr0 : Kd.C k61 w A0 l0.length l0) (hc0 : l0.length ≤ c0) (h : impl_keyed.f l0 a1 = some r) :
    Calls Tryd.prog 45 #[.slice A0 l0.length c0, .string a1] w fun e w' => ∃ v0_ : Value, e = .returned (v0_) ∧ Kd.R k61 61 w' w.heap.size (fun _ => True) v0_ r ∧ Below w.heap.size w w' := by
  have HR0 := Aside0.mk hr0
  have HC0 := Aside0.mk hc0
  clear hr0 hc0
  have HB := Aside0.mk (Below.refl w.heap.size w)
  have H : ((impl_Node.f l0).bind fun t285 => (if 0 < (t285.length : Int) then (some (t285.set (0 : Int).toNat (⟨a1, (rd_T61 t285 0).f1, (rd_T61 t285 0).f2, (rd_T61 t285 0).f3, (rd_T61 t285 0).f4⟩ : S61))) else (none))) = some r := h
  clear h
  replace H := Option.bind_eq_some_iff.mp H
  obtain ⟨t285, A30, H⟩ := H
  replace H : (if 0 < (t285.length : Int) then (some (t285.set (0 : Int).toNat (⟨a1, (rd_T61 t285 0).f1, (rd_T61 t285 0).f2, (rd_T61 t285 0).f3, (rd_T61 t285 0).f4⟩ : S61))) else (none)) = some r := H
  have A3 := Aside0.mk A30
  clear A30
  by_cases c4 : 0 < (t285.length : Int)
  · rw [if_pos c4] at H
    have c4b0 : decide (0 < (t285.length : Int)) = true := decide_eq_true c4
    have c4b1 : decide (0 < t285.length) = true := decide_eq_true (by omega)
    clear c4
    obtain ⟨y288, hy288⟩ : ∃ y_ : List (S61), y_ = (t285.set (0 : Int).toNat (⟨a1, (rd_T61 t285 0).f1, (rd_T61 t285 0).f2, (rd_T61 t285 0).f3, (rd_T61 t285 0).f4⟩ : S61)) := ⟨_, rfl⟩
    replace H : (some y288) = some r := by first | (rw [hy288]; with_reducible exact H) | (have H2_ := (Option.bind_some _ _).symm.trans H; rw [hy288]; with_reducible exact H2_) | (have H2_ := (Option.bind_some _ _).symm.trans H; with_reducible exact H2_) | with_reducible exact H | (rw [hy288]; exact H) | exact H
    have Ny288 := Aside0.mk hy288
    clear hy288
    obtain rfl := Option.some.inj H
    go_enter Tryd.func45, Tryd.ntmps45
    go_wp2_with (first | ((with_reducible refine gate_callee (f := 73) rfl ?_); refine goesL_ (some 7) rfl rfl Tryd.func73 (by kernel_rfl) rfl #[.slice A0 l0.length c0] rfl (by (try simp only [List.map_toArray, List.map_cons, List.map_nil]); first | done | rfl | (simp only [List.length_drop, List.length_take]; rfl)) ?_; (with_reducible refine (impl_Node.calls _ _ l0 t285 _ ?side1 ?side2 A3.out).mono ?_); (case side1 => repeat (first | exact HR0.out | (with_reducible refine Kd.C_alloc ?_ _) | (with_reducible refine Kd.C_drewN ?_ _) | (with_reducible refine Kd.C_drew ?_))); (case side2 => exact HC0.out); rintro e w6 ⟨v286, rfl, ho0, hb⟩; refine ⟨_, rfl, ?_⟩; have n0_ := Aside0.mk (Kd.R_lower ho0 (below_size (by repeat (first | (with_reducible first | exact HB.out | apply below_alloc | apply pw_below_drewN | apply below_drew1) | exact HB.out)))); have n1_ := Aside0.mk (below_step (by repeat (first | (with_reducible first | exact HB.out | apply below_alloc | apply pw_below_drewN | apply below_drew1) | exact HB.out)) hb); clear HB; have HO287 := n0_; have HB := n1_; clear n0_ n1_; (try clear hb); (try clear hb2); (try clear hk); (try clear hi); (try clear ho0); have p5 : 0 ≤ (0 : Int) := (by omega); have q5 : (0 : Int) < ((t285.length : Int) : Int) := of_decide_eq_true (by first | (with_reducible assumption) | assumption); have qi5 : (0 < t285.length) = True := eq_true (by omega); obtain ⟨go5, co5, eo5, gb5, gl5, cl5, HG5⟩ := Kd.R_form HO287.out (by omega); (first | cases eo5 | (injection eo5 with ea_ en_ ec_; (first | subst ea_ | (injection ea_ with ea_; subst ea_)); subst ec_; clear en_)); have GB5 := Aside0.mk gb5; have GG5 := Aside0.mk HG5; clear gb5 gl5 HG5; obtain ⟨ce5, hcl5, hM5, hcc5, hfr5⟩ := Kd.R_elem HO287.out z61 (0 : Int) p5 q5; obtain rfl := k61_openM hM5; have hx5_0 : w6.cell? ⟨go5, (0 : Int).toNat * 5, none⟩ = some (.string ((rd_T61 t285 0).f0)) := hcc5 0 _ rfl; have hx5_1 : w6.cell? ⟨go5, (0 : Int).toNat * 5 + 1, none⟩ = some (.int .i64 ((rd_T61 t285 0).f1)) := hcc5 1 _ rfl; have hx5_2 : w6.cell? ⟨go5, (0 : Int).toNat * 5 + 2, none⟩ = some (.int .i64 ((rd_T61 t285 0).f2)) := hcc5 2 _ rfl; have hx5_3 : w6.cell? ⟨go5, (0 : Int).toNat * 5 + 3, none⟩ = some (.string ((rd_T61 t285 0).f3)) := hcc5 3 _ rfl; have hx5_4 : w6.cell? ⟨go5, (0 : Int).toNat * 5 + 4, none⟩ = some (.int .i64 ((rd_T61 t285 0).f4)) := hcc5 4 _ rfl; have hf5_0 : w6.frozen? ⟨go5, (0 : Int).toNat * 5, none⟩ = false := hfr5 0; have hf5_1 : w6.frozen? ⟨go5, (0 : Int).toNat * 5 + 1, none⟩ = false := hfr5 1; have hf5_2 : w6.frozen? ⟨go5, (0 : Int).toNat * 5 + 2, none⟩ = false := hfr5 2; have hf5_3 : w6.frozen? ⟨go5, (0 : Int).toNat * 5 + 3, none⟩ = false := hfr5 3; have hf5_4 : w6.frozen? ⟨go5, (0 : Int).toNat * 5 + 4, none⟩ = false := hfr5 4; clear hcl5 hcc5 hfr5 hM5; (try rw [show ((0 : Int)).toNat = 0 from rfl] at hx5_0); (try simp only [Nat.reduceMul, Nat.zero_mul, Nat.zero_add, Nat.reduceAdd] at hx5_0); (try rw [show ((0 : Int)).toNat = 0 from rfl] at hf5_0); (try simp only [Nat.reduceMul, Nat.zero_mul, Nat.zero_add, Nat.reduceAdd] at hf5_0); (try rw [show ((0 : Int)).toNat = 0 from rfl] at hx5_1); (try simp only [Nat.reduceMul, Nat.zero_mul, Nat.zero_add, Nat.reduceAdd] at hx5_1); (try rw [show ((0 : Int)).toNat = 0 from rfl] at hf5_1); (try simp only [Nat.reduceMul, Nat.zero_mul, Nat.zero_add, Nat.reduceAdd] at hf5_1); (try rw [show ((0 : Int)).toNat = 0 from rfl] at hx5_2); (try simp only [Nat.reduceMul, Nat.zero_mul, Nat.zero_add, Nat.reduceAdd] at hx5_2); (try rw [show ((0 : Int)).toNat = 0 from rfl] at hf5_2); (try simp only [Nat.reduceMul, Nat.zero_mul, Nat.zero_add, Nat.reduceAdd] at hf5_2); (try rw [show ((0 : Int)).toNat = 0 from rfl] at hx5_3); (try simp only [Nat.reduceMul, Nat.zero_mul, Nat.zero_add, Nat.reduceAdd] at hx5_3); (try rw [show ((0 : Int)).toNat = 0 from rfl] at hf5_3); (try simp only [Nat.reduceMul, Nat.zero_mul, Nat.zero_add, Nat.reduceAdd] at hf5_3); (try rw [show ((0 : Int)).toNat = 0 from rfl] at hx5_4); (try simp only [Nat.reduceMul, Nat.zero_mul, Nat.zero_add, Nat.reduceAdd] at hx5_4); (try rw [show ((0 : Int)).toNat = 0 from rfl] at hf5_4); (try simp only [Nat.reduceMul, Nat.zero_mul, Nat.zero_add, Nat.reduceAdd] at hf5_4); replace p5 := eq_true p5; replace q5 := eq_true q5; have HX7 := Aside0.mk (show Kd.R k61 61 w6 w.heap.size (fun _ => True) (.slice (some ⟨go5, 0, none⟩) t285.length co5) t285 from (by (with_reducible repeat (first | apply Kd.R_alloc | apply Kd.R_drewN | apply Kd.R_drew)); exact HO287.out)); obtain ⟨ce7, hcl7, hM7, hcc7, hfr7⟩ := Kd.R_elem HX7.out z61 (0 : Int) (by omega) (by have h_ : (0 : Int) < ((t285.length : Int) : Int) := of_decide_eq_true (by first | (with_reducible assumption) | assumption); first | exact h_ | (have e_ := (Kd.R_reads' HO287.out).1; omega) | simpa using h_); obtain rfl := k61_openM hM7; have HP7 := Kd.R_seg HX7.out (0 : Int) (by omega) (by have h_ : (0 : Int) < ((t285.length : Int) : Int) := of_decide_eq_true (by first | (with_reducible assumption) | assumption); first | exact h_ | (have e_ := (Kd.R_reads' HO287.out).1; omega) | simpa using h_) (seg := [.string a1]) (j := 0) hcl7 hcc7 (show 1 ≤ 5 from by decide) (x' := (⟨a1, (rd_T61 t285 0).f1, (rd_T61 t285 0).f2, (rd_T61 t285 0).f3, (rd_T61 t285 0).f4⟩ : S61)) (k61_mkM _ _ _ (⟨a1, (rd_T61 t285 0).f1, (rd_T61 t285 0).f2, (rd_T61 t285 0).f3, (rd_T61 t285 0).f4⟩ : S61) ) (fun _ hk => hk); have hx7_0 := hcc7 0 _ rfl; (try simp only [show (k61).sz = 5 from rfl, Nat.mul_one, Nat.add_zero] at hx7_0); (try rw [show ((0 : Int)).toNat = 0 from rfl] at hx7_0); (try simp only [Nat.reduceMul, Nat.zero_mul, Nat.zero_add, Nat.reduceAdd] at hx7_0); have hf7_0 := hfr7 0; (try simp only [show (k61).sz = 5 from rfl, Nat.mul_one, Nat.add_zero] at hf7_0); (try rw [show ((0 : Int)).toNat = 0 from rfl] at hf7_0); (try simp only [Nat.reduceMul, Nat.zero_mul, Nat.zero_add, Nat.reduceAdd] at hf7_0); clear hcl7 hcc7 hfr7 hM7) | ((with_reducible refine gate_store (t := 9) (p := 11) rfl ?_); refine store_event (t := 9) (p := 11) (v := ?vo_w8) (w1 := (w6.setCell ⟨go5, 0, none⟩ (.string a1))) ?hg ?ho ?hn ?hr ?_; (case ho => rfl); (case hg => rfl); (case hn => rfl); (case hr => first | (go_simp; done) | (go_simp; rfl)); intro w8 hw; have hg : w6.grownBy w8 (some go5) := (by rw [hw]; exact HP7.2); have hp_ : Kd.R k61 61 w8 w.heap.size (fun _ => True) (.slice (some ⟨go5, 0, none⟩) t285.length co5) y288 := (by rw [hw, Ny288.out]; exact HP7.1); clear HP7; have n0_ := Aside0.mk (hp_); have n1_ := Aside0.mk ((by rw [hw]; exact below_set (HB.out) GB5.out : Below w.heap.size w w8)); clear HO287; clear HB; have HO287 := n0_; have HB := n1_; clear n0_ n1_; clear hg hw hp_))
    go_ret
    exact ⟨_, by first | rfl | (simp [errW_none, errW_some] <;> rfl) | (simp [*, errW_none, errW_some] <;> rfl), by (with_reducible repeat (first | apply Kd.R_alloc | apply Kd.R_drewN | apply Kd.R_drew)); exact HO287.out, by repeat (first | (with_reducible first | exact HB.out | apply below_alloc | apply pw_below_drewN | apply below_drew1) | exact HB.out)⟩
  · rw [if_neg c4] at H
    exact absurd H (by simp)

/-! ### impl_FieldOf: function 22 -/
mutual
def impl_FieldOf.j0 : Nat → List (S61) → ByteArray → Bool → Option ((List (S61)) × Bool)
  | 0, _, _, _ => none
  | k + 1, x0, x1, x17 => if x17 = true then (some (([] : List (S61)), false)) else ((impl_partsOf.f k x0).bind fun t291 => (impl_FieldOf.l0 k x1 t291 (t291.length : Int) 0))
def impl_FieldOf.l0 : Nat → ByteArray → List (List (S61)) → Int → Int → Option ((List (S61)) × Bool)
  | 0, _, _, _, _ => none
  | k + 1, x1, x19, x20, x21 => if x21 < x20 then (if 0 ≤ x21 then (if x21 < (x19.length : Int) then (if 0 < ((rd_L5 x19 x21).length : Int) then (if ((rd_T61 (rd_L5 x19 x21) 0).f0).toList = x1.toList then ((impl_keyed.f (rd_L5 x19 x21) (⟨#[]⟩ : ByteArray)).bind fun t296 => (some (t296, true))) else (impl_FieldOf.l0 k x1 x19 x20 (wrap64 (x21 + 1)))) else (none)) else (none)) else (none)) else (some (([] : List (S61)), false))
end
def impl_FieldOf.f (k : Nat) (l0 : List (S61)) (a1 : ByteArray) : Option ((List (S61)) × Bool) := (impl_isValue.f k l0).bind fun t289 => (if t289 = true then (if 0 < (l0.length : Int) then (impl_FieldOf.j0 k l0 a1 (((rd_T61 l0 0).f1) != 7)) else (none)) else (impl_FieldOf.j0 k l0 a1 true))
theorem impl_FieldOf.mono_l : ∀ k, (∀ y0 y1 y2, LeO (impl_FieldOf.j0 k y0 y1 y2) (impl_FieldOf.j0 (k + 1) y0 y1 y2)) ∧ (∀ y0 y1 y2 y3, LeO (impl_FieldOf.l0 k y0 y1 y2 y3) (impl_FieldOf.l0 (k + 1) y0 y1 y2 y3))
  | 0 => ⟨fun _ _ _ r h => by simp [impl_FieldOf.j0] at h, fun _ _ _ _ r h => by simp [impl_FieldOf.l0] at h⟩
  | k + 1 => by
    obtain ⟨ih0, ih1⟩ := impl_FieldOf.mono_l k
    refine ⟨?_, ?_⟩
    · intro y0 y1 y2
      unfold impl_FieldOf.j0
      repeat' first
      | (with_reducible exact ih0 _ _ _)
      | (with_reducible exact ih1 _ _ _ _)
      | (with_reducible exact impl_isValue.mono _ _)
      | (with_reducible exact impl_partsOf.mono _ _)
      | (with_reducible exact LeO.refl _)
      | (with_reducible exact LeO.none _)
      | (with_reducible refine LeO.ite ?_ ?_)
      | (with_reducible refine LeO.bind ?_ (fun _ => ?_))
      | exact ih0 _ _ _
      | exact ih1 _ _ _ _
      | exact impl_isValue.mono _ _
      | exact impl_partsOf.mono _ _
      | exact LeO.none _
      | refine LeO.ite ?_ ?_
      | refine LeO.bind ?_ (fun _ => ?_)
    · intro y0 y1 y2 y3
      unfold impl_FieldOf.l0
      repeat' first
      | (with_reducible exact ih0 _ _ _)
      | (with_reducible exact ih1 _ _ _ _)
      | (with_reducible exact impl_isValue.mono _ _)
      | (with_reducible exact impl_partsOf.mono _ _)
      | (with_reducible exact LeO.refl _)
      | (with_reducible exact LeO.none _)
      | (with_reducible refine LeO.ite ?_ ?_)
      | (with_reducible refine LeO.bind ?_ (fun _ => ?_))
      | exact ih0 _ _ _
      | exact ih1 _ _ _ _
      | exact impl_isValue.mono _ _
      | exact impl_partsOf.mono _ _
      | exact LeO.none _
      | refine LeO.ite ?_ ?_
      | refine LeO.bind ?_ (fun _ => ?_)
theorem impl_FieldOf.mono : ∀ a0 a1 k, LeO (impl_FieldOf.f k a0 a1) (impl_FieldOf.f (k + 1) a0 a1) := by
  intro a0 a1 k
  obtain ⟨ih0, ih1⟩ := impl_FieldOf.mono_l k
  unfold impl_FieldOf.f
  repeat' first
      | (with_reducible exact ih0 _ _ _)
      | (with_reducible exact ih1 _ _ _ _)
      | (with_reducible exact impl_isValue.mono _ _)
      | (with_reducible exact impl_partsOf.mono _ _)
      | (with_reducible exact LeO.refl _)
      | (with_reducible exact LeO.none _)
      | (with_reducible refine LeO.ite ?_ ?_)
      | (with_reducible refine LeO.bind ?_ (fun _ => ?_))
      | exact ih0 _ _ _
      | exact ih1 _ _ _ _
      | exact impl_isValue.mono _ _
      | exact impl_partsOf.mono _ _
      | exact LeO.none _
      | refine LeO.ite ?_ ?_
      | refine LeO.bind ?_ (fun _ => ?_)
set_option maxHeartbeats 8000000 in
set_option maxRecDepth 100000 in
theorem impl_FieldOf.calls (k : Nat) (A0 : Option Addr) (c0 : Nat) (l0 : List (S61)) (a1 : ByteArray) (r1 : List (S61)) (r2 : Bool) (w : World) (tb : Go.Proofs.YtkfbdopfeacnfaaDoor.TabsU.Tabs0 w) (hr0 : Kd.C k61 w A0 l0.length l0) (hc0 : l0.length ≤ c0) (h : impl_FieldOf.f k l0 a1 = some (r1, r2)) :
    Calls Tryd.prog 22 #[.slice A0 l0.length c0, .string a1] w fun e w' => ∃ v0_ : Value, e = .returned (.tuple #[v0_, .bool r2]) ∧ Kd.R k61 61 w' w.heap.size (fun _ => True) v0_ r1 ∧ Below w.heap.size w w' := by
  have TB := Aside0.mk tb
  clear tb
  have HR0 := Aside0.mk hr0
  have HC0 := Aside0.mk hc0
  clear hr0 hc0
  have HB := Aside0.mk (Below.refl w.heap.size w)
  have H : ((impl_isValue.f k l0).bind fun t289 => (if t289 = true then (if 0 < (l0.length : Int) then (impl_FieldOf.j0 k l0 a1 (((rd_T61 l0 0).f1) != 7)) else (none)) else (impl_FieldOf.j0 k l0 a1 true))) = some (r1, r2) := h
  clear h
  have HC3 := Aside0.mk H
  clear H
  go_enter Tryd.func22, Tryd.ntmps22
  go_upto_region 1 with (fail)
  go_cut [17] (fun v17 wc => ∃ (kq : Nat) (x17_2 : Bool), v17 = .bool x17_2 ∧ Aside0 (impl_FieldOf.j0 kq l0 a1 x17_2 = some (r1, r2)) ∧ Aside0 (kq ≤ k) ∧ Aside0 (Below w.heap.size w wc))
  case first =>
    have H := HC3.out
    clear HC3
    replace H := Option.bind_eq_some_iff.mp H
    obtain ⟨t289, A40, H⟩ := H
    replace H : (if t289 = true then (if 0 < (l0.length : Int) then (impl_FieldOf.j0 k l0 a1 (((rd_T61 l0 0).f1) != 7)) else (none)) else (impl_FieldOf.j0 k l0 a1 true)) = some (r1, r2) := H
    have A4 := Aside0.mk A40
    clear A40
    by_cases c5 : t289 = true
    · subst c5
      have H1 : (if 0 < (l0.length : Int) then (impl_FieldOf.j0 k l0 a1 (((rd_T61 l0 0).f1) != 7)) else (none)) = some (r1, r2) := by rw [if_pos rfl] at H; exact H
      clear H
      have H := H1
      clear H1
      by_cases c6 : 0 < (l0.length : Int)
      · rw [if_pos c6] at H
        have c6b0 : decide (0 < (l0.length : Int)) = true := decide_eq_true c6
        have c6b1 : decide (0 < l0.length) = true := decide_eq_true (by omega)
        clear c6
        (first | rw [c6b0] | (simp only [i64_w, i32_w]; rw [c6b0]) | skip)
        have H' := Aside0.mk H
        clear H
        go_wp2_with (first | ((with_reducible refine gate_callee (f := 41) rfl ?_); refine goesL_ (some 9) rfl rfl Tryd.func41 (by kernel_rfl) rfl #[.slice A0 l0.length c0] rfl (by (try simp only [List.map_toArray, List.map_cons, List.map_nil]); first | done | rfl | (simp only [List.length_drop, List.length_take]; rfl)) ?_; (with_reducible refine (impl_isValue.calls k _ _ l0 true _ ?side1 ?side2 ?side3 A4.out).mono ?_); (case side1 => exact Go.Proofs.YtkfbdopfeacnfaaDoor.TabsU.Tabs0.of_below TB.out (by repeat (first | (with_reducible first | exact HB.out | apply below_alloc | apply pw_below_drewN | apply below_drew1) | exact HB.out))); (case side2 => repeat (first | exact (Kd.C_below HR0.out HB.out) | (with_reducible refine Kd.C_alloc ?_ _) | (with_reducible refine Kd.C_drewN ?_ _) | (with_reducible refine Kd.C_drew ?_))); (case side3 => exact HC0.out); rintro e w7 ⟨rfl, hb⟩; refine ⟨_, rfl, ?_⟩; have n0_ := Aside0.mk (below_step (by repeat (first | (with_reducible first | exact HB.out | apply below_alloc | apply pw_below_drewN | apply below_drew1) | exact HB.out)) hb); clear HB; have HB := n0_; clear n0_; (try clear hb); (try clear hb2); (try clear hk); (try clear hi); have p290 : 0 ≤ (0 : Int) := (by omega); have q290 : 0 < (l0.length : Int) := of_decide_eq_true (by first | (with_reducible assumption) | assumption); obtain ⟨ad290, e290, hx290_0, hx290_1, hx290_2, hx290_3, hx290_4⟩ := at_T61 HR0.out 0 p290 q290; cases e290; have qi290 : (0 < l0.length) = True := eq_true (by omega); (try rw [show ((0 : Int)).toNat = 0 from rfl] at hx290_0); (try rw [show 0 * 5 = 0 from rfl] at hx290_0); (try rw [Addr.add_zero'] at hx290_0); (try rw [show ((0 : Int)).toNat = 0 from rfl] at hx290_1); (try rw [show 0 * 5 = 0 from rfl] at hx290_1); (try rw [Addr.add_zero'] at hx290_1); (try rw [show ((0 : Int)).toNat = 0 from rfl] at hx290_2); (try rw [show 0 * 5 = 0 from rfl] at hx290_2); (try rw [Addr.add_zero'] at hx290_2); (try rw [show ((0 : Int)).toNat = 0 from rfl] at hx290_3); (try rw [show 0 * 5 = 0 from rfl] at hx290_3); (try rw [Addr.add_zero'] at hx290_3); (try rw [show ((0 : Int)).toNat = 0 from rfl] at hx290_4); (try rw [show 0 * 5 = 0 from rfl] at hx290_4); (try rw [Addr.add_zero'] at hx290_4); replace hx290_0 := (HB.out.cell (World.block_lt_of_cell? w _ hx290_0)).trans hx290_0; replace hx290_1 := (HB.out.cell (World.block_lt_of_cell? w _ hx290_1)).trans hx290_1; replace hx290_2 := (HB.out.cell (World.block_lt_of_cell? w _ hx290_2)).trans hx290_2; replace hx290_3 := (HB.out.cell (World.block_lt_of_cell? w _ hx290_3)).trans hx290_3; replace hx290_4 := (HB.out.cell (World.block_lt_of_cell? w _ hx290_4)).trans hx290_4; replace p290 := eq_true p290; replace q290 := eq_true q290))
        go_meet
        case rel => exact ⟨_, ((((rd_T61 l0 0).f1) != 7)), (by first | rfl | (simp; done) | (simp [*]; done) | (simp; apply Bool.eq_iff_iff.mpr; simp only [bne_iff_ne, ne_eq, beq_iff_eq]; omega)), H', ⟨by first | omega | exact Nat.le_refl _⟩, ⟨by repeat (first | (with_reducible first | exact HB.out | apply below_alloc | apply pw_below_drewN | apply below_drew1) | exact HB.out)⟩⟩
      · rw [if_neg c6] at H
        exact absurd H (by simp)
    · replace c5 := Bool.eq_false_iff.mpr c5
      subst c5
      have H1 : (impl_FieldOf.j0 k l0 a1 true) = some (r1, r2) := by rw [if_neg (show ¬ (false = true) by decide)] at H; exact H
      clear H
      have H := H1
      clear H1
      have H' := Aside0.mk H
      clear H
      go_wp2_with (first | ((with_reducible refine gate_callee (f := 41) rfl ?_); refine goesL_ (some 9) rfl rfl Tryd.func41 (by kernel_rfl) rfl #[.slice A0 l0.length c0] rfl (by (try simp only [List.map_toArray, List.map_cons, List.map_nil]); first | done | rfl | (simp only [List.length_drop, List.length_take]; rfl)) ?_; (with_reducible refine (impl_isValue.calls k _ _ l0 false _ ?side1 ?side2 ?side3 A4.out).mono ?_); (case side1 => exact Go.Proofs.YtkfbdopfeacnfaaDoor.TabsU.Tabs0.of_below TB.out (by repeat (first | (with_reducible first | exact HB.out | apply below_alloc | apply pw_below_drewN | apply below_drew1) | exact HB.out))); (case side2 => repeat (first | exact (Kd.C_below HR0.out HB.out) | (with_reducible refine Kd.C_alloc ?_ _) | (with_reducible refine Kd.C_drewN ?_ _) | (with_reducible refine Kd.C_drew ?_))); (case side3 => exact HC0.out); rintro e w8 ⟨rfl, hb⟩; refine ⟨_, rfl, ?_⟩; have n0_ := Aside0.mk (below_step (by repeat (first | (with_reducible first | exact HB.out | apply below_alloc | apply pw_below_drewN | apply below_drew1) | exact HB.out)) hb); clear HB; have HB := n0_; clear n0_; (try clear hb); (try clear hb2); (try clear hk); (try clear hi)))
      go_meet
      case rel => exact ⟨_, (true), (by first | rfl | (simp; done) | (simp [*]; done) | (simp; apply Bool.eq_iff_iff.mpr; simp only [bne_iff_ne, ne_eq, beq_iff_eq]; omega)), H', ⟨by first | omega | exact Nat.le_refl _⟩, ⟨by repeat (first | (with_reducible first | exact HB.out | apply below_alloc | apply pw_below_drewN | apply below_drew1) | exact HB.out)⟩⟩
  case rest =>
    clear HC3
    try clear c2
    try clear p2
    try clear q2
    try clear hx2
    try clear qi2
    try clear c4
    try clear c5
    try clear c6
    try clear c6b0
    try clear c6b1
    try clear hx290_0
    try clear hx290_1
    try clear hx290_2
    try clear hx290_3
    try clear hx290_4
    try clear p290
    try clear q290
    obtain ⟨kq, x17_2, rfl, HA, HJ2, HB⟩ := hcut
    cases kq with
    | zero => exact absurd HA.out (by simp [impl_FieldOf.j0])
    | succ kj2 =>
      have H := HA.out
      clear HA
      simp only [impl_FieldOf.j0] at H
      by_cases c9 : x17_2 = true
      · subst c9
        have H1 : (some (([] : List (S61)), false)) = some (r1, r2) := by rw [if_pos rfl] at H; exact H
        clear H
        have H := H1
        clear H1
        simp only [Option.some.injEq, Prod.mk.injEq] at H
        obtain ⟨rfl, rfl⟩ := H
        go_wp2
        go_ret2
        exact ⟨_, by first | rfl | (simp [errW_none, errW_some] <;> rfl) | (simp [*, errW_none, errW_some] <;> rfl), by first | exact Kd.R_nil _ _ _ _ _ | exact Kd.N_nil _ _ _ _ _ | exact Kd.V_nil _ _ _ _ _ | exact Kd.Q_nil _ _ _ _ _ | exact Kd.S_nil _ _ _ _ _, by repeat (first | (with_reducible first | exact HB.out | apply below_alloc | apply pw_below_drewN | apply below_drew1) | exact HB.out)⟩
      · replace c9 := Bool.eq_false_iff.mpr c9
        subst c9
        have H1 : ((impl_partsOf.f kj2 l0).bind fun t291 => (impl_FieldOf.l0 kj2 a1 t291 (t291.length : Int) 0)) = some (r1, r2) := by rw [if_neg (show ¬ (false = true) by decide)] at H; exact H
        clear H
        have H := H1
        clear H1
        replace H := Option.bind_eq_some_iff.mp H
        obtain ⟨t291, A100, H⟩ := H
        replace H : (impl_FieldOf.l0 kj2 a1 t291 (t291.length : Int) 0) = some (r1, r2) := H
        have A10 := Aside0.mk A100
        clear A100
        have H' := Aside0.mk H
        clear H
        go_wp2_with (first | ((with_reducible refine gate_callee (f := 44) rfl ?_); refine goesL_ (some 19) rfl rfl Tryd.func44 (by kernel_rfl) rfl #[.slice A0 l0.length c0] rfl (by (try simp only [List.map_toArray, List.map_cons, List.map_nil]); first | done | rfl | (simp only [List.length_drop, List.length_take]; rfl)) ?_; (with_reducible refine (impl_partsOf.calls kj2 (fun k_ => k_ < w.heap.size) _ _ l0 t291 _ ?side1 A10.out).mono ?_); (case side1 => exact Kd.V_mk HC0.out (Kd.F_below (Kd.C_F k61_heap HR0.out) (by repeat (first | (with_reducible first | exact HB.out | apply below_alloc | apply pw_below_drewN | apply below_drew1) | exact HB.out)))); rintro e w11 ⟨v292, rfl, ho0, hb⟩; refine ⟨_, rfl, ?_⟩; have n0_ := Aside0.mk (Kd.N_lower (Kd.N_mono (ok' := fun k_ => True) ho0 (fun k_ hk_ => trivial)) (below_size (by repeat (first | (with_reducible first | exact HB.out | apply below_alloc | apply pw_below_drewN | apply below_drew1) | exact HB.out)))); have n1_ := Aside0.mk (below_step (by repeat (first | (with_reducible first | exact HB.out | apply below_alloc | apply pw_below_drewN | apply below_drew1) | exact HB.out)) hb); clear HB; have HO293 := n0_; have HB := n1_; clear n0_ n1_; (try clear hb); (try clear hb2); (try clear hk); (try clear hi); (try clear ho0); obtain ⟨Ao12, co12, eo12⟩ := Kd.N_slice HO293.out; subst eo12))
        go_loopg [21] kj2 (fun kq v21 w' => ∃ (x21_2 : Int), v21 = .int .i64 x21_2 ∧ Aside0 (impl_FieldOf.l0 kq a1 t291 (t291.length : Int) x21_2 = some (r1, r2)) ∧ Aside0 (kq ≤ kj2) ∧ Aside0 (Kd.N (Kd.slice 61 k61) 22 w' w.heap.size (fun _ => True) (.slice Ao12 t291.length co12) t291) ∧ Aside0 (Below w.heap.size w w'))
        case atStart => exact ⟨(0), (by first | rfl | (simp; done) | (simp [*]; done) | (simp; apply Bool.eq_iff_iff.mpr; simp only [bne_iff_ne, ne_eq, beq_iff_eq]; omega)), H', ⟨Nat.le_refl _⟩, ⟨by (with_reducible repeat (first | apply Kd.N_alloc | apply Kd.N_drewN | apply Kd.N_drew)); exact HO293.out⟩, ⟨by repeat (first | (with_reducible first | exact HB.out | apply below_alloc | apply pw_below_drewN | apply below_drew1) | exact HB.out)⟩⟩
        case round =>
          clear H'
          try clear c2
          try clear p2
          try clear q2
          try clear hx2
          try clear qi2
          try clear c4
          try clear c5
          try clear c6
          try clear c6b0
          try clear c6b1
          try clear c9
          try clear hx290_0
          try clear hx290_1
          try clear hx290_2
          try clear hx290_3
          try clear hx290_4
          try clear p2
          try clear p290
          try clear q2
          try clear q290
          obtain ⟨x21_2, rfl, HA, HK2, HO_19, HB⟩ := hrel
          cases gk with
          | zero => exact absurd HA.out (by simp [impl_FieldOf.l0])
          | succ k2 =>
            have H := HA.out
            clear HA
            simp only [impl_FieldOf.l0] at H
            by_cases c13 : x21_2 < (t291.length : Int)
            · rw [if_pos c13] at H
              have c13b0 : decide (x21_2 < (t291.length : Int)) = true := decide_eq_true c13
              clear c13
              by_cases c14 : 0 ≤ x21_2
              · rw [if_pos c14] at H
                have c14b0 : decide (0 ≤ x21_2) = true := decide_eq_true c14
                clear c14
                by_cases c15 : x21_2 < (t291.length : Int)
                · rw [if_pos c15] at H
                  have c15b0 : decide (x21_2 < (t291.length : Int)) = true := decide_eq_true c15
                  clear c15
                  by_cases c16 : 0 < ((rd_L5 t291 x21_2).length : Int)
                  · rw [if_pos c16] at H
                    have c16b0 : decide (0 < ((rd_L5 t291 x21_2).length : Int)) = true := decide_eq_true c16
                    have c16b1 : decide (0 < (rd_L5 t291 x21_2).length) = true := decide_eq_true (by omega)
                    clear c16
                    by_cases c17 : ((rd_T61 (rd_L5 t291 x21_2) 0).f0).toList = a1.toList
                    · rw [if_pos c17] at H
                      have c17b0 : (((rd_T61 (rd_L5 t291 x21_2) 0).f0).toList == a1.toList) = true := beq_iff_eq.mpr c17
                      have c17b1 : (((rd_T61 (rd_L5 t291 x21_2) 0).f0).toList != a1.toList) = false := bne_eq_false_iff_eq.mpr c17
                      clear c17
                      replace H := Option.bind_eq_some_iff.mp H
                      obtain ⟨t296, A180, H⟩ := H
                      replace H : (some (t296, true)) = some (r1, r2) := H
                      have A18 := Aside0.mk A180
                      clear A180
                      simp only [Option.some.injEq, Prod.mk.injEq] at H
                      obtain ⟨rfl, rfl⟩ := H
                      have p294 : 0 ≤ (x21_2 : Int) := of_decide_eq_true (by first | (with_reducible assumption) | assumption)
                      have q294 : x21_2 < (t291.length : Int) := of_decide_eq_true (by first | (with_reducible assumption) | assumption)
                      obtain ⟨ad294, A294_0, c294_0, e294, hx294_0, hl294_0, hi294_0⟩ := at_L5 (Kd.N_reads' HO_19.out).2.2 x21_2 p294 q294
                      cases e294
                      obtain ⟨ce294, hce294, hMe294, hcc294⟩ := Kd.N_get HO_19.out [] x21_2 p294 (by first | exact q294 | exact of_decide_eq_true (by first | (with_reducible assumption) | assumption) | (have e_ := (Kd.N_reads' HO_19.out).1; omega))
                      obtain ⟨ua294_0, uc294_0, rfl, ul294_0, ge294_0⟩ := Kd.FK_slice_open hMe294
                      have hv294_0 := hcc294 0 _ rfl
                      rw [Nat.add_zero, show ((Kd.slice 61 k61)).sz = 1 from rfl, Nat.mul_one] at hv294_0
                      replace hv294_0 := Option.some.inj (hv294_0.symm.trans hx294_0)
                      injection hv294_0 with hva_ hvn_ hvc_
                      rw [hva_] at ge294_0
                      rw [hvc_] at ul294_0
                      have HL294_0 := Aside0.mk (show Kd.V k61 61 _ w.heap.size _ _ (rd_L5 t291 x21_2) from Kd.V_mk ul294_0 ge294_0)
                      clear hva_ hvn_ hvc_ ge294_0 ul294_0
                      clear hcc294 hce294
                      have HR294_0 := Aside0.mk hi294_0
                      have HC294_0 := Aside0.mk hl294_0
                      clear hi294_0 hl294_0
                      replace p294 := eq_true p294
                      replace q294 := eq_true q294
                      have p295 : 0 ≤ (0 : Int) := (by omega)
                      have q295 : 0 < ((rd_L5 t291 x21_2).length : Int) := of_decide_eq_true (by first | (with_reducible assumption) | assumption)
                      obtain ⟨ad295, e295, hx295_0, hx295_1, hx295_2, hx295_3, hx295_4⟩ := at_T61 (by repeat (first | (with_reducible exact HR294_0.out) | (with_reducible refine Kd.C_alloc ?_ _) | (with_reducible refine Kd.C_drewN ?_ _) | (with_reducible refine Kd.C_drew ?_) | exact HR294_0.out)) 0 p295 q295
                      cases e295
                      have qi295 : (0 < (rd_L5 t291 x21_2).length) = True := eq_true (by omega)
                      (try rw [show ((0 : Int)).toNat = 0 from rfl] at hx295_0)
                      (try rw [show 0 * 5 = 0 from rfl] at hx295_0)
                      (try rw [Addr.add_zero'] at hx295_0)
                      (try rw [show ((0 : Int)).toNat = 0 from rfl] at hx295_1)
                      (try rw [show 0 * 5 = 0 from rfl] at hx295_1)
                      (try rw [Addr.add_zero'] at hx295_1)
                      (try rw [show ((0 : Int)).toNat = 0 from rfl] at hx295_2)
                      (try rw [show 0 * 5 = 0 from rfl] at hx295_2)
                      (try rw [Addr.add_zero'] at hx295_2)
                      (try rw [show ((0 : Int)).toNat = 0 from rfl] at hx295_3)
                      (try rw [show 0 * 5 = 0 from rfl] at hx295_3)
                      (try rw [Addr.add_zero'] at hx295_3)
                      (try rw [show ((0 : Int)).toNat = 0 from rfl] at hx295_4)
                      (try rw [show 0 * 5 = 0 from rfl] at hx295_4)
                      (try rw [Addr.add_zero'] at hx295_4)
                      replace p295 := eq_true p295
                      replace q295 := eq_true q295
                      go_wp2_with (first | ((with_reducible refine gate_callee (f := 45) rfl ?_); refine goesL_ (some 32) rfl rfl Tryd.func45 (by kernel_rfl) rfl #[.slice (some ad295) (rd_L5 t291 x21_2).length c294_0, .string (⟨#[]⟩ : ByteArray)] rfl (by (try simp only [List.map_toArray, List.map_cons, List.map_nil]); first | done | rfl | (simp only [List.length_drop, List.length_take]; rfl)) ?_; (with_reducible refine (impl_keyed.calls _ _ (rd_L5 t291 x21_2) (⟨#[]⟩ : ByteArray) t296 _ ?side1 ?side2 A18.out).mono ?_); (case side1 => repeat (first | exact (by repeat (first | (with_reducible exact HR294_0.out) | (with_reducible refine Kd.C_alloc ?_ _) | (with_reducible refine Kd.C_drewN ?_ _) | (with_reducible refine Kd.C_drew ?_) | exact HR294_0.out)) | (with_reducible refine Kd.C_alloc ?_ _) | (with_reducible refine Kd.C_drewN ?_ _) | (with_reducible refine Kd.C_drew ?_))); (case side2 => exact HC294_0.out); rintro e w19 ⟨v297, rfl, ho0, hb⟩; refine ⟨_, rfl, ?_⟩; have n0_ := Aside0.mk (Kd.N_elder' (by (with_reducible repeat (first | apply Kd.N_alloc | apply Kd.N_drewN | apply Kd.N_drew)); exact HO_19.out) (Kd.R_base ho0) hb); have n1_ := Aside0.mk (Kd.V_elder' (by (with_reducible repeat (first | apply Kd.V_alloc | apply Kd.V_drewN | apply Kd.V_drew)); exact HL294_0.out) (Kd.R_base ho0) hb); have n2_ := Aside0.mk (Kd.R_lower ho0 (below_size (by repeat (first | (with_reducible first | exact HB.out | apply below_alloc | apply pw_below_drewN | apply below_drew1) | exact HB.out)))); have n3_ := Aside0.mk (Kd.C_below (by repeat (first | (with_reducible exact HR294_0.out) | (with_reducible refine Kd.C_alloc ?_ _) | (with_reducible refine Kd.C_drewN ?_ _) | (with_reducible refine Kd.C_drew ?_) | exact HR294_0.out)) hb); have n4_ := Aside0.mk (below_step (by repeat (first | (with_reducible first | exact HB.out | apply below_alloc | apply pw_below_drewN | apply below_drew1) | exact HB.out)) hb); clear HO_19; clear HL294_0; clear HR294_0; clear HB; have HO_19 := n0_; have HL294_0 := n1_; have HO298 := n2_; have HR294_0 := n3_; have HB := n4_; clear n0_ n1_ n2_ n3_ n4_; (try clear hb); (try clear hb2); (try clear hk); (try clear hi); (try clear ho0)))
                      go_ret2
                      exact ⟨_, by first | rfl | (simp [errW_none, errW_some] <;> rfl) | (simp [*, errW_none, errW_some] <;> rfl), by (with_reducible repeat (first | apply Kd.R_alloc | apply Kd.R_drewN | apply Kd.R_drew)); exact HO298.out, by repeat (first | (with_reducible first | exact HB.out | apply below_alloc | apply pw_below_drewN | apply below_drew1) | exact HB.out)⟩
                    · rw [if_neg c17] at H
                      have c17b0 : (((rd_T61 (rd_L5 t291 x21_2) 0).f0).toList == a1.toList) = false := beq_eq_false_iff_ne.mpr c17
                      have c17b1 : (((rd_T61 (rd_L5 t291 x21_2) 0).f0).toList != a1.toList) = true := bne_iff_ne.mpr c17
                      have H' := Aside0.mk H
                      clear H
                      have p294 : 0 ≤ (x21_2 : Int) := of_decide_eq_true (by first | (with_reducible assumption) | assumption)
                      have q294 : x21_2 < (t291.length : Int) := of_decide_eq_true (by first | (with_reducible assumption) | assumption)
                      obtain ⟨ad294, A294_0, c294_0, e294, hx294_0, hl294_0, hi294_0⟩ := at_L5 (Kd.N_reads' HO_19.out).2.2 x21_2 p294 q294
                      cases e294
                      obtain ⟨ce294, hce294, hMe294, hcc294⟩ := Kd.N_get HO_19.out [] x21_2 p294 (by first | exact q294 | exact of_decide_eq_true (by first | (with_reducible assumption) | assumption) | (have e_ := (Kd.N_reads' HO_19.out).1; omega))
                      obtain ⟨ua294_0, uc294_0, rfl, ul294_0, ge294_0⟩ := Kd.FK_slice_open hMe294
                      have hv294_0 := hcc294 0 _ rfl
                      rw [Nat.add_zero, show ((Kd.slice 61 k61)).sz = 1 from rfl, Nat.mul_one] at hv294_0
                      replace hv294_0 := Option.some.inj (hv294_0.symm.trans hx294_0)
                      injection hv294_0 with hva_ hvn_ hvc_
                      rw [hva_] at ge294_0
                      rw [hvc_] at ul294_0
                      have HL294_0 := Aside0.mk (show Kd.V k61 61 _ w.heap.size _ _ (rd_L5 t291 x21_2) from Kd.V_mk ul294_0 ge294_0)
                      clear hva_ hvn_ hvc_ ge294_0 ul294_0
                      clear hcc294 hce294
                      have HR294_0 := Aside0.mk hi294_0
                      have HC294_0 := Aside0.mk hl294_0
                      clear hi294_0 hl294_0
                      replace p294 := eq_true p294
                      replace q294 := eq_true q294
                      have p295 : 0 ≤ (0 : Int) := (by omega)
                      have q295 : 0 < ((rd_L5 t291 x21_2).length : Int) := of_decide_eq_true (by first | (with_reducible assumption) | assumption)
                      obtain ⟨ad295, e295, hx295_0, hx295_1, hx295_2, hx295_3, hx295_4⟩ := at_T61 (by repeat (first | (with_reducible exact HR294_0.out) | (with_reducible refine Kd.C_alloc ?_ _) | (with_reducible refine Kd.C_drewN ?_ _) | (with_reducible refine Kd.C_drew ?_) | exact HR294_0.out)) 0 p295 q295
                      cases e295
                      have qi295 : (0 < (rd_L5 t291 x21_2).length) = True := eq_true (by omega)
                      (try rw [show ((0 : Int)).toNat = 0 from rfl] at hx295_0)
                      (try rw [show 0 * 5 = 0 from rfl] at hx295_0)
                      (try rw [Addr.add_zero'] at hx295_0)
                      (try rw [show ((0 : Int)).toNat = 0 from rfl] at hx295_1)
                      (try rw [show 0 * 5 = 0 from rfl] at hx295_1)
                      (try rw [Addr.add_zero'] at hx295_1)
                      (try rw [show ((0 : Int)).toNat = 0 from rfl] at hx295_2)
                      (try rw [show 0 * 5 = 0 from rfl] at hx295_2)
                      (try rw [Addr.add_zero'] at hx295_2)
                      (try rw [show ((0 : Int)).toNat = 0 from rfl] at hx295_3)
                      (try rw [show 0 * 5 = 0 from rfl] at hx295_3)
                      (try rw [Addr.add_zero'] at hx295_3)
                      (try rw [show ((0 : Int)).toNat = 0 from rfl] at hx295_4)
                      (try rw [show 0 * 5 = 0 from rfl] at hx295_4)
                      (try rw [Addr.add_zero'] at hx295_4)
                      replace p295 := eq_true p295
                      replace q295 := eq_true q295
                      go_wp2
                      go_roundg k2
                      case measure => have := HJ2.out; have := HK2.out; omega
                      case rel => exact ⟨(wrap64 (x21_2 + 1)), (by first | rfl | (simp; done) | (simp [*]; done) | (simp; apply Bool.eq_iff_iff.mpr; simp only [bne_iff_ne, ne_eq, beq_iff_eq]; omega)), H', ⟨by have := HJ2.out; have := HK2.out; omega⟩, ⟨by (with_reducible repeat (first | apply Kd.N_alloc | apply Kd.N_drewN | apply Kd.N_drew)); exact HO_19.out⟩, ⟨by repeat (first | (with_reducible first | exact HB.out | apply below_alloc | apply pw_below_drewN | apply below_drew1) | exact HB.out)⟩⟩
                  · rw [if_neg c16] at H
                    exact absurd H (by simp)
                · rw [if_neg c15] at H
                  exact absurd H (by simp)
              · rw [if_neg c14] at H
                exact absurd H (by simp)
            · rw [if_neg c13] at H
              have c13b0 : decide (x21_2 < (t291.length : Int)) = false := decide_eq_false c13
              clear c13
              simp only [Option.some.injEq, Prod.mk.injEq] at H
              obtain ⟨rfl, rfl⟩ := H
              go_wp2
              go_ret2
              exact ⟨_, by first | rfl | (simp [errW_none, errW_some] <;> rfl) | (simp [*, errW_none, errW_some] <;> rfl), by first | exact Kd.R_nil _ _ _ _ _ | exact Kd.N_nil _ _ _ _ _ | exact Kd.V_nil _ _ _ _ _ | exact Kd.Q_nil _ _ _ _ _ | exact Kd.S_nil _ _ _ _ _, by repeat (first | (with_reducible first | exact HB.out | apply below_alloc | apply pw_below_drewN | apply below_drew1) | exact HB.out)⟩

end
end Go.Proofs.YtkfbdopfeacnfaaDoor.PFnExactFieldOf
