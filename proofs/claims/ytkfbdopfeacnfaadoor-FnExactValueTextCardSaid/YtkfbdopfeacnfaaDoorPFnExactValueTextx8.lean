-- Printed by wip/tools/patch_print.py (a changed copy of the kit's printing program).
import Derived.Test.YtkfbdopfeacnfaaDoorPFnExactValueTextx0
import Derived.Test.YtkfbdopfeacnfaaDoorPFnExactValueTextx6
import Derived.Test.YtkfbdopfeacnfaaDoorPFnExactValueTextx7
namespace Go.Proofs.YtkfbdopfeacnfaaDoor.PFnExactValueText
open Go.RowKit Go.Proofs.YtkfbdopfeacnfaaDoorW.PrintWords Go.Proofs.YtkfbdopfeacnfaaDoorW.PrintLast Go.Proofs.YtkfbdopfeacnfaaDoorW.PrintMore
attribute [local go_sem] max2_int min2_int max_two min_two max_three min_three max_four min_four   -- for this text's walks alone
set_option linter.unusedVariables false
set_option linter.unusedSimpArgs false

noncomputable section
/-! ### spec_l7Text: function 46 -/
def spec_l7Text.w : List ByteArray := [⟨#[110, 117, 108, 108]⟩, ⟨#[102, 97, 108, 115, 101]⟩, ⟨#[116, 114, 117, 101]⟩]
mutual
def spec_l7Text.f : Nat → T7 → Option ByteArray
  | 0, _ => none
  | k + 1, t => if t.kids.length < 1000000 then (if t.x.f1 = 1 then some ⟨#[110, 117, 108, 108]⟩ else if t.x.f1 = 2 then some ⟨#[102, 97, 108, 115, 101]⟩ else if t.x.f1 = 3 then some ⟨#[116, 114, 117, 101]⟩
      else if t.x.f1 = 4 then spec_l7Whole.f k t.x.f2 else if t.x.f1 = 5 then spec_l7Quote.f k t.x.f3 else spec_l7Text.l k t.x.f1 t.kids ⟨#[]⟩ 0) else none
def spec_l7Text.l : Nat → Int → List T7 → ByteArray → Int → Option ByteArray
  | 0, _, _, _, _ => none
  | k + 1, kind, ks, s, i => if i < (ks.length : Int) then ks[i.toNat]?.bind fun u => if s.size + 1 ≤ 9223372036854775807 then
        (if kind = 7 then (spec_l7Quote.f k u.x.f0).bind fun q => if q.size + 1 ≤ 9223372036854775807 ∧ (if 0 < i then s ++ ⟨#[44]⟩ else s).size + (q.size + 1) ≤ 9223372036854775807 then some ((if 0 < i then s ++ ⟨#[44]⟩ else s) ++ (q ++ ⟨#[58]⟩)) else none else some (if 0 < i then s ++ ⟨#[44]⟩ else s)).bind fun s2 =>
        (spec_l7Text.f k u).bind fun r => if s2.size + r.size ≤ 9223372036854775807 then spec_l7Text.l k kind ks (s2 ++ r) (i + 1) else none
      else none
    else if s.size + 2 ≤ 9223372036854775807 then (if kind = 7 then some (⟨#[123]⟩ ++ s ++ ⟨#[125]⟩) else some (⟨#[91]⟩ ++ s ++ ⟨#[93]⟩)) else none
end
theorem spec_l7Text.mono_l : ∀ k, (∀ t, LeO (spec_l7Text.f k t) (spec_l7Text.f (k + 1) t)) ∧ (∀ kind ks s i, LeO (spec_l7Text.l k kind ks s i) (spec_l7Text.l (k + 1) kind ks s i))
  | 0 => ⟨fun _ r h => by simp [spec_l7Text.f] at h, fun _ _ _ _ r h => by simp [spec_l7Text.l] at h⟩
  | k + 1 => by
    obtain ⟨ih0, ih1⟩ := spec_l7Text.mono_l k
    refine ⟨?_, ?_⟩
    · intro t
      rw [spec_l7Text.f, spec_l7Text.f]
      exact LeO.ite (LeO.ite (LeO.refl _) (LeO.ite (LeO.refl _) (LeO.ite (LeO.refl _) (LeO.ite (spec_l7Whole.mono _ _) (LeO.ite (spec_l7Quote.mono _ _) (ih1 _ _ _ _)))))) (LeO.refl _)
    · intro kind ks s i
      rw [spec_l7Text.l, spec_l7Text.l]
      exact LeO.ite (LeO.bind (LeO.refl _) fun u => LeO.ite (LeO.bind (LeO.ite (LeO.bind (spec_l7Quote.mono _ _) fun q => LeO.refl _) (LeO.refl _)) fun s2 => LeO.bind (ih0 _) fun r => LeO.ite (ih1 _ _ _ _) (LeO.refl _)) (LeO.refl _)) (LeO.refl _)
theorem spec_l7Text.mono : ∀ t k, LeO (spec_l7Text.f k t) (spec_l7Text.f (k + 1) t) := fun t k => (spec_l7Text.mono_l k).1 t
set_option maxHeartbeats 16000000 in
set_option maxRecDepth 100000 in
theorem spec_l7Text.run : ∀ (k : Nat) (t : T7) (r : ByteArray), spec_l7Text.f k t = some r → ∀ (d g : Nat) (ok : Nat → Prop) (w : World), IsT 72 52 d w ok g t →
    Calls Tryd.prog 46 #[.pointer (some ⟨g, 0, none⟩)] w fun e w' => e = .returned (.string r) ∧ Below w.heap.size w w' := by
  intro k
  induction k using Nat.strongRecOn with
  | _ k IH =>
  intro t r h d g ok w ht
  have hu61 := Tryd.underlying61
  have hu72 := Tryd.underlying72
  have hu52 := Tryd.underlying52
  have HB := Aside0.mk (Below.refl w.heap.size w)
  have HIH := Aside0.mk IH
  clear IH
  cases k with
  | zero => rw [spec_l7Text.f] at h; cases h
  | succ K =>
  rw [spec_l7Text.f] at h
  by_cases c0 : t.kids.length < 1000000
  rotate_left
  · rw [if_neg c0] at h; cases h
  rw [if_pos c0] at h
  have HLEN := Aside0.mk c0
  clear c0
  obtain ⟨v, gs, hblk, hR, hlen, d1, rfl, hF⟩ := ht.root
  obtain ⟨A1, c1, rfl⟩ := Kd.R_slice hR
  have hgl : t.kids.length = gs.length := hlen.symm
  obtain ⟨ks, hks⟩ : ∃ ks, ks = t.kids := ⟨_, rfl⟩
  obtain ⟨x, hx⟩ : ∃ x, x = t.x := ⟨_, rfl⟩
  rw [← hks, ← hx] at h
  rw [← hks] at hgl hF HLEN
  rw [← hx] at hblk
  have HT := Aside0.mk ht
  have HR := Aside0.mk hR
  have HF := Aside0.mk hF
  have HGL := Aside0.mk hgl
  have HBK := Aside0.mk hblk
  clear ht hR hF hlen hgl hks hx
  have hc1 : w.cell? ⟨g, 1, none⟩ = some (.int .i64 x.f1) := (blk_cell hblk 1).trans rfl
  have hc2 : w.cell? ⟨g, 2, none⟩ = some (.int .i64 x.f2) := (blk_cell hblk 2).trans rfl
  have hc3 : w.cell? ⟨g, 3, none⟩ = some (.string x.f3) := (blk_cell hblk 3).trans rfl
  have hc5 : w.cell? ⟨g, 5, none⟩ = some (.slice A1 gs.length c1) := (blk_cell hblk 5).trans rfl
  clear hblk
  obtain ⟨kind, hkind⟩ : ∃ kind, kind = x.f1 := ⟨_, rfl⟩
  rw [← hkind] at h hc1
  have HKD := Aside0.mk hkind
  clear hkind
  by_cases c1 : kind = 1
  · rw [if_pos c1] at h
    have c1b : (kind == 1) = true := beq_iff_eq.mpr c1
    injection h with h
    subst h
    clear c1
    go_enter Tryd.func46, Tryd.ntmps46
    go_wp2
    go_ret
    exact ⟨rfl, HB.out⟩
  rw [if_neg c1] at h
  have c1b : (kind == 1) = false := beq_eq_false_iff_ne.mpr c1
  by_cases c2 : kind = 2
  · rw [if_pos c2] at h
    have c2b : (kind == 2) = true := beq_iff_eq.mpr c2
    injection h with h
    subst h
    clear c2
    go_enter Tryd.func46, Tryd.ntmps46
    go_wp2
    go_ret
    exact ⟨rfl, HB.out⟩
  rw [if_neg c2] at h
  have c2b : (kind == 2) = false := beq_eq_false_iff_ne.mpr c2
  by_cases c3 : kind = 3
  · rw [if_pos c3] at h
    have c3b : (kind == 3) = true := beq_iff_eq.mpr c3
    injection h with h
    subst h
    clear c3
    go_enter Tryd.func46, Tryd.ntmps46
    go_wp2
    go_ret
    exact ⟨rfl, HB.out⟩
  rw [if_neg c3] at h
  have c3b : (kind == 3) = false := beq_eq_false_iff_ne.mpr c3
  by_cases c4 : kind = 4
  · rw [if_pos c4] at h
    have c4b : (kind == 4) = true := beq_iff_eq.mpr c4
    have HV := Aside0.mk h
    clear h
    clear c4
    go_enter Tryd.func46, Tryd.ntmps46
    go_wp2_with (first | ((with_reducible refine gate_callee (f := 74) rfl ?_); refine goesL_ (some 24) rfl rfl Tryd.func74 (by kernel_rfl) rfl #[.int .i64 x.f2] rfl (by (try simp only [List.map_toArray, List.map_cons, List.map_nil]); first | done | rfl) ?_; (refine (spec_l7Whole.calls K x.f2 r _ HV.out).mono ?_); rintro e w3 ⟨rfl, hb⟩; refine ⟨_, rfl, ?_⟩; have m0_ := Aside0.mk (below_step HB.out hb); clear HB hb; have HB := m0_; clear m0_))
    go_ret
    exact ⟨rfl, HB.out⟩
  rw [if_neg c4] at h
  have c4b : (kind == 4) = false := beq_eq_false_iff_ne.mpr c4
  by_cases c5 : kind = 5
  · rw [if_pos c5] at h
    have c5b : (kind == 5) = true := beq_iff_eq.mpr c5
    have HV := Aside0.mk h
    clear h
    clear c5
    go_enter Tryd.func46, Tryd.ntmps46
    go_wp2_with (first | ((with_reducible refine gate_callee (f := 75) rfl ?_); refine goesL_ (some 32) rfl rfl Tryd.func75 (by kernel_rfl) rfl #[.string x.f3] rfl (by (try simp only [List.map_toArray, List.map_cons, List.map_nil]); first | done | rfl) ?_; (refine (spec_l7Quote.calls K x.f3 r _ HV.out).mono ?_); rintro e w3 ⟨rfl, hb⟩; refine ⟨_, rfl, ?_⟩; have m0_ := Aside0.mk (below_step HB.out hb); clear HB hb; have HB := m0_; clear m0_))
    go_ret
    exact ⟨rfl, HB.out⟩
  rw [if_neg c5] at h
  have c5b : (kind == 5) = false := beq_eq_false_iff_ne.mpr c5
  have HL := Aside0.mk h
  clear h
  go_enter Tryd.func46, Tryd.ntmps46
  go_wp2
  clear hc5 hc2 hc3 hc1 c1b c2b c3b c4b c5b c1 c2 c3 c4 c5
  go_loopg [3, 38] K (fun kq v3 v38 w' => ∃ (s : ByteArray) (i : Int), v3 = .string s ∧ v38 = .int .i64 i ∧ Aside0 (spec_l7Text.l kq kind ks s i = some r ∧ kq ≤ K ∧ 0 ≤ i) ∧ Aside0 (Below w.heap.size w w'))
  case atStart => exact ⟨⟨#[]⟩, 0, rfl, rfl, ⟨HL.out, Nat.le_refl _, Int.le_refl _⟩, HB⟩
  case round =>
    clear HL HB
    obtain ⟨s, i, rfl, rfl, HL, HB⟩ := hrel
    have hk1 : wr.cell? ⟨g, 1, none⟩ = some (.int .i64 kind) := (blk_cell (blk_below HBK.out HB.out) 1).trans (by rw [HKD.out]; rfl)
    cases gk with
    | zero => have := HL.out.1; rw [spec_l7Text.l] at this; cases this
    | succ m =>
      have h := HL.out.1
      rw [spec_l7Text.l] at h
      by_cases c5 : i < (ks.length : Int)
      rotate_left
      · rw [if_neg c5] at h
        have c5b0 : decide (i < (gs.length : Int)) = false := decide_eq_false (by rw [← HGL.out]; exact c5)
        by_cases cs : s.size + 2 ≤ 9223372036854775807
        rotate_left
        · rw [if_neg cs] at h; cases h
        rw [if_pos cs] at h
        have z1 : (9223372036854775807 < 1 + s.size) = False := eq_false (by omega)
        have z2 : (9223372036854775807 < 1 + s.size + 1) = False := eq_false (by omega)
        have z3 : (9223372036854775807 < s.size + 1) = False := eq_false (by omega)
        clear c5 cs
        by_cases c7 : kind = 7
        · rw [if_pos c7] at h
          have c7b : (kind == 7) = true := beq_iff_eq.mpr c7
          injection h with h
          subst h
          clear c7
          go_wp2
          go_ret
          exact ⟨by first | rfl | (simp; done), HB.out⟩
        · rw [if_neg c7] at h
          have c7b : (kind == 7) = false := beq_eq_false_iff_ne.mpr c7
          injection h with h
          subst h
          clear c7
          go_wp2
          go_ret
          exact ⟨by first | rfl | (simp; done), HB.out⟩
      rw [if_pos c5] at h
      have c5b0 : decide (i < (gs.length : Int)) = true := decide_eq_true (by rw [← HGL.out]; exact c5)
      have hi0 : (0 ≤ i) = True := eq_true HL.out.2.2
      have hi1 : (i < (gs.length : Int)) = True := eq_true (by rw [← HGL.out]; exact c5)
      have hi2 : wrap64 (i + 1) = i + 1 := by unfold wrap64; have := HL.out.2.2; have := HLEN.out; omega
      have hi3 : IntKind.i64.wrap (i + 1) = i + 1 := by rw [IntKind.wrap_i64]; have := HL.out.2.2; have := HLEN.out; omega
      obtain ⟨u, hu, h⟩ := Option.bind_eq_some_iff.mp h
      by_cases cs : s.size + 1 ≤ 9223372036854775807
      rotate_left
      · rw [if_neg cs] at h; cases h
      rw [if_pos cs] at h
      have z1 : (9223372036854775807 < s.size + 1) = False := eq_false (by omega)
      clear cs
      obtain ⟨s2, hs2, h⟩ := Option.bind_eq_some_iff.mp h
      obtain ⟨q, hq, h⟩ := Option.bind_eq_some_iff.mp h
      by_cases cr : s2.size + q.size ≤ 9223372036854775807
      rotate_left
      · rw [if_neg cr] at h; cases h
      rw [if_pos cr] at h
      have z2 : (9223372036854775807 < s2.size + q.size) = False := eq_false (by omega)
      clear cr
      obtain ⟨gu, hgu⟩ : ∃ gu, gs[i.toNat]? = some gu := ⟨_, List.getElem?_eq_getElem (by have := HL.out.2.2; have := HGL.out; omega)⟩
      have HC := Aside0.mk (HIH.out m (by have := HL.out.2.1; omega) u q hq d1 gu ok)
      have HU := Aside0.mk (HF.out.2 i.toNat gu u hgu hu)
      obtain ⟨vu, gsu, hbu, _⟩ := (HU.out.below HB.out).root
      have hku : wr.cell? ⟨gu, 0, none⟩ = some (.string u.x.f0) := (blk_cell hbu 0).trans rfl
      obtain ⟨ad, e0, hcl⟩ := kp_at HR.out hgu
      cases e0
      have X0 := Aside0.mk hcl
      have hx0 := (HB.out.cell (World.block_lt_of_cell? _ _ X0.out)).trans X0.out
      have HL2 := Aside0.mk (show spec_l7Text.l m kind ks (s2 ++ q) (i + 1) = some r ∧ m ≤ K ∧ 0 ≤ i + 1 from ⟨h, by have := HL.out.2.1; omega, by have := HL.out.2.2; omega⟩)
      clear c5 hu hq hgu hcl hbu h
      by_cases c6 : 0 < i
      · have c6b : decide (0 < i) = true := decide_eq_true c6
        rw [if_pos c6] at hs2
        clear c6
        obtain ⟨s1, e1⟩ : ∃ s1, s ++ ⟨#[44]⟩ = s1 := ⟨_, rfl⟩
        rw [e1] at hs2
        have E1 := Aside0.mk e1
        clear e1
        by_cases c7 : kind = 7
        · have c7b : (kind == 7) = true := beq_iff_eq.mpr c7
          rw [if_pos c7] at hs2
          clear c7
          obtain ⟨y, hy, hs2⟩ := Option.bind_eq_some_iff.mp hs2
          have HY := Aside0.mk hy
          clear hy
          by_cases cy : y.size + 1 ≤ 9223372036854775807 ∧ s1.size + (y.size + 1) ≤ 9223372036854775807
          rotate_left
          · rw [if_neg cy] at hs2; cases hs2
          rw [if_pos cy] at hs2
          injection hs2 with hs2
          have E2 := Aside0.mk hs2
          have z3 : (9223372036854775807 < y.size + 1) = False := eq_false (by omega)
          have z4 : (9223372036854775807 < s1.size + (y.size + 1)) = False := eq_false (by omega)
          clear cy hs2
          go_wp2_with (first | ((with_reducible refine gate_callee (f := 75) rfl ?_); (try rw [E1.out]); refine goesL_ (some 59) rfl rfl Tryd.func75 (by kernel_rfl) rfl #[.string u.x.f0] rfl (by (try simp only [List.map_toArray, List.map_cons, List.map_nil]); first | done | rfl) ?_; (refine (spec_l7Quote.calls m u.x.f0 y _ HY.out).mono ?_); rintro e w3 ⟨rfl, hb⟩; refine ⟨_, rfl, ?_⟩; have m0_ := Aside0.mk (below_step HB.out hb); clear hx0 hku hk1 HB hb; have HB := m0_; clear m0_; have hk1 : w3.cell? ⟨g, 1, none⟩ = some (.int .i64 kind) := (blk_cell (blk_below HBK.out HB.out) 1).trans (by rw [HKD.out]; rfl)) | ((with_reducible refine gate_callee (f := 46) rfl ?_); (try rw [E2.out]); refine goesL_ (some 64) rfl rfl Tryd.func46 (by kernel_rfl) rfl #[.pointer (some ⟨gu, 0, none⟩)] rfl (by (try simp only [List.map_toArray, List.map_cons, List.map_nil]); first | done | rfl) ?_; (refine (HC.out _ (HU.out.below HB.out)).mono ?_); rintro e w4 ⟨rfl, hb⟩; refine ⟨_, rfl, ?_⟩; have m0_ := Aside0.mk (below_step HB.out hb); (try clear hx0); (try clear hku); clear hk1 HB hb; have HB := m0_; clear m0_; have hk1 : w4.cell? ⟨g, 1, none⟩ = some (.int .i64 kind) := (blk_cell (blk_below HBK.out HB.out) 1).trans (by rw [HKD.out]; rfl)))
          go_roundg m
          case measure => have := HL2.out.2.1; omega
          case rel => exact ⟨s2 ++ q, i + 1, by first | rfl | (simp; done), by first | rfl | (rw [hi2]; done) | (rw [hi3]; done), HL2, HB⟩
        · have c7b : (kind == 7) = false := beq_eq_false_iff_ne.mpr c7
          rw [if_neg c7] at hs2
          injection hs2 with hs2
          clear c7
          have E2 := Aside0.mk hs2
          clear hs2
          go_wp2_with (first | ((with_reducible refine gate_callee (f := 46) rfl ?_); (try rw [E1.out]); (try rw [E2.out]); refine goesL_ (some 64) rfl rfl Tryd.func46 (by kernel_rfl) rfl #[.pointer (some ⟨gu, 0, none⟩)] rfl (by (try simp only [List.map_toArray, List.map_cons, List.map_nil]); first | done | rfl) ?_; (refine (HC.out _ (HU.out.below HB.out)).mono ?_); rintro e w4 ⟨rfl, hb⟩; refine ⟨_, rfl, ?_⟩; have m0_ := Aside0.mk (below_step HB.out hb); (try clear hx0); (try clear hku); clear hk1 HB hb; have HB := m0_; clear m0_; have hk1 : w4.cell? ⟨g, 1, none⟩ = some (.int .i64 kind) := (blk_cell (blk_below HBK.out HB.out) 1).trans (by rw [HKD.out]; rfl)))
          go_roundg m
          case measure => have := HL2.out.2.1; omega
          case rel => exact ⟨s2 ++ q, i + 1, by first | rfl | (simp; done), by first | rfl | (rw [hi2]; done) | (rw [hi3]; done), HL2, HB⟩
      · have c6b : decide (0 < i) = false := decide_eq_false c6
        rw [if_neg c6] at hs2
        clear c6
        obtain ⟨s1, e1⟩ : ∃ s1, s = s1 := ⟨_, rfl⟩
        subst e1
        have E1 := Aside0.mk (rfl : s = s)
        by_cases c7 : kind = 7
        · have c7b : (kind == 7) = true := beq_iff_eq.mpr c7
          rw [if_pos c7] at hs2
          clear c7
          obtain ⟨y, hy, hs2⟩ := Option.bind_eq_some_iff.mp hs2
          have HY := Aside0.mk hy
          clear hy
          by_cases cy : y.size + 1 ≤ 9223372036854775807 ∧ s.size + (y.size + 1) ≤ 9223372036854775807
          rotate_left
          · rw [if_neg cy] at hs2; cases hs2
          rw [if_pos cy] at hs2
          injection hs2 with hs2
          have E2 := Aside0.mk hs2
          have z3 : (9223372036854775807 < y.size + 1) = False := eq_false (by omega)
          have z4 : (9223372036854775807 < s.size + (y.size + 1)) = False := eq_false (by omega)
          clear cy hs2
          go_wp2_with (first | ((with_reducible refine gate_callee (f := 75) rfl ?_); refine goesL_ (some 59) rfl rfl Tryd.func75 (by kernel_rfl) rfl #[.string u.x.f0] rfl (by (try simp only [List.map_toArray, List.map_cons, List.map_nil]); first | done | rfl) ?_; (refine (spec_l7Quote.calls m u.x.f0 y _ HY.out).mono ?_); rintro e w3 ⟨rfl, hb⟩; refine ⟨_, rfl, ?_⟩; have m0_ := Aside0.mk (below_step HB.out hb); clear hx0 hku hk1 HB hb; have HB := m0_; clear m0_; have hk1 : w3.cell? ⟨g, 1, none⟩ = some (.int .i64 kind) := (blk_cell (blk_below HBK.out HB.out) 1).trans (by rw [HKD.out]; rfl)) | ((with_reducible refine gate_callee (f := 46) rfl ?_); (try rw [E2.out]); refine goesL_ (some 64) rfl rfl Tryd.func46 (by kernel_rfl) rfl #[.pointer (some ⟨gu, 0, none⟩)] rfl (by (try simp only [List.map_toArray, List.map_cons, List.map_nil]); first | done | rfl) ?_; (refine (HC.out _ (HU.out.below HB.out)).mono ?_); rintro e w4 ⟨rfl, hb⟩; refine ⟨_, rfl, ?_⟩; have m0_ := Aside0.mk (below_step HB.out hb); (try clear hx0); (try clear hku); clear hk1 HB hb; have HB := m0_; clear m0_; have hk1 : w4.cell? ⟨g, 1, none⟩ = some (.int .i64 kind) := (blk_cell (blk_below HBK.out HB.out) 1).trans (by rw [HKD.out]; rfl)))
          go_roundg m
          case measure => have := HL2.out.2.1; omega
          case rel => exact ⟨s2 ++ q, i + 1, by first | rfl | (simp; done), by first | rfl | (rw [hi2]; done) | (rw [hi3]; done), HL2, HB⟩
        · have c7b : (kind == 7) = false := beq_eq_false_iff_ne.mpr c7
          rw [if_neg c7] at hs2
          injection hs2 with hs2
          clear c7
          have E2 := Aside0.mk hs2
          clear hs2
          go_wp2_with (first | ((with_reducible refine gate_callee (f := 46) rfl ?_); (try rw [E2.out]); refine goesL_ (some 64) rfl rfl Tryd.func46 (by kernel_rfl) rfl #[.pointer (some ⟨gu, 0, none⟩)] rfl (by (try simp only [List.map_toArray, List.map_cons, List.map_nil]); first | done | rfl) ?_; (refine (HC.out _ (HU.out.below HB.out)).mono ?_); rintro e w4 ⟨rfl, hb⟩; refine ⟨_, rfl, ?_⟩; have m0_ := Aside0.mk (below_step HB.out hb); (try clear hx0); (try clear hku); clear hk1 HB hb; have HB := m0_; clear m0_; have hk1 : w4.cell? ⟨g, 1, none⟩ = some (.int .i64 kind) := (blk_cell (blk_below HBK.out HB.out) 1).trans (by rw [HKD.out]; rfl)))
          go_roundg m
          case measure => have := HL2.out.2.1; omega
          case rel => exact ⟨s2 ++ q, i + 1, by first | rfl | (simp; done), by first | rfl | (rw [hi2]; done) | (rw [hi3]; done), HL2, HB⟩
theorem spec_l7Text.calls (k : Nat) (v0_ : Value) (o : Option T7) (t : T7) (r : ByteArray) (d b : Nat) (w : World) (hp : IsP 72 52 d w b v0_ o) (ho : o = some t) (h : spec_l7Text.f k t = some r) :
    Calls Tryd.prog 46 #[v0_] w fun e w' => e = .returned (.string r) ∧ Below w.heap.size w w' := by
  subst ho
  obtain ⟨g, rfl, ht⟩ := hp
  exact spec_l7Text.run k t r h d g _ w ht

/-! ### spec_ValueText: function 23 -/
def spec_ValueText.f (k : Nat) (l : List S61) : Option (ByteArray × Bool) := (spec_l7Of.f k l).bind fun r => if r.2 = false then some (ByteArray.empty, false) else r.1.bind fun t => (spec_l7Text.f k t).bind fun d => if 600 < d.size then some (ByteArray.empty, false) else some (d, true)
theorem spec_ValueText.mono : ∀ l k, LeO (spec_ValueText.f k l) (spec_ValueText.f (k + 1) l) := by
  intro l k
  unfold spec_ValueText.f
  exact LeO.bind (spec_l7Of.mono _ _) (fun r => LeO.ite (LeO.refl _) (LeO.bind (LeO.refl _) fun t => LeO.bind (spec_l7Text.mono _ _) fun d => LeO.refl _))
theorem spec_ValueText.calls (k : Nat) (A0 : Option Addr) (c0 : Nat) (l : List S61) (r1_ : ByteArray) (r2_ : Bool) (w : World) (hr0 : Kd.C k61 w A0 l.length l) (hc0 : l.length ≤ c0) (h : spec_ValueText.f k l = some (r1_, r2_)) :
    Calls Tryd.prog 23 #[.slice A0 l.length c0] w fun e w' => e = .returned (.tuple #[.string r1_, .bool r2_]) ∧ Below w.heap.size w w' := by
  have HR0 := Aside0.mk hr0
  have HC0 := Aside0.mk hc0
  have HB := Aside0.mk (Below.refl w.heap.size w)
  clear hr0 hc0
  unfold spec_ValueText.f at h
  obtain ⟨⟨t1, t2⟩, ht, h⟩ := Option.bind_eq_some_iff.mp h
  have HT := Aside0.mk ht
  clear ht
  cases t2 with
  | false =>
    injection h with h
    injection h with h1 h2
    subst h1
    subst h2
    go_enter Tryd.func23, Tryd.ntmps23
    go_wp2_with (first | (go_at_call 39; refine (spec_l7Of.run k l _ _ HT.out A0 c0 _ (Kd.C_below HR0.out HB.out) HC0.out).mono ?_; rintro e w3 ⟨v13, rfl, hp, hb⟩; have HP := Aside0.mk hp; have m0_ := Aside0.mk (below_step HB.out hb); clear hp HB hb; have HB := m0_; clear m0_))
    go_ret2
    exact ⟨rfl, HB.out⟩
  | true =>
    obtain ⟨t, e1, h3⟩ := Option.bind_eq_some_iff.mp h
    obtain ⟨d, hd, h4⟩ := Option.bind_eq_some_iff.mp h3
    have e1 : t1 = some t := e1
    clear h h3
    subst e1
    have h := h4
    clear h4
    have HD := Aside0.mk hd
    clear hd
    by_cases c : 600 < d.size
    all_goals
      first | rw [if_pos c] at h | rw [if_neg c] at h
      injection h with h
      injection h with h1 h2
      subst h1
      subst h2
      try have q0 := eq_true c
      try have q0 := eq_false c
      go_enter Tryd.func23, Tryd.ntmps23
      go_wp2_with (first | (go_at_call 39; refine (spec_l7Of.run k l _ _ HT.out A0 c0 _ (Kd.C_below HR0.out HB.out) HC0.out).mono ?_; rintro e w3 ⟨v13, rfl, hp, hb⟩; have HP := Aside0.mk hp; have m0_ := Aside0.mk (below_step HB.out hb); clear hp HB hb; have HB := m0_; clear m0_) | (go_at_call 46; refine (spec_l7Text.calls k v13 _ t d _ _ _ HP.out rfl HD.out).mono ?_; rintro e w4 ⟨rfl, hb⟩; have m0_ := Aside0.mk (below_step HB.out hb); clear HB hb HP; have HB := m0_; clear m0_))
      go_ret2
      exact ⟨rfl, HB.out⟩

/-! ### impl_within: function 70 -/
def impl_within.f (a0 : Int) (a1 : Int) (a2 : Int) : Option (Bool) := if a0 ≥ a1 then (some (decide (a0 ≤ a2))) else (some false)
set_option maxHeartbeats 8000000 in
set_option maxRecDepth 100000 in
theorem impl_within.calls (a0 : Int) (a1 : Int) (a2 : Int) (r : Bool) (w : World) (h : impl_within.f a0 a1 a2 = some r) :
    Calls Tryd.prog 70 #[.int .i64 a0, .int .i64 a1, .int .i64 a2] w fun e w' => e = .returned (.bool r) ∧ Drawn0 w w' := by
  have H : (if a0 ≥ a1 then (some (decide (a0 ≤ a2))) else (some false)) = some r := h
  clear h
  by_cases c4 : a0 ≥ a1
  · rw [if_pos c4] at H
    have c4b0 : decide (a1 ≤ a0) = true := decide_eq_true c4
    clear c4
    obtain rfl := Option.some.inj H
    go_enter Tryd.func70, Tryd.ntmps70
    go_wp2
    go_ret
    exact ⟨by first | rfl | (simp; done) | (simp [*]; done), by repeat (first | exact Drawn0.refl _ | apply Drawn0.step)⟩
  · rw [if_neg c4] at H
    have c4b0 : decide (a1 ≤ a0) = false := decide_eq_false c4
    clear c4
    obtain rfl := Option.some.inj H
    go_enter Tryd.func70, Tryd.ntmps70
    go_wp2
    go_ret
    exact ⟨by first | rfl | (simp; done) | (simp [*]; done), by repeat (first | exact Drawn0.refl _ | apply Drawn0.step)⟩

/-! ### impl_sizeOf: function 71 -/
mutual
def impl_sizeOf.l0 : Nat → List (S61) → Int → Int → Option (Int)
  | 0, _, _, _ => none
  | k + 1, x0, x3, x4 => if x4 > 0 then (if x3 = (x0.length : Int) then (impl_sizeOf.j1 k x0 x3 x4 true) else (impl_sizeOf.j1 k x0 x3 x4 (x3 == 40))) else (some x3)
def impl_sizeOf.j1 : Nat → List (S61) → Int → Int → Bool → Option (Int)
  | 0, _, _, _, _ => none
  | k + 1, x0, x3, x4, x17 => if x17 = true then (some 0) else (if 0 ≤ x3 then (if x3 < (x0.length : Int) then (if ((rd_T61 x0 x3).f1) ≥ 6 then ((impl_within.f ((rd_T61 x0 x3).f4) 0 40).bind fun t214 => (if t214 = true then (impl_sizeOf.l0 k x0 (wrap64 (x3 + 1)) (wrap64 ((wrap64 (x4 + ((rd_T61 x0 x3).f4))) - 1))) else (some 0))) else (impl_sizeOf.l0 k x0 (wrap64 (x3 + 1)) (wrap64 (x4 - 1)))) else (none)) else (none))
end
def impl_sizeOf.f (k : Nat) (l0 : List (S61)) : Option (Int) := impl_sizeOf.l0 k l0 0 1
theorem impl_sizeOf.mono_l : ∀ k, (∀ y0 y1 y2, LeO (impl_sizeOf.l0 k y0 y1 y2) (impl_sizeOf.l0 (k + 1) y0 y1 y2)) ∧ (∀ y0 y1 y2 y3, LeO (impl_sizeOf.j1 k y0 y1 y2 y3) (impl_sizeOf.j1 (k + 1) y0 y1 y2 y3))
  | 0 => ⟨fun _ _ _ r h => by simp [impl_sizeOf.l0] at h, fun _ _ _ _ r h => by simp [impl_sizeOf.j1] at h⟩
  | k + 1 => by
    obtain ⟨ih0, ih1⟩ := impl_sizeOf.mono_l k
    refine ⟨?_, ?_⟩
    · intro y0 y1 y2
      unfold impl_sizeOf.l0
      repeat' first
      | (with_reducible exact ih0 _ _ _)
      | (with_reducible exact ih1 _ _ _ _)
      | (with_reducible exact LeO.refl _)
      | (with_reducible exact LeO.none _)
      | (with_reducible refine LeO.ite ?_ ?_)
      | (with_reducible refine LeO.bind ?_ (fun _ => ?_))
      | exact ih0 _ _ _
      | exact ih1 _ _ _ _
      | exact LeO.none _
      | refine LeO.ite ?_ ?_
      | refine LeO.bind ?_ (fun _ => ?_)
    · intro y0 y1 y2 y3
      unfold impl_sizeOf.j1
      repeat' first
      | (with_reducible exact ih0 _ _ _)
      | (with_reducible exact ih1 _ _ _ _)
      | (with_reducible exact LeO.refl _)
      | (with_reducible exact LeO.none _)
      | (with_reducible refine LeO.ite ?_ ?_)
      | (with_reducible refine LeO.bind ?_ (fun _ => ?_))
      | exact ih0 _ _ _
      | exact ih1 _ _ _ _
      | exact LeO.none _
      | refine LeO.ite ?_ ?_
      | refine LeO.bind ?_ (fun _ => ?_)
theorem impl_sizeOf.mono : ∀ a0 k, LeO (impl_sizeOf.f k a0) (impl_sizeOf.f (k + 1) a0) := by
  intro a0 k
  obtain ⟨ih0, ih1⟩ := impl_sizeOf.mono_l k
  unfold impl_sizeOf.f
  repeat' first
      | (with_reducible exact ih0 _ _ _)
      | (with_reducible exact ih1 _ _ _ _)
      | (with_reducible exact LeO.refl _)
      | (with_reducible exact LeO.none _)
      | (with_reducible refine LeO.ite ?_ ?_)
      | (with_reducible refine LeO.bind ?_ (fun _ => ?_))
      | exact ih0 _ _ _
      | exact ih1 _ _ _ _
      | exact LeO.none _
      | refine LeO.ite ?_ ?_
      | refine LeO.bind ?_ (fun _ => ?_)
set_option maxHeartbeats 8000000 in
set_option maxRecDepth 100000 in
theorem impl_sizeOf.calls (k : Nat) (A0 : Option Addr) (c0 : Nat) (l0 : List (S61)) (r : Int) (w : World) (hr0 : Kd.C k61 w A0 l0.length l0) (hc0 : l0.length ≤ c0) (h : impl_sizeOf.f k l0 = some r) :
    Calls Tryd.prog 71 #[.slice A0 l0.length c0] w fun e w' => e = .returned (.int .i64 r) ∧ Below w.heap.size w w' := by
  have hu61 := Tryd.underlying61
  have HR0 := Aside0.mk hr0
  have HC0 := Aside0.mk hc0
  clear hr0 hc0
  have HB := Aside0.mk (Below.refl w.heap.size w)
  have H : (impl_sizeOf.l0 k l0 0 1) = some r := h
  clear h
  have H' := Aside0.mk H
  clear H
  go_enter Tryd.func71, Tryd.ntmps71
  go_wp2
  go_loopg [3, 4] k (fun kq v3 v4 w' => ∃ (x3_1 : Int) (x4_1 : Int), v3 = .int .i64 x3_1 ∧ v4 = .int .i64 x4_1 ∧ Aside0 (impl_sizeOf.l0 kq l0 x3_1 x4_1 = some r) ∧ Aside0 (kq ≤ k) ∧ Aside0 (Below w.heap.size w w'))
  case atStart => exact ⟨(0), (1), (by first | rfl | (simp; done) | (simp [*]; done) | (simp; apply Bool.eq_iff_iff.mpr; simp only [bne_iff_ne, ne_eq, beq_iff_eq]; omega)), (by first | rfl | (simp; done) | (simp [*]; done) | (simp; apply Bool.eq_iff_iff.mpr; simp only [bne_iff_ne, ne_eq, beq_iff_eq]; omega)), H', ⟨Nat.le_refl _⟩, ⟨by repeat (first | (with_reducible first | exact HB.out | apply below_alloc | apply pw_below_drewN | apply below_drew1) | exact HB.out)⟩⟩
  case round =>
    clear H'
    obtain ⟨x3_1, x4_1, rfl, rfl, HA, HK1, HB⟩ := hrel
    cases gk with
    | zero => exact absurd HA.out (by simp [impl_sizeOf.l0])
    | succ k1 =>
      have H := HA.out
      clear HA
      simp only [impl_sizeOf.l0] at H
      by_cases c2 : x4_1 > 0
      · rw [if_pos c2] at H
        have c2b0 : decide (0 < x4_1) = true := decide_eq_true c2
        clear c2
        have HC3 := Aside0.mk H
        clear H
        go_upto_region 5 with (fail)
        go_cut [17] (fun v17 wc => ∃ (kq : Nat) (x17_2 : Bool), v17 = .bool x17_2 ∧ Aside0 (impl_sizeOf.j1 kq l0 x3_1 x4_1 x17_2 = some r) ∧ Aside0 (kq ≤ k1) ∧ Aside0 (Below w.heap.size w wc))
        case first =>
          have H := HC3.out
          clear HC3
          by_cases c4 : x3_1 = (l0.length : Int)
          · rw [if_pos c4] at H
            have c4b0 : (x3_1 == (l0.length : Int)) = true := beq_iff_eq.mpr c4
            have c4b1 : (x3_1 != (l0.length : Int)) = false := bne_eq_false_iff_eq.mpr c4
            clear c4
            (first | rw [c4b0] | (simp only [i64_w, i32_w]; rw [c4b0]) | skip)
            have H' := Aside0.mk H
            clear H
            go_wp2
            go_meet
            case rel => exact ⟨_, (true), (by first | rfl | (simp; done) | (simp [*]; done) | (simp; apply Bool.eq_iff_iff.mpr; simp only [bne_iff_ne, ne_eq, beq_iff_eq]; omega)), H', ⟨by have := HK1.out; first | omega | exact Nat.le_refl _⟩, ⟨by repeat (first | (with_reducible first | exact HB.out | apply below_alloc | apply pw_below_drewN | apply below_drew1) | exact HB.out)⟩⟩
          · rw [if_neg c4] at H
            have c4b0 : (x3_1 == (l0.length : Int)) = false := beq_eq_false_iff_ne.mpr c4
            have c4b1 : (x3_1 != (l0.length : Int)) = true := bne_iff_ne.mpr c4
            (first | rw [c4b0] | (simp only [i64_w, i32_w]; rw [c4b0]) | skip)
            have H' := Aside0.mk H
            clear H
            go_wp2
            go_meet
            case rel => exact ⟨_, ((x3_1 == 40)), (by first | rfl | (simp; done) | (simp [*]; done) | (simp; apply Bool.eq_iff_iff.mpr; simp only [bne_iff_ne, ne_eq, beq_iff_eq]; omega)), H', ⟨by have := HK1.out; first | omega | exact Nat.le_refl _⟩, ⟨by repeat (first | (with_reducible first | exact HB.out | apply below_alloc | apply pw_below_drewN | apply below_drew1) | exact HB.out)⟩⟩
        case rest =>
          clear HC3
          try clear c2
          try clear c2b0
          try clear p2
          try clear c4
          try clear c4b0
          try clear c4b1
          obtain ⟨kq, x17_2, rfl, HA, HJ2, HB⟩ := hcut
          cases kq with
          | zero => exact absurd HA.out (by simp [impl_sizeOf.j1])
          | succ kj2 =>
            have H := HA.out
            clear HA
            simp only [impl_sizeOf.j1] at H
            by_cases c5 : x17_2 = true
            · subst c5
              have H1 : (some 0) = some r := by rw [if_pos rfl] at H; exact H
              clear H
              have H := H1
              clear H1
              obtain rfl := Option.some.inj H
              go_wp2
              go_ret
              exact ⟨by first | rfl | (simp [errW_none, errW_some] <;> rfl) | (simp [*, errW_none, errW_some] <;> rfl), by repeat (first | (with_reducible first | exact HB.out | apply below_alloc | apply pw_below_drewN | apply below_drew1) | exact HB.out)⟩
            · replace c5 := Bool.eq_false_iff.mpr c5
              subst c5
              have H1 : (if 0 ≤ x3_1 then (if x3_1 < (l0.length : Int) then (if ((rd_T61 l0 x3_1).f1) ≥ 6 then ((impl_within.f ((rd_T61 l0 x3_1).f4) 0 40).bind fun t214 => (if t214 = true then (impl_sizeOf.l0 kj2 l0 (wrap64 (x3_1 + 1)) (wrap64 ((wrap64 (x4_1 + ((rd_T61 l0 x3_1).f4))) - 1))) else (some 0))) else (impl_sizeOf.l0 kj2 l0 (wrap64 (x3_1 + 1)) (wrap64 (x4_1 - 1)))) else (none)) else (none)) = some r := by rw [if_neg (show ¬ (false = true) by decide)] at H; exact H
              clear H
              have H := H1
              clear H1
              by_cases c6 : 0 ≤ x3_1
              · rw [if_pos c6] at H
                have c6b0 : decide (0 ≤ x3_1) = true := decide_eq_true c6
                clear c6
                by_cases c7 : x3_1 < (l0.length : Int)
                · rw [if_pos c7] at H
                  have c7b0 : decide (x3_1 < (l0.length : Int)) = true := decide_eq_true c7
                  clear c7
                  by_cases c8 : ((rd_T61 l0 x3_1).f1) ≥ 6
                  · rw [if_pos c8] at H
                    have c8b0 : decide (6 ≤ ((rd_T61 l0 x3_1).f1)) = true := decide_eq_true c8
                    clear c8
                    replace H := Option.bind_eq_some_iff.mp H
                    obtain ⟨t214, A90, H⟩ := H
                    replace H : (if t214 = true then (impl_sizeOf.l0 kj2 l0 (wrap64 (x3_1 + 1)) (wrap64 ((wrap64 (x4_1 + ((rd_T61 l0 x3_1).f4))) - 1))) else (some 0)) = some r := H
                    have A9 := Aside0.mk A90
                    clear A90
                    by_cases c10 : t214 = true
                    · subst c10
                      have H1 : (impl_sizeOf.l0 kj2 l0 (wrap64 (x3_1 + 1)) (wrap64 ((wrap64 (x4_1 + ((rd_T61 l0 x3_1).f4))) - 1))) = some r := by rw [if_pos rfl] at H; exact H
                      clear H
                      have H := H1
                      clear H1
                      have H' := Aside0.mk H
                      clear H
                      have p212 : 0 ≤ (x3_1 : Int) := of_decide_eq_true (by first | (with_reducible assumption) | assumption)
                      have q212 : x3_1 < (l0.length : Int) := of_decide_eq_true (by first | (with_reducible assumption) | assumption)
                      obtain ⟨ad212, e212, hx212_0, hx212_1, hx212_2, hx212_3, hx212_4⟩ := at_T61 HR0.out x3_1 p212 q212
                      cases e212
                      replace hx212_0 := (HB.out.cell (World.block_lt_of_cell? w _ hx212_0)).trans hx212_0
                      replace hx212_1 := (HB.out.cell (World.block_lt_of_cell? w _ hx212_1)).trans hx212_1
                      replace hx212_2 := (HB.out.cell (World.block_lt_of_cell? w _ hx212_2)).trans hx212_2
                      replace hx212_3 := (HB.out.cell (World.block_lt_of_cell? w _ hx212_3)).trans hx212_3
                      replace hx212_4 := (HB.out.cell (World.block_lt_of_cell? w _ hx212_4)).trans hx212_4
                      replace p212 := eq_true p212
                      replace q212 := eq_true q212
                      go_wp2_with (first | ((with_reducible refine gate_dst (N := 5) rfl ?_); refine box_event ?hg (N := 5) ?hd (cs := #[.string (⟨#[]⟩ : ByteArray), .int .i64 0, .int .i64 0, .string (⟨#[]⟩ : ByteArray), .int .i64 0]) (t := 61) ?hr ?_; (case hd => rfl); (case hg => rfl); (case hr => first | (go_simp; done) | (go_simp; rfl)); intro gb213 hg w11 hbox hb; have n0_ := Aside0.mk (below_step (by repeat (first | (with_reducible first | exact HB.out | apply below_alloc | apply pw_below_drewN | apply below_drew1) | exact HB.out)) hb); have n1_ := Aside0.mk (hbox); have n2_ := Aside0.mk ((by rw [hg]; exact (below_size (by repeat (first | (with_reducible first | exact HB.out | apply below_alloc | apply pw_below_drewN | apply below_drew1) | exact HB.out))) : w.heap.size ≤ gb213)); have n3_ := Aside0.mk ((by rw [hg]; exact (below_size (by repeat (first | (with_reducible first | exact HB.out | apply below_alloc | apply pw_below_drewN | apply below_drew1) | exact HB.out))) : w.heap.size ≤ gb213)); clear HB; have HB := n0_; have BK213 := n1_; have GW213 := n2_; have GE213 := n3_; clear n0_ n1_ n2_ n3_; clear hb hbox hg; have hcz12_0 : w11.cell? ⟨gb213, 0, none⟩ = some (.string (⟨#[]⟩ : ByteArray)) := (blk_cell BK213.out 0).trans rfl; have hcz12_1 : w11.cell? ⟨gb213, 1, none⟩ = some (.int .i64 0) := (blk_cell BK213.out 1).trans rfl; have hcz12_2 : w11.cell? ⟨gb213, 2, none⟩ = some (.int .i64 0) := (blk_cell BK213.out 2).trans rfl; have hcz12_3 : w11.cell? ⟨gb213, 3, none⟩ = some (.string (⟨#[]⟩ : ByteArray)) := (blk_cell BK213.out 3).trans rfl; have hcz12_4 : w11.cell? ⟨gb213, 4, none⟩ = some (.int .i64 0) := (blk_cell BK213.out 4).trans rfl; have hfz12_0 := blk_frozen BK213.out 0; have hfz12_1 := blk_frozen BK213.out 1; have hfz12_2 := blk_frozen BK213.out 2; have hfz12_3 := blk_frozen BK213.out 3; have hfz12_4 := blk_frozen BK213.out 4) | ((with_reducible refine gate_callee (f := 70) rfl ?_); refine goesL_ (some 27) rfl rfl Tryd.func70 (by kernel_rfl) rfl #[.int .i64 ((rd_T61 l0 x3_1).f4), .int .i64 0, .int .i64 40] rfl (by (try simp only [List.map_toArray, List.map_cons, List.map_nil]); first | done | rfl | (simp only [List.length_drop, List.length_take]; rfl)) ?_; (with_reducible refine (impl_within.calls ((rd_T61 l0 x3_1).f4) 0 40 true _ A9.out).mono ?_); rintro e w' ⟨rfl, ⟨nd, rfl⟩⟩; refine ⟨_, rfl, ?_⟩))
                      go_roundg kj2
                      case measure => have := HK1.out; have := HJ2.out; omega
                      case rel => exact ⟨(wrap64 (x3_1 + 1)), (wrap64 ((wrap64 (x4_1 + ((rd_T61 l0 x3_1).f4))) - 1)), (by first | rfl | (simp; done) | (simp [*]; done) | (simp; apply Bool.eq_iff_iff.mpr; simp only [bne_iff_ne, ne_eq, beq_iff_eq]; omega)), (by first | rfl | (simp; done) | (simp [*]; done) | (simp; apply Bool.eq_iff_iff.mpr; simp only [bne_iff_ne, ne_eq, beq_iff_eq]; omega)), H', ⟨by have := HK1.out; have := HJ2.out; omega⟩, ⟨by repeat (first | (with_reducible first | exact HB.out | apply below_alloc | apply pw_below_drewN | apply below_drew1 | refine below_set ?_ GE213.out) | exact HB.out)⟩⟩
                    · replace c10 := Bool.eq_false_iff.mpr c10
                      subst c10
                      have H1 : (some 0) = some r := by rw [if_neg (show ¬ (false = true) by decide)] at H; exact H
                      clear H
                      have H := H1
                      clear H1
                      obtain rfl := Option.some.inj H
                      have p212 : 0 ≤ (x3_1 : Int) := of_decide_eq_true (by first | (with_reducible assumption) | assumption)
                      have q212 : x3_1 < (l0.length : Int) := of_decide_eq_true (by first | (with_reducible assumption) | assumption)
                      obtain ⟨ad212, e212, hx212_0, hx212_1, hx212_2, hx212_3, hx212_4⟩ := at_T61 HR0.out x3_1 p212 q212
                      cases e212
                      replace hx212_0 := (HB.out.cell (World.block_lt_of_cell? w _ hx212_0)).trans hx212_0
                      replace hx212_1 := (HB.out.cell (World.block_lt_of_cell? w _ hx212_1)).trans hx212_1
                      replace hx212_2 := (HB.out.cell (World.block_lt_of_cell? w _ hx212_2)).trans hx212_2
                      replace hx212_3 := (HB.out.cell (World.block_lt_of_cell? w _ hx212_3)).trans hx212_3
                      replace hx212_4 := (HB.out.cell (World.block_lt_of_cell? w _ hx212_4)).trans hx212_4
                      replace p212 := eq_true p212
                      replace q212 := eq_true q212
                      go_wp2_with (first | ((with_reducible refine gate_dst (N := 5) rfl ?_); refine box_event ?hg (N := 5) ?hd (cs := #[.string (⟨#[]⟩ : ByteArray), .int .i64 0, .int .i64 0, .string (⟨#[]⟩ : ByteArray), .int .i64 0]) (t := 61) ?hr ?_; (case hd => rfl); (case hg => rfl); (case hr => first | (go_simp; done) | (go_simp; rfl)); intro gb213 hg w13 hbox hb; have n0_ := Aside0.mk (below_step (by repeat (first | (with_reducible first | exact HB.out | apply below_alloc | apply pw_below_drewN | apply below_drew1) | exact HB.out)) hb); have n1_ := Aside0.mk (hbox); have n2_ := Aside0.mk ((by rw [hg]; exact (below_size (by repeat (first | (with_reducible first | exact HB.out | apply below_alloc | apply pw_below_drewN | apply below_drew1) | exact HB.out))) : w.heap.size ≤ gb213)); have n3_ := Aside0.mk ((by rw [hg]; exact (below_size (by repeat (first | (with_reducible first | exact HB.out | apply below_alloc | apply pw_below_drewN | apply below_drew1) | exact HB.out))) : w.heap.size ≤ gb213)); clear HB; have HB := n0_; have BK213 := n1_; have GW213 := n2_; have GE213 := n3_; clear n0_ n1_ n2_ n3_; clear hb hbox hg; have hcz14_0 : w13.cell? ⟨gb213, 0, none⟩ = some (.string (⟨#[]⟩ : ByteArray)) := (blk_cell BK213.out 0).trans rfl; have hcz14_1 : w13.cell? ⟨gb213, 1, none⟩ = some (.int .i64 0) := (blk_cell BK213.out 1).trans rfl; have hcz14_2 : w13.cell? ⟨gb213, 2, none⟩ = some (.int .i64 0) := (blk_cell BK213.out 2).trans rfl; have hcz14_3 : w13.cell? ⟨gb213, 3, none⟩ = some (.string (⟨#[]⟩ : ByteArray)) := (blk_cell BK213.out 3).trans rfl; have hcz14_4 : w13.cell? ⟨gb213, 4, none⟩ = some (.int .i64 0) := (blk_cell BK213.out 4).trans rfl; have hfz14_0 := blk_frozen BK213.out 0; have hfz14_1 := blk_frozen BK213.out 1; have hfz14_2 := blk_frozen BK213.out 2; have hfz14_3 := blk_frozen BK213.out 3; have hfz14_4 := blk_frozen BK213.out 4) | ((with_reducible refine gate_callee (f := 70) rfl ?_); refine goesL_ (some 27) rfl rfl Tryd.func70 (by kernel_rfl) rfl #[.int .i64 ((rd_T61 l0 x3_1).f4), .int .i64 0, .int .i64 40] rfl (by (try simp only [List.map_toArray, List.map_cons, List.map_nil]); first | done | rfl | (simp only [List.length_drop, List.length_take]; rfl)) ?_; (with_reducible refine (impl_within.calls ((rd_T61 l0 x3_1).f4) 0 40 false _ A9.out).mono ?_); rintro e w' ⟨rfl, ⟨nd, rfl⟩⟩; refine ⟨_, rfl, ?_⟩))
                      go_ret
                      exact ⟨by first | rfl | (simp [errW_none, errW_some] <;> rfl) | (simp [*, errW_none, errW_some] <;> rfl), by repeat (first | (with_reducible first | exact HB.out | apply below_alloc | apply pw_below_drewN | apply below_drew1 | refine below_set ?_ GE213.out) | exact HB.out)⟩
                  · rw [if_neg c8] at H
                    have c8b0 : decide (6 ≤ ((rd_T61 l0 x3_1).f1)) = false := decide_eq_false c8
                    clear c8
                    have H' := Aside0.mk H
                    clear H
                    have p212 : 0 ≤ (x3_1 : Int) := of_decide_eq_true (by first | (with_reducible assumption) | assumption)
                    have q212 : x3_1 < (l0.length : Int) := of_decide_eq_true (by first | (with_reducible assumption) | assumption)
                    obtain ⟨ad212, e212, hx212_0, hx212_1, hx212_2, hx212_3, hx212_4⟩ := at_T61 HR0.out x3_1 p212 q212
                    cases e212
                    replace hx212_0 := (HB.out.cell (World.block_lt_of_cell? w _ hx212_0)).trans hx212_0
                    replace hx212_1 := (HB.out.cell (World.block_lt_of_cell? w _ hx212_1)).trans hx212_1
                    replace hx212_2 := (HB.out.cell (World.block_lt_of_cell? w _ hx212_2)).trans hx212_2
                    replace hx212_3 := (HB.out.cell (World.block_lt_of_cell? w _ hx212_3)).trans hx212_3
                    replace hx212_4 := (HB.out.cell (World.block_lt_of_cell? w _ hx212_4)).trans hx212_4
                    replace p212 := eq_true p212
                    replace q212 := eq_true q212
                    go_wp2_with (first | ((with_reducible refine gate_dst (N := 5) rfl ?_); refine box_event ?hg (N := 5) ?hd (cs := #[.string (⟨#[]⟩ : ByteArray), .int .i64 0, .int .i64 0, .string (⟨#[]⟩ : ByteArray), .int .i64 0]) (t := 61) ?hr ?_; (case hd => rfl); (case hg => rfl); (case hr => first | (go_simp; done) | (go_simp; rfl)); intro gb213 hg w15 hbox hb; have n0_ := Aside0.mk (below_step (by repeat (first | (with_reducible first | exact HB.out | apply below_alloc | apply pw_below_drewN | apply below_drew1) | exact HB.out)) hb); have n1_ := Aside0.mk (hbox); have n2_ := Aside0.mk ((by rw [hg]; exact (below_size (by repeat (first | (with_reducible first | exact HB.out | apply below_alloc | apply pw_below_drewN | apply below_drew1) | exact HB.out))) : w.heap.size ≤ gb213)); have n3_ := Aside0.mk ((by rw [hg]; exact (below_size (by repeat (first | (with_reducible first | exact HB.out | apply below_alloc | apply pw_below_drewN | apply below_drew1) | exact HB.out))) : w.heap.size ≤ gb213)); clear HB; have HB := n0_; have BK213 := n1_; have GW213 := n2_; have GE213 := n3_; clear n0_ n1_ n2_ n3_; clear hb hbox hg; have hcz16_0 : w15.cell? ⟨gb213, 0, none⟩ = some (.string (⟨#[]⟩ : ByteArray)) := (blk_cell BK213.out 0).trans rfl; have hcz16_1 : w15.cell? ⟨gb213, 1, none⟩ = some (.int .i64 0) := (blk_cell BK213.out 1).trans rfl; have hcz16_2 : w15.cell? ⟨gb213, 2, none⟩ = some (.int .i64 0) := (blk_cell BK213.out 2).trans rfl; have hcz16_3 : w15.cell? ⟨gb213, 3, none⟩ = some (.string (⟨#[]⟩ : ByteArray)) := (blk_cell BK213.out 3).trans rfl; have hcz16_4 : w15.cell? ⟨gb213, 4, none⟩ = some (.int .i64 0) := (blk_cell BK213.out 4).trans rfl; have hfz16_0 := blk_frozen BK213.out 0; have hfz16_1 := blk_frozen BK213.out 1; have hfz16_2 := blk_frozen BK213.out 2; have hfz16_3 := blk_frozen BK213.out 3; have hfz16_4 := blk_frozen BK213.out 4))
                    go_roundg kj2
                    case measure => have := HK1.out; have := HJ2.out; omega
                    case rel => exact ⟨(wrap64 (x3_1 + 1)), (wrap64 (x4_1 - 1)), (by first | rfl | (simp; done) | (simp [*]; done) | (simp; apply Bool.eq_iff_iff.mpr; simp only [bne_iff_ne, ne_eq, beq_iff_eq]; omega)), (by first | rfl | (simp; done) | (simp [*]; done) | (simp; apply Bool.eq_iff_iff.mpr; simp only [bne_iff_ne, ne_eq, beq_iff_eq]; omega)), H', ⟨by have := HK1.out; have := HJ2.out; omega⟩, ⟨by repeat (first | (with_reducible first | exact HB.out | apply below_alloc | apply pw_below_drewN | apply below_drew1 | refine below_set ?_ GE213.out) | exact HB.out)⟩⟩
                · rw [if_neg c7] at H
                  exact absurd H (by simp)
              · rw [if_neg c6] at H
                exact absurd H (by simp)
      · rw [if_neg c2] at H
        have c2b0 : decide (0 < x4_1) = false := decide_eq_false c2
        clear c2
        obtain rfl := Option.some.inj H
        go_wp2
        go_ret
        exact ⟨by first | rfl | (simp [errW_none, errW_some] <;> rfl) | (simp [*, errW_none, errW_some] <;> rfl), by repeat (first | (with_reducible first | exact HB.out | apply below_alloc | apply pw_below_drewN | apply below_drew1) | exact HB.out)⟩

/-! ### utf8_DecodeRuneInString: function 130 -/
def utf8_DecodeRuneInString.f (a0 : ByteArray) : Option (Int × Int) := some (((Lib.decodeGo a0).1 : Int), ((Lib.decodeGo a0).2 : Int))
theorem utf8_DecodeRuneInString.calls (a0 : ByteArray) (r0 r1 : Int) (w : World) (tb : Go.Proofs.YtkfbdopfeacnfaaDoor.TabsV.Tabs0 w) (h : utf8_DecodeRuneInString.f a0 = some (r0, r1)) :
    Calls Tryd.prog 130 #[.string a0] w fun e w' => e = .returned (.tuple #[.int .i32 r0, .int .i64 r1]) ∧ Below w.heap.size w w' := by
  unfold utf8_DecodeRuneInString.f at h
  obtain h := Option.some.inj h
  injection h with h0 h1
  subst h0
  subst h1
  exact Tryd.utf8_DecodeRuneInString a0 w tb.utf8

/-! ### impl_runeAt: function 100 -/
def impl_runeAt.f (a0 : ByteArray) (a1 : Int) : Option (Int × Int × Bool) := if 0 ≤ a1 then (if a1 ≤ (a0.size : Int) then ((utf8_DecodeRuneInString.f (a0.extract (a1 : Int).toNat a0.size)).bind fun bt215 => (if bt215.1 = 65533 then (if bt215.2 < 2 then (some (0, 0, false)) else (some (wrap64 (bt215.1), wrap64 (a1 + bt215.2), true))) else (some (wrap64 (bt215.1), wrap64 (a1 + bt215.2), true)))) else (none)) else (none)
set_option maxHeartbeats 8000000 in
set_option maxRecDepth 100000 in
theorem impl_runeAt.calls (a0 : ByteArray) (a1 : Int) (r1 : Int) (r2 : Int) (r3 : Bool) (w : World) (tb : Go.Proofs.YtkfbdopfeacnfaaDoor.TabsV.Tabs0 w) (h : impl_runeAt.f a0 a1 = some (r1, r2, r3)) :
    Calls Tryd.prog 100 #[.string a0, .int .i64 a1] w fun e w' => e = .returned (.tuple #[.int .i64 r1, .int .i64 r2, .bool r3]) ∧ Below w.heap.size w w' := by
  have TB := Aside0.mk tb
  clear tb
  have HB := Aside0.mk (Below.refl w.heap.size w)
  have H : (if 0 ≤ a1 then (if a1 ≤ (a0.size : Int) then ((utf8_DecodeRuneInString.f (a0.extract (a1 : Int).toNat a0.size)).bind fun bt215 => (if bt215.1 = 65533 then (if bt215.2 < 2 then (some (0, 0, false)) else (some (wrap64 (bt215.1), wrap64 (a1 + bt215.2), true))) else (some (wrap64 (bt215.1), wrap64 (a1 + bt215.2), true)))) else (none)) else (none)) = some (r1, r2, r3) := h
  clear h
  by_cases c3 : 0 ≤ a1
  · rw [if_pos c3] at H
    have c3b0 := eq_true c3
    have c3b1 : decide (0 ≤ a1) = true := decide_eq_true c3
    clear c3
    by_cases c4 : a1 ≤ (a0.size : Int)
    · rw [if_pos c4] at H
      have c4b0 := eq_true c4
      have c4b1 : decide (a1 ≤ (a0.size : Int)) = true := decide_eq_true c4
      clear c4
      replace H := Option.bind_eq_some_iff.mp H
      obtain ⟨⟨t215, t216⟩, A50, H⟩ := H
      replace H : (if t215 = 65533 then (if t216 < 2 then (some (0, 0, false)) else (some (wrap64 (t215), wrap64 (a1 + t216), true))) else (some (wrap64 (t215), wrap64 (a1 + t216), true))) = some (r1, r2, r3) := H
      have A5 := Aside0.mk A50
      clear A50
      by_cases c6 : t215 = 65533
      · rw [if_pos c6] at H
        have c6b0 : (t215 == 65533) = true := beq_iff_eq.mpr c6
        have c6b1 : (t215 != 65533) = false := bne_eq_false_iff_eq.mpr c6
        clear c6
        by_cases c7 : t216 < 2
        · rw [if_pos c7] at H
          have c7b0 : decide (t216 < 2) = true := decide_eq_true c7
          clear c7
          simp only [Option.some.injEq, Prod.mk.injEq] at H
          obtain ⟨rfl, rfl, rfl⟩ := H
          go_enter Tryd.func100, Tryd.ntmps100
          go_wp2_with (first | ((with_reducible refine gate_callee (f := 130) rfl ?_); refine goesL_ (some 13) rfl rfl Tryd.func130 (by kernel_rfl) rfl #[.string (a0.extract (a1 : Int).toNat a0.size)] rfl (by (try simp only [List.map_toArray, List.map_cons, List.map_nil]); first | done | rfl | (simp only [List.length_drop, List.length_take]; rfl)) ?_; (with_reducible refine (utf8_DecodeRuneInString.calls (a0.extract (a1 : Int).toNat a0.size) t215 t216 _ ?side1 A5.out).mono ?_); (case side1 => exact Go.Proofs.YtkfbdopfeacnfaaDoor.TabsV.Tabs0.of_below TB.out (by repeat (first | (with_reducible first | exact HB.out | apply below_alloc | apply pw_below_drewN | apply below_drew1) | exact HB.out))); rintro e w8 ⟨rfl, hb⟩; refine ⟨_, rfl, ?_⟩; have n0_ := Aside0.mk (below_step (by repeat (first | (with_reducible first | exact HB.out | apply below_alloc | apply pw_below_drewN | apply below_drew1) | exact HB.out)) hb); clear HB; have HB := n0_; clear n0_; (try clear hb); (try clear hb2); (try clear hk); (try clear hi)))
          go_ret3
          exact ⟨by first | rfl | (simp [errW_none, errW_some] <;> rfl) | (simp [*, errW_none, errW_some] <;> rfl), by repeat (first | (with_reducible first | exact HB.out | apply below_alloc | apply pw_below_drewN | apply below_drew1) | exact HB.out)⟩
        · rw [if_neg c7] at H
          have c7b0 : decide (t216 < 2) = false := decide_eq_false c7
          clear c7
          simp only [Option.some.injEq, Prod.mk.injEq] at H
          obtain ⟨rfl, rfl, rfl⟩ := H
          go_enter Tryd.func100, Tryd.ntmps100
          go_wp2_with (first | ((with_reducible refine gate_callee (f := 130) rfl ?_); refine goesL_ (some 13) rfl rfl Tryd.func130 (by kernel_rfl) rfl #[.string (a0.extract (a1 : Int).toNat a0.size)] rfl (by (try simp only [List.map_toArray, List.map_cons, List.map_nil]); first | done | rfl | (simp only [List.length_drop, List.length_take]; rfl)) ?_; (with_reducible refine (utf8_DecodeRuneInString.calls (a0.extract (a1 : Int).toNat a0.size) t215 t216 _ ?side1 A5.out).mono ?_); (case side1 => exact Go.Proofs.YtkfbdopfeacnfaaDoor.TabsV.Tabs0.of_below TB.out (by repeat (first | (with_reducible first | exact HB.out | apply below_alloc | apply pw_below_drewN | apply below_drew1) | exact HB.out))); rintro e w9 ⟨rfl, hb⟩; refine ⟨_, rfl, ?_⟩; have n0_ := Aside0.mk (below_step (by repeat (first | (with_reducible first | exact HB.out | apply below_alloc | apply pw_below_drewN | apply below_drew1) | exact HB.out)) hb); clear HB; have HB := n0_; clear n0_; (try clear hb); (try clear hb2); (try clear hk); (try clear hi)))
          go_ret3
          exact ⟨by first | rfl | (simp [errW_none, errW_some] <;> rfl) | (simp [*, errW_none, errW_some] <;> rfl), by repeat (first | (with_reducible first | exact HB.out | apply below_alloc | apply pw_below_drewN | apply below_drew1) | exact HB.out)⟩
      · rw [if_neg c6] at H
        have c6b0 : (t215 == 65533) = false := beq_eq_false_iff_ne.mpr c6
        have c6b1 : (t215 != 65533) = true := bne_iff_ne.mpr c6
        simp only [Option.some.injEq, Prod.mk.injEq] at H
        obtain ⟨rfl, rfl, rfl⟩ := H
        go_enter Tryd.func100, Tryd.ntmps100
        go_wp2_with (first | ((with_reducible refine gate_callee (f := 130) rfl ?_); refine goesL_ (some 13) rfl rfl Tryd.func130 (by kernel_rfl) rfl #[.string (a0.extract (a1 : Int).toNat a0.size)] rfl (by (try simp only [List.map_toArray, List.map_cons, List.map_nil]); first | done | rfl | (simp only [List.length_drop, List.length_take]; rfl)) ?_; (with_reducible refine (utf8_DecodeRuneInString.calls (a0.extract (a1 : Int).toNat a0.size) t215 t216 _ ?side1 A5.out).mono ?_); (case side1 => exact Go.Proofs.YtkfbdopfeacnfaaDoor.TabsV.Tabs0.of_below TB.out (by repeat (first | (with_reducible first | exact HB.out | apply below_alloc | apply pw_below_drewN | apply below_drew1) | exact HB.out))); rintro e w10 ⟨rfl, hb⟩; refine ⟨_, rfl, ?_⟩; have n0_ := Aside0.mk (below_step (by repeat (first | (with_reducible first | exact HB.out | apply below_alloc | apply pw_below_drewN | apply below_drew1) | exact HB.out)) hb); clear HB; have HB := n0_; clear n0_; (try clear hb); (try clear hb2); (try clear hk); (try clear hi)))
        go_ret3
        exact ⟨by first | rfl | (simp [errW_none, errW_some] <;> rfl) | (simp [*, errW_none, errW_some] <;> rfl), by repeat (first | (with_reducible first | exact HB.out | apply below_alloc | apply pw_below_drewN | apply below_drew1) | exact HB.out)⟩
    · rw [if_neg c4] at H
      exact absurd H (by simp)
  · rw [if_neg c3] at H
    exact absurd H (by simp)

/-! ### impl_runesOf: function 81 -/
def impl_runesOf.l0 : Nat → ByteArray → List Int → Int → Option (List Int × Bool)
  | 0, _, _, _ => none
  | k + 1, x0, x4, x5 => if x5 < (x0.size : Int) then ((impl_runeAt.f x0 x5).bind fun bt217 => (if bt217.2.2 = true then (if (x4.length : Int) = 60 then (some (([] : List Int), false)) else (if x4.length < 17592186044416 then (impl_runesOf.l0 k x0 (x4 ++ [bt217.1]) bt217.2.1) else (none))) else (some (([] : List Int), false)))) else (some (x4, true))
def impl_runesOf.f (k : Nat) (a0 : ByteArray) : Option (List Int × Bool) := impl_runesOf.l0 k a0 ([] : List Int) 0
theorem impl_runesOf.mono_l : ∀ k, (∀ y0 y1 y2, LeO (impl_runesOf.l0 k y0 y1 y2) (impl_runesOf.l0 (k + 1) y0 y1 y2))
  | 0 => fun _ _ _ r h => by simp [impl_runesOf.l0] at h
  | k + 1 => by
    have ih0 := impl_runesOf.mono_l k
    · intro y0 y1 y2
      unfold impl_runesOf.l0
      repeat' first
      | (with_reducible exact ih0 _ _ _)
      | (with_reducible exact LeO.refl _)
      | (with_reducible exact LeO.none _)
      | (with_reducible refine LeO.ite ?_ ?_)
      | (with_reducible refine LeO.bind ?_ (fun _ => ?_))
      | exact ih0 _ _ _
      | exact LeO.none _
      | refine LeO.ite ?_ ?_
      | refine LeO.bind ?_ (fun _ => ?_)
theorem impl_runesOf.mono : ∀ a0 k, LeO (impl_runesOf.f k a0) (impl_runesOf.f (k + 1) a0) := by
  intro a0 k
  have ih0 := impl_runesOf.mono_l k
  unfold impl_runesOf.f
  repeat' first
      | (with_reducible exact ih0 _ _ _)
      | (with_reducible exact LeO.refl _)
      | (with_reducible exact LeO.none _)
      | (with_reducible refine LeO.ite ?_ ?_)
      | (with_reducible refine LeO.bind ?_ (fun _ => ?_))
      | exact ih0 _ _ _
      | exact LeO.none _
      | refine LeO.ite ?_ ?_
      | refine LeO.bind ?_ (fun _ => ?_)
set_option maxHeartbeats 8000000 in
set_option maxRecDepth 100000 in
theorem impl_runesOf.calls (k : Nat) (a0 : ByteArray) (r1 : List Int) (r2 : Bool) (w : World) (tb : Go.Proofs.YtkfbdopfeacnfaaDoor.TabsV.Tabs0 w) (h : impl_runesOf.f k a0 = some (r1, r2)) :
    Calls Tryd.prog 81 #[.string a0] w fun e w' => ∃ v0_ : Value, e = .returned (.tuple #[v0_, .bool r2]) ∧ Kd.R (Kd.int .i64) 3 w' w.heap.size (fun _ => True) v0_ r1 ∧ Below w.heap.size w w' := by
  have TB := Aside0.mk tb
  clear tb
  have HB := Aside0.mk (Below.refl w.heap.size w)
  have H : (impl_runesOf.l0 k a0 ([] : List Int) 0) = some (r1, r2) := h
  clear h
  have H' := Aside0.mk H
  clear H
  go_enter Tryd.func81, Tryd.ntmps81
  go_wp2
  go_loopg [4, 5] k (fun kq v4 v5 w' => ∃ (x4_1 : List Int) (x5_1 : Int), v5 = .int .i64 x5_1 ∧ Aside0 (impl_runesOf.l0 kq a0 x4_1 x5_1 = some (r1, r2)) ∧ Aside0 (kq ≤ k) ∧ Aside0 (Kd.R (Kd.int .i64) 3 w' w.heap.size (fun _ => True) v4 x4_1) ∧ Aside0 (Below w.heap.size w w'))
  case atStart => exact ⟨(([] : List Int)), (0), (by first | rfl | (simp; done) | (simp [*]; done) | (simp; apply Bool.eq_iff_iff.mpr; simp only [bne_iff_ne, ne_eq, beq_iff_eq]; omega)), H', ⟨Nat.le_refl _⟩, ⟨by first | exact Kd.R_nil _ _ _ _ _ | exact Kd.N_nil _ _ _ _ _ | exact Kd.V_nil _ _ _ _ _ | exact Kd.Q_nil _ _ _ _ _ | exact Kd.S_nil _ _ _ _ _⟩, ⟨by repeat (first | (with_reducible first | exact HB.out | apply below_alloc | apply pw_below_drewN | apply below_drew1) | exact HB.out)⟩⟩
  case round =>
    clear H'
    obtain ⟨x4_1, x5_1, rfl, HA, HK1, HO_4, HB⟩ := hrel
    cases gk with
    | zero => exact absurd HA.out (by simp [impl_runesOf.l0])
    | succ k1 =>
      have H := HA.out
      clear HA
      simp only [impl_runesOf.l0] at H
      by_cases c2 : x5_1 < (a0.size : Int)
      · rw [if_pos c2] at H
        have c2b0 : decide (x5_1 < (a0.size : Int)) = true := decide_eq_true c2
        clear c2
        replace H := Option.bind_eq_some_iff.mp H
        obtain ⟨⟨t217, t218, t219⟩, A30, H⟩ := H
        replace H : (if t219 = true then (if (x4_1.length : Int) = 60 then (some (([] : List Int), false)) else (if x4_1.length < 17592186044416 then (impl_runesOf.l0 k1 a0 (x4_1 ++ [t217]) t218) else (none))) else (some (([] : List Int), false))) = some (r1, r2) := H
        have A3 := Aside0.mk A30
        clear A30
        by_cases c4 : t219 = true
        · subst c4
          have H1 : (if (x4_1.length : Int) = 60 then (some (([] : List Int), false)) else (if x4_1.length < 17592186044416 then (impl_runesOf.l0 k1 a0 (x4_1 ++ [t217]) t218) else (none))) = some (r1, r2) := by rw [if_pos rfl] at H; exact H
          clear H
          have H := H1
          clear H1
          by_cases c5 : (x4_1.length : Int) = 60
          · rw [if_pos c5] at H
            have c5b0 : ((x4_1.length : Int) == 60) = true := beq_iff_eq.mpr c5
            have c5b1 : ((x4_1.length : Int) != 60) = false := bne_eq_false_iff_eq.mpr c5
            clear c5
            simp only [Option.some.injEq, Prod.mk.injEq] at H
            obtain ⟨rfl, rfl⟩ := H
            go_wp2_with (first | ((with_reducible refine gate_callee (f := 100) rfl ?_); refine goesL_ (some 16) rfl rfl Tryd.func100 (by kernel_rfl) rfl #[.string a0, .int .i64 x5_1] rfl (by (try simp only [List.map_toArray, List.map_cons, List.map_nil]); first | done | rfl | (simp only [List.length_drop, List.length_take]; rfl)) ?_; (with_reducible refine (impl_runeAt.calls a0 x5_1 t217 t218 true _ ?side1 A3.out).mono ?_); (case side1 => exact Go.Proofs.YtkfbdopfeacnfaaDoor.TabsV.Tabs0.of_below TB.out (by repeat (first | (with_reducible first | exact HB.out | apply below_alloc | apply pw_below_drewN | apply below_drew1) | exact HB.out))); rintro e w6 ⟨rfl, hb⟩; refine ⟨_, rfl, ?_⟩; have n0_ := Aside0.mk (Kd.R_below (by (with_reducible repeat (first | apply Kd.R_alloc | apply Kd.R_drewN | apply Kd.R_drew)); exact HO_4.out) hb); have n1_ := Aside0.mk (below_step (by repeat (first | (with_reducible first | exact HB.out | apply below_alloc | apply pw_below_drewN | apply below_drew1) | exact HB.out)) hb); clear HO_4; clear HB; have HO_4 := n0_; have HB := n1_; clear n0_ n1_; (try clear hb); (try clear hb2); (try clear hk); (try clear hi); obtain ⟨Ao7, co7, eo7⟩ := Kd.R_slice HO_4.out; subst eo7))
            go_ret2
            exact ⟨_, by first | rfl | (simp [errW_none, errW_some] <;> rfl) | (simp [*, errW_none, errW_some] <;> rfl), by first | exact Kd.R_nil _ _ _ _ _ | exact Kd.N_nil _ _ _ _ _ | exact Kd.V_nil _ _ _ _ _ | exact Kd.Q_nil _ _ _ _ _ | exact Kd.S_nil _ _ _ _ _, by repeat (first | (with_reducible first | exact HB.out | apply below_alloc | apply pw_below_drewN | apply below_drew1) | exact HB.out)⟩
          · rw [if_neg c5] at H
            have c5b0 : ((x4_1.length : Int) == 60) = false := beq_eq_false_iff_ne.mpr c5
            have c5b1 : ((x4_1.length : Int) != 60) = true := bne_iff_ne.mpr c5
            by_cases c8 : x4_1.length < 17592186044416
            · rw [if_pos c8] at H
              have LMc8 := Aside0.mk c8
              clear c8
              obtain ⟨y220, hy220⟩ : ∃ y_ : List Int, y_ = (x4_1 ++ [t217]) := ⟨_, rfl⟩
              replace H : (impl_runesOf.l0 k1 a0 y220 t218) = some (r1, r2) := by first | (rw [hy220]; with_reducible exact H) | (have H2_ := (Option.bind_some _ _).symm.trans H; rw [hy220]; with_reducible exact H2_) | (have H2_ := (Option.bind_some _ _).symm.trans H; with_reducible exact H2_) | with_reducible exact H | (rw [hy220]; exact H) | exact H
              have Ny220 := Aside0.mk hy220
              clear hy220
              have H' := Aside0.mk H
              clear H
              go_wp2_with (first | ((with_reducible refine gate_callee (f := 100) rfl ?_); refine goesL_ (some 16) rfl rfl Tryd.func100 (by kernel_rfl) rfl #[.string a0, .int .i64 x5_1] rfl (by (try simp only [List.map_toArray, List.map_cons, List.map_nil]); first | done | rfl | (simp only [List.length_drop, List.length_take]; rfl)) ?_; (with_reducible refine (impl_runeAt.calls a0 x5_1 t217 t218 true _ ?side1 A3.out).mono ?_); (case side1 => exact Go.Proofs.YtkfbdopfeacnfaaDoor.TabsV.Tabs0.of_below TB.out (by repeat (first | (with_reducible first | exact HB.out | apply below_alloc | apply pw_below_drewN | apply below_drew1) | exact HB.out))); rintro e w9 ⟨rfl, hb⟩; refine ⟨_, rfl, ?_⟩; have n0_ := Aside0.mk (Kd.R_below (by (with_reducible repeat (first | apply Kd.R_alloc | apply Kd.R_drewN | apply Kd.R_drew)); exact HO_4.out) hb); have n1_ := Aside0.mk (below_step (by repeat (first | (with_reducible first | exact HB.out | apply below_alloc | apply pw_below_drewN | apply below_drew1) | exact HB.out)) hb); clear HO_4; clear HB; have HO_4 := n0_; have HB := n1_; clear n0_ n1_; (try clear hb); (try clear hb2); (try clear hk); (try clear hi); obtain ⟨Ao10, co10, eo10⟩ := Kd.R_slice HO_4.out; subst eo10) | ((with_reducible refine gate_builtin (b := .append) (xs := #[.tmp 27, .tmp 29]) rfl ?_); (try (refine gate_guard (by rfl) ?_; dsimp only)); at_builtin; refine Kd.R_append (Kd.int .i64) (w0 := w) w.heap.size rfl (.tmp 27) (.tmp 29) 79 3 (.int .i64 0) 8 rfl Tryd.underlying79 info3 rfl (by decide) (by omega) (.slice Ao10 x4_1.length co10) x4_1 t217 [.int .i64 t217] (fun _ => True) (fun _ => False) rfl rfl ?aP (fun _ hk => hk.elim) ?aF ?aO ?aB ?aS ?aL ?_; (case aP => exact rfl); (case aB => exact (by repeat (first | (with_reducible first | exact HB.out | apply below_alloc | apply pw_below_drewN | apply below_drew1) | exact HB.out))); (case aF => exact (fun _ _ => trivial)); (case aO => exact (by (with_reducible repeat (first | apply Kd.R_alloc | apply Kd.R_drewN | apply Kd.R_drew)); exact HO_4.out)); (case aS => exact (below_size (by repeat (first | (with_reducible first | exact HB.out | apply below_alloc | apply pw_below_drewN | apply below_drew1) | exact HB.out)))); (case aL => have := LMc8.out; omega); intro v221 w11 ho hb hg hat; rw [← Ny220.out] at ho; have n0_ := Aside0.mk (hb); have n1_ := Aside0.mk (ho); clear HB; clear HO_4; have HB := n0_; have HO222 := n1_; clear n0_ n1_; clear ho hb hg hat))
              go_roundg k1
              case measure => have := HK1.out; omega
              case rel => exact ⟨(y220), (t218), (by first | rfl | (simp; done) | (simp [*]; done) | (simp; apply Bool.eq_iff_iff.mpr; simp only [bne_iff_ne, ne_eq, beq_iff_eq]; omega)), H', ⟨by have := HK1.out; omega⟩, ⟨by (with_reducible repeat (first | apply Kd.R_alloc | apply Kd.R_drewN | apply Kd.R_drew)); exact HO222.out⟩, ⟨by repeat (first | (with_reducible first | exact HB.out | apply below_alloc | apply pw_below_drewN | apply below_drew1) | exact HB.out)⟩⟩
            · rw [if_neg c8] at H
              exact absurd H (by simp)
        · replace c4 := Bool.eq_false_iff.mpr c4
          subst c4
          have H1 : (some (([] : List Int), false)) = some (r1, r2) := by rw [if_neg (show ¬ (false = true) by decide)] at H; exact H
          clear H
          have H := H1
          clear H1
          simp only [Option.some.injEq, Prod.mk.injEq] at H
          obtain ⟨rfl, rfl⟩ := H
          go_wp2_with (first | ((with_reducible refine gate_callee (f := 100) rfl ?_); refine goesL_ (some 16) rfl rfl Tryd.func100 (by kernel_rfl) rfl #[.string a0, .int .i64 x5_1] rfl (by (try simp only [List.map_toArray, List.map_cons, List.map_nil]); first | done | rfl | (simp only [List.length_drop, List.length_take]; rfl)) ?_; (with_reducible refine (impl_runeAt.calls a0 x5_1 t217 t218 false _ ?side1 A3.out).mono ?_); (case side1 => exact Go.Proofs.YtkfbdopfeacnfaaDoor.TabsV.Tabs0.of_below TB.out (by repeat (first | (with_reducible first | exact HB.out | apply below_alloc | apply pw_below_drewN | apply below_drew1) | exact HB.out))); rintro e w12 ⟨rfl, hb⟩; refine ⟨_, rfl, ?_⟩; have n0_ := Aside0.mk (Kd.R_below (by (with_reducible repeat (first | apply Kd.R_alloc | apply Kd.R_drewN | apply Kd.R_drew)); exact HO_4.out) hb); have n1_ := Aside0.mk (below_step (by repeat (first | (with_reducible first | exact HB.out | apply below_alloc | apply pw_below_drewN | apply below_drew1) | exact HB.out)) hb); clear HO_4; clear HB; have HO_4 := n0_; have HB := n1_; clear n0_ n1_; (try clear hb); (try clear hb2); (try clear hk); (try clear hi)))
          go_ret2
          exact ⟨_, by first | rfl | (simp [errW_none, errW_some] <;> rfl) | (simp [*, errW_none, errW_some] <;> rfl), by first | exact Kd.R_nil _ _ _ _ _ | exact Kd.N_nil _ _ _ _ _ | exact Kd.V_nil _ _ _ _ _ | exact Kd.Q_nil _ _ _ _ _ | exact Kd.S_nil _ _ _ _ _, by repeat (first | (with_reducible first | exact HB.out | apply below_alloc | apply pw_below_drewN | apply below_drew1) | exact HB.out)⟩
      · rw [if_neg c2] at H
        have c2b0 : decide (x5_1 < (a0.size : Int)) = false := decide_eq_false c2
        clear c2
        simp only [Option.some.injEq, Prod.mk.injEq] at H
        obtain ⟨rfl, rfl⟩ := H
        go_wp2
        go_ret2
        exact ⟨_, by first | rfl | (simp [errW_none, errW_some] <;> rfl) | (simp [*, errW_none, errW_some] <;> rfl), by (with_reducible repeat (first | apply Kd.R_alloc | apply Kd.R_drewN | apply Kd.R_drew)); exact HO_4.out, by repeat (first | (with_reducible first | exact HB.out | apply below_alloc | apply pw_below_drewN | apply below_drew1) | exact HB.out)⟩

/-! ### impl_RunesOf: function 50 -/
def impl_RunesOf.f (k : Nat) (a0 : ByteArray) : Option (List Int × Bool) := if (a0.size : Int) > 240 then (some (([] : List Int), false)) else ((impl_runesOf.f k a0).bind fun bt223 => (some (bt223.1, bt223.2)))
theorem impl_RunesOf.mono : ∀ a0 k, LeO (impl_RunesOf.f k a0) (impl_RunesOf.f (k + 1) a0) := by
  intro a0 k
  unfold impl_RunesOf.f
  repeat' first
      | (with_reducible exact impl_runesOf.mono _ _)
      | (with_reducible exact LeO.refl _)
      | (with_reducible exact LeO.none _)
      | (with_reducible refine LeO.ite ?_ ?_)
      | (with_reducible refine LeO.bind ?_ (fun _ => ?_))
      | exact impl_runesOf.mono _ _
      | exact LeO.none _
      | refine LeO.ite ?_ ?_
      | refine LeO.bind ?_ (fun _ => ?_)
set_option maxHeartbeats 8000000 in
set_option maxRecDepth 100000 in
theorem impl_RunesOf.calls (k : Nat) (a0 : ByteArray) (r1 : List Int) (r2 : Bool) (w : World) (tb : Go.Proofs.YtkfbdopfeacnfaaDoor.TabsV.Tabs0 w) (h : impl_RunesOf.f k a0 = some (r1, r2)) :
    Calls Tryd.prog 50 #[.string a0] w fun e w' => ∃ v0_ : Value, e = .returned (.tuple #[v0_, .bool r2]) ∧ Kd.R (Kd.int .i64) 3 w' w.heap.size (fun _ => True) v0_ r1 ∧ Below w.heap.size w w' := by
  have TB := Aside0.mk tb
  clear tb
  have HB := Aside0.mk (Below.refl w.heap.size w)
  have H : (if (a0.size : Int) > 240 then (some (([] : List Int), false)) else ((impl_runesOf.f k a0).bind fun bt223 => (some (bt223.1, bt223.2)))) = some (r1, r2) := h
  clear h
  by_cases c2 : (a0.size : Int) > 240
  · rw [if_pos c2] at H
    have c2b0 : decide (240 < (a0.size : Int)) = true := decide_eq_true c2
    have c2b1 : decide (240 < a0.size) = true := decide_eq_true (by omega)
    clear c2
    simp only [Option.some.injEq, Prod.mk.injEq] at H
    obtain ⟨rfl, rfl⟩ := H
    go_enter Tryd.func50, Tryd.ntmps50
    go_wp2
    go_ret2
    exact ⟨_, by first | rfl | (simp [errW_none, errW_some] <;> rfl) | (simp [*, errW_none, errW_some] <;> rfl), by first | exact Kd.R_nil _ _ _ _ _ | exact Kd.N_nil _ _ _ _ _ | exact Kd.V_nil _ _ _ _ _ | exact Kd.Q_nil _ _ _ _ _ | exact Kd.S_nil _ _ _ _ _, by repeat (first | (with_reducible first | exact HB.out | apply below_alloc | apply pw_below_drewN | apply below_drew1) | exact HB.out)⟩
  · rw [if_neg c2] at H
    have c2b0 : decide (240 < (a0.size : Int)) = false := decide_eq_false c2
    have c2b1 : decide (240 < a0.size) = false := decide_eq_false (by omega)
    clear c2
    replace H := Option.bind_eq_some_iff.mp H
    obtain ⟨⟨t223, t224⟩, A30, H⟩ := H
    replace H : (some (t223, t224)) = some (r1, r2) := H
    have A3 := Aside0.mk A30
    clear A30
    simp only [Option.some.injEq, Prod.mk.injEq] at H
    obtain ⟨rfl, rfl⟩ := H
    go_enter Tryd.func50, Tryd.ntmps50
    go_wp2_with (first | ((with_reducible refine gate_callee (f := 81) rfl ?_); refine goesL_ (some 8) rfl rfl Tryd.func81 (by kernel_rfl) rfl #[.string a0] rfl (by (try simp only [List.map_toArray, List.map_cons, List.map_nil]); first | done | rfl | (simp only [List.length_drop, List.length_take]; rfl)) ?_; (with_reducible refine (impl_runesOf.calls k a0 t223 t224 _ ?side1 A3.out).mono ?_); (case side1 => exact Go.Proofs.YtkfbdopfeacnfaaDoor.TabsV.Tabs0.of_below TB.out (by repeat (first | (with_reducible first | exact HB.out | apply below_alloc | apply pw_below_drewN | apply below_drew1) | exact HB.out))); rintro e w4 ⟨v225, rfl, ho0, hb⟩; refine ⟨_, rfl, ?_⟩; have n0_ := Aside0.mk (Kd.R_lower ho0 (below_size (by repeat (first | (with_reducible first | exact HB.out | apply below_alloc | apply pw_below_drewN | apply below_drew1) | exact HB.out)))); have n1_ := Aside0.mk (below_step (by repeat (first | (with_reducible first | exact HB.out | apply below_alloc | apply pw_below_drewN | apply below_drew1) | exact HB.out)) hb); clear HB; have HO226 := n0_; have HB := n1_; clear n0_ n1_; (try clear hb); (try clear hb2); (try clear hk); (try clear hi); (try clear ho0)))
    go_ret2
    exact ⟨_, by first | rfl | (simp [errW_none, errW_some] <;> rfl) | (simp [*, errW_none, errW_some] <;> rfl), by (with_reducible repeat (first | apply Kd.R_alloc | apply Kd.R_drewN | apply Kd.R_drew)); exact HO226.out, by repeat (first | (with_reducible first | exact HB.out | apply below_alloc | apply pw_below_drewN | apply below_drew1) | exact HB.out)⟩

/-! ### impl_isText: function 104 -/
def impl_isText.f (k : Nat) (a0 : ByteArray) : Option (Bool) := (impl_RunesOf.f k a0).bind fun bt227 => (some bt227.2)
theorem impl_isText.mono : ∀ a0 k, LeO (impl_isText.f k a0) (impl_isText.f (k + 1) a0) := by
  intro a0 k
  unfold impl_isText.f
  repeat' first
      | (with_reducible exact impl_RunesOf.mono _ _)
      | (with_reducible exact LeO.refl _)
      | (with_reducible exact LeO.none _)
      | (with_reducible refine LeO.ite ?_ ?_)
      | (with_reducible refine LeO.bind ?_ (fun _ => ?_))
      | exact impl_RunesOf.mono _ _
      | exact LeO.none _
      | refine LeO.ite ?_ ?_
      | refine LeO.bind ?_ (fun _ => ?_)
set_option maxHeartbeats 8000000 in
set_option maxRecDepth 100000 in
theorem impl_isText.calls (k : Nat) (a0 : ByteArray) (r : Bool) (w : World) (tb : Go.Proofs.YtkfbdopfeacnfaaDoor.TabsV.Tabs0 w) (h : impl_isText.f k a0 = some r) :
    Calls Tryd.prog 104 #[.string a0] w fun e w' => e = .returned (.bool r) ∧ Below w.heap.size w w' := by
  have TB := Aside0.mk tb
  clear tb
  have HB := Aside0.mk (Below.refl w.heap.size w)
  have H : ((impl_RunesOf.f k a0).bind fun bt227 => (some bt227.2)) = some r := h
  clear h
  replace H := Option.bind_eq_some_iff.mp H
  obtain ⟨⟨t227, t228⟩, A20, H⟩ := H
  replace H : (some t228) = some r := H
  have A2 := Aside0.mk A20
  clear A20
  obtain rfl := Option.some.inj H
  go_enter Tryd.func104, Tryd.ntmps104
  go_wp2_with (first | ((with_reducible refine gate_callee (f := 50) rfl ?_); refine goesL_ (some 7) rfl rfl Tryd.func50 (by kernel_rfl) rfl #[.string a0] rfl (by (try simp only [List.map_toArray, List.map_cons, List.map_nil]); first | done | rfl | (simp only [List.length_drop, List.length_take]; rfl)) ?_; (with_reducible refine (impl_RunesOf.calls k a0 t227 t228 _ ?side1 A2.out).mono ?_); (case side1 => exact Go.Proofs.YtkfbdopfeacnfaaDoor.TabsV.Tabs0.of_below TB.out (by repeat (first | (with_reducible first | exact HB.out | apply below_alloc | apply pw_below_drewN | apply below_drew1) | exact HB.out))); rintro e w3 ⟨v229, rfl, ho0, hb⟩; refine ⟨_, rfl, ?_⟩; have n0_ := Aside0.mk (Kd.R_lower ho0 (below_size (by repeat (first | (with_reducible first | exact HB.out | apply below_alloc | apply pw_below_drewN | apply below_drew1) | exact HB.out)))); have n1_ := Aside0.mk (below_step (by repeat (first | (with_reducible first | exact HB.out | apply below_alloc | apply pw_below_drewN | apply below_drew1) | exact HB.out)) hb); clear HB; have HO230 := n0_; have HB := n1_; clear n0_ n1_; (try clear hb); (try clear hb2); (try clear hk); (try clear hi); (try clear ho0)))
  go_ret
  exact ⟨by first | rfl | (simp [errW_none, errW_some] <;> rfl) | (simp [*, errW_none, errW_some] <;> rfl), by repeat (first | (with_reducible first | exact HB.out | apply below_alloc | apply pw_below_drewN | apply below_drew1) | exact HB.out)⟩

end
end Go.Proofs.YtkfbdopfeacnfaaDoor.PFnExactValueText
