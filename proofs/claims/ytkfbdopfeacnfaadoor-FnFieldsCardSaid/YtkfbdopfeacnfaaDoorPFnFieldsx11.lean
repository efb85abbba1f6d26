-- Printed by wip/tools/patch_print.py; Lean checks it.
import Derived.Test.YtkfbdopfeacnfaaDoorPFnFieldsx0
import Derived.Test.YtkfbdopfeacnfaaDoorPFnFieldsx3
namespace Go.Proofs.YtkfbdopfeacnfaaDoor.PFnFields
open Go.RowKit Go.Proofs.YtkfbdopfeacnfaaDoorW.PrintWords Go.Proofs.YtkfbdopfeacnfaaDoorW.PrintLast Go.Proofs.YtkfbdopfeacnfaaDoorW.PrintMore
attribute [local go_sem] max2_int min2_int max_two min_two max_three min_three max_four min_four   -- for this text's walks alone
set_option linter.unusedVariables false
set_option linter.unusedSimpArgs false

noncomputable section
/-! ### impl_record: function 51 -/
/-! slices.Grow of nothing. -/
set_option maxHeartbeats 16000000 in
set_option maxRecDepth 100000 in
theorem rc_grow (n : Nat) (w : World) (hn : n < 1099511627776) : Calls Tryd.prog 120 #[.slice none 0 0, .int .i64 n] w fun e w' => ∃ v : Value, e = .returned v ∧ Kd.R k61 61 w' w.heap.size (fun _ => True) v [] ∧ Below w.heap.size w w' := by
 have HB := Aside0.mk (Below.refl w.heap.size w)
 have h1 : decide ((n : Int) < 0) = false := decide_eq_false (by omega)
 have h2 : wrap64 (n : Int) = n := by unfold wrap64; omega
 have h3 : IntKind.i64.wrap (n : Int) = n := by rw [IntKind.wrap_i64]; omega
 have h5 : (281474976710656 < (n : Int) * (Tryd.t61.bytes : Int)) = False := eq_false (by rw [show Tryd.t61.bytes = 56 from rfl]; omega)
 have HN := Aside0.mk hn
 clear hn
 by_cases c : 0 < n
 ·have c1 : decide ((0 : Int) < (n : Int)) = true := decide_eq_true (by omega)
  go_enter Tryd.func120, Tryd.ntmps120
  go_wp2_with (first | (at_builtin; refine Kd.R_append_zeros k61 (w0 := w) w.heap.size rfl (.tmp 20) (.tmp 21) 22 3 61 _ 56 rfl Tryd.underlying22 Tryd.underlying3 info61 rfl (by decide) (by omega) (.slice none 0 0) [] z61 (n : Int) (fun _ => True) rfl rfl (k61_mkM _ _ _ z61) (fun _ _ => trivial) ?aO ?a0 ?aB ?aS ?aL ?_; (case aO => exact Kd.R_nil _ _ _ _ _); (case a0 => omega); (case aB => exact (by repeat (first | exact HB.out | apply pw_below_drewN | apply below_drew1 | apply below_alloc))); (case aS => exact below_size (by repeat (first | exact HB.out | apply pw_below_drewN | apply below_drew1 | apply below_alloc))); (case aL => have := HN.out; simp only [List.length_nil, Int.toNat_natCast]; omega); intro v4 w4 ho hb hg hat; rw [List.nil_append, Int.toNat_natCast] at ho; have HO := Aside0.mk ho; have m0_ := Aside0.mk hb; clear ho HB hb hg hat; have HB := m0_; clear m0_; (obtain ⟨A4, c4, rfl⟩ := Kd.R_slice HO.out); have hle4 := Aside0.mk (Kd.R_reads' HO.out).2.1))
  go_ret
  exact ⟨_, rfl, Kd.R_take (m := 0) HO.out (Nat.zero_le _), HB.out⟩
 ·have c1 : decide ((0 : Int) < (n : Int)) = false := decide_eq_false (by omega)
  go_enter Tryd.func120, Tryd.ntmps120
  go_wp2
  go_ret
  exact ⟨_, rfl, Kd.R_nil _ _ _ _ _, HB.out⟩
/-! slices.Concat at rows of nodes. -/
def rc_sum : List (List S61) → Nat
 | [] => 0
 | l :: ls => l.length + rc_sum ls
theorem rc_sum_take (ls : List (List S61)) (i : Nat) (hi : i < ls.length) : rc_sum (ls.take (i + 1)) = rc_sum (ls.take i) + (rd_L3 ls i).length := by
 induction ls generalizing i with
 | nil => simp at hi
 | cons l ls ih =>
  cases i with
  | zero => simp [rc_sum, rd_L3]
  | succ i =>
   have := ih i (by simpa using hi)
   simp only [List.take_succ_cons, rc_sum, this]
   have e : rd_L3 (l :: ls) ((i + 1 : Nat) : Int) = rd_L3 ls (i : Nat) := by simp [rd_L3]
   rw [e]; omega
theorem rc_sum_le (ls : List (List S61)) (i : Nat) : rc_sum (ls.take i) ≤ rc_sum ls := by
 induction ls generalizing i with
 | nil => simp [rc_sum]
 | cons l ls ih =>
  cases i with
  | zero => simp [rc_sum]
  | succ i => have := ih i; simp only [List.take_succ_cons, rc_sum]; omega
theorem rc_len (ls : List (List S61)) : ls.flatten.length = rc_sum ls := by
 induction ls with
 | nil => rfl
 | cons l ls ih => simp [rc_sum, ih]
theorem rc_flat_take (ls : List (List S61)) (i : Nat) (hi : i < ls.length) : (ls.take (i + 1)).flatten = (ls.take i).flatten ++ rd_L3 ls i := by
 rw [List.take_succ_eq_append_getElem hi, List.flatten_append]
 simp [rd_L3, List.getD_eq_getElem?_getD, hi]
set_option maxHeartbeats 16000000 in
set_option maxRecDepth 100000 in
theorem rc_concat (A0 : Option Addr) (c0 : Nat) (ls : List (List S61)) (w : World) (hr : Kd.C (Kd.slice 61 k61) w A0 ls.length ls) (hl : ls.length < 1099511627776) (hs : rc_sum ls < 1099511627776) :
  Calls Tryd.prog 86 #[.slice A0 ls.length c0] w fun e w' => ∃ v : Value, e = .returned v ∧ Kd.R k61 61 w' w.heap.size (fun _ => True) v ls.flatten ∧ Below w.heap.size w w' := by
 have HR0 := Aside0.mk hr
 have HL := Aside0.mk hl
 have HS := Aside0.mk hs
 have HB := Aside0.mk (Below.refl w.heap.size w)
 clear hr hl hs
 go_enter Tryd.func86, Tryd.ntmps86
 go_wp2
 go_loopg [3, 11] (ls.length + 1) (fun kq v3 v11 w' => ∃ (i : Nat), v3 = .int .i64 (rc_sum (ls.take i)) ∧ v11 = .int .i64 i ∧ Aside0 (kq + i = ls.length + 1 ∧ i ≤ ls.length) ∧ Aside0 (Below w.heap.size w w'))
 case atStart => exact ⟨0, rfl, rfl, ⟨by omega, Nat.zero_le _⟩, HB⟩
 case round =>
  clear HB
  obtain ⟨i, rfl, rfl, HI, HB⟩ := hrel
  cases gk with
  | zero => have := HI.out; omega
  | succ m =>
  by_cases c : i < ls.length
  ·have c1 : decide ((i : Int) < (ls.length : Int)) = true := decide_eq_true (by omega)
   obtain ⟨ad, B0, d0, e0, hx0, _, _⟩ := at_L3 HR0.out (i : Int) (by omega) (by omega)
   cases e0
   have hx := (HB.out.cell (World.block_lt_of_cell? _ _ hx0)).trans hx0
   rw [Int.toNat_natCast] at hx
   have p0 : ((0 : Int) ≤ (i : Int)) = True := eq_true (by omega)
   have q0 : ((i : Int) < (ls.length : Int)) = True := eq_true (by omega)
   have hsum := rc_sum_take ls i c
   have hle := rc_sum_le ls (i + 1)
   have hi1 : wrap64 ((i : Int) + 1) = ((i + 1 : Nat) : Int) := by have := HL.out; unfold wrap64; omega
   have hi2 : wrap64 ((rc_sum (ls.take i) : Int) + ((rd_L3 ls i).length : Int)) = (rc_sum (ls.take (i + 1)) : Int) := by have := HS.out; unfold wrap64; omega
   have hi3 : IntKind.i64.wrap ((i : Int) + 1) = ((i + 1 : Nat) : Int) := by rw [IntKind.wrap_i64]; have := HL.out; omega
   have hi4 : IntKind.i64.wrap ((rc_sum (ls.take i) : Int) + ((rd_L3 ls i).length : Int)) = (rc_sum (ls.take (i + 1)) : Int) := by rw [IntKind.wrap_i64]; have := HS.out; omega
   have c2 : decide ((rc_sum (ls.take (i + 1)) : Int) < 0) = false := decide_eq_false (by omega)
   have HC := Aside0.mk c
   clear c hx0 hsum hle
   go_wp2
   go_roundg m
   case measure => have := HI.out; omega
   case rel => exact ⟨i + 1, rfl, rfl, ⟨by have := HI.out; omega, HC.out⟩, HB⟩
  ·have c1 : decide ((i : Int) < (ls.length : Int)) = false := decide_eq_false (by omega)
   have hi : i = ls.length := by have := HI.out; omega
   subst hi
   clear c HI
   go_wp2_with (first | ((with_reducible refine gate_callee (f := 120) rfl ?_); refine goesL_ (some 24) rfl rfl Tryd.func120 (by kernel_rfl) rfl #[.slice none 0 0, .int .i64 ((rc_sum (ls.take ls.length) : Nat) : Int)] rfl (by (try simp only [List.map_toArray, List.map_cons, List.map_nil]); first | done | rfl) ?_; (refine (rc_grow (rc_sum (ls.take ls.length)) _ (Nat.lt_of_le_of_lt (rc_sum_le _ _) HS.out)).mono ?_); rintro e w3 ⟨v3, rfl, ho, hb⟩; refine ⟨_, rfl, ?_⟩; have HO := Aside0.mk (Kd.R_lower ho (below_size HB.out)); have m0_ := Aside0.mk (below_step HB.out hb); clear ho hb HB; have HB := m0_; clear m0_))
   clear c1
   go_loopg [6, 27] (ls.length + 1) (fun kq v6 v27 w' => ∃ (i : Nat), v27 = .int .i64 i ∧ Aside0 (kq + i = ls.length + 1 ∧ i ≤ ls.length) ∧ Aside0 (Kd.R k61 61 w' w.heap.size (fun _ => True) v6 (ls.take i).flatten) ∧ Aside0 (Below w.heap.size w w'))
   case atStart => exact ⟨0, rfl, ⟨by omega, Nat.zero_le _⟩, HO, HB⟩
   case round =>
    clear HB HO
    obtain ⟨i, rfl, HI, HO, HB⟩ := hrel
    obtain ⟨A6, c6, rfl⟩ := Kd.R_slice HO.out
    cases gk with
    | zero => have := HI.out; omega
    | succ m =>
    by_cases c : i < ls.length
    ·have c1 : decide ((i : Int) < (ls.length : Int)) = true := decide_eq_true (by omega)
     obtain ⟨ad, B0, d0, e0, hx0, _, hC⟩ := at_L3 HR0.out (i : Int) (by omega) (by omega)
     cases e0
     have hx := (HB.out.cell (World.block_lt_of_cell? _ _ hx0)).trans hx0
     rw [Int.toNat_natCast] at hx
     have p0 : ((0 : Int) ≤ (i : Int)) = True := eq_true (by omega)
     have q0 : ((i : Int) < (ls.length : Int)) = True := eq_true (by omega)
     have hsum := rc_sum_take ls i c
     have hle := rc_sum_le ls (i + 1)
     have HLN := Aside0.mk (show (ls.take i).flatten.length + (rd_L3 ls i).length < 1099511627776 from by have := HS.out; rw [rc_len]; omega)
     have HFT := Aside0.mk (rc_flat_take ls i c)
     have hi1 : wrap64 ((i : Int) + 1) = ((i + 1 : Nat) : Int) := by have := HL.out; unfold wrap64; omega
     have hi3 : IntKind.i64.wrap ((i : Int) + 1) = ((i + 1 : Nat) : Int) := by rw [IntKind.wrap_i64]; have := HL.out; omega
     have HC := Aside0.mk c
     have HCC := Aside0.mk hC
     clear c hx0 hsum hle hC
     go_wp2_with (first | ((with_reducible refine gate_builtin (b := .append) (xs := #[.tmp 31, .tmp 32]) rfl ?_); at_builtin; refine Kd.R_append_rows k61 (w0 := w) w.heap.size rfl (.tmp 31) (.tmp 32) 22 61 _ 56 rfl Tryd.underlying22 info61 rfl (by decide) (by omega) (.slice A6 (ls.take i).flatten.length c6) (ls.take i).flatten (rd_L3 ls i) _ _ _ (fun _ => True) (fun _ => False) rfl rfl ?aO ?aR (fun _ _ h => h) (fun _ h => h.elim) ?aF ?aB ?aS ?aL ?_; (case aR => exact Kd.C_below HCC.out HB.out); (case aB => exact HB.out); (case aF => exact (fun _ _ => trivial)); (case aO => exact HO.out); (case aS => exact (below_size HB.out)); (case aL => have := HLN.out; omega); intro v2 w2 ho hb hg hat; have n0_ := Aside0.mk hb; have n1_ := Aside0.mk ho; clear hx HB HO ho hb hg hat; have HB := n0_; have HO := n1_; clear n0_ n1_))
     go_roundg m
     case measure => have := HI.out; omega
     case rel => exact ⟨i + 1, rfl, ⟨by have := HI.out; omega, HC.out⟩, ⟨by rw [HFT.out]; exact HO.out⟩, HB⟩
    ·have c1 : decide ((i : Int) < (ls.length : Int)) = false := decide_eq_false (by omega)
     have hi : i = ls.length := by have := HI.out; omega
     subst hi
     have HO2 := Aside0.mk HO.out
     rw [List.take_length] at HO2
     clear c HI HO
     go_wp2
     go_ret
     exact ⟨_, rfl, by rw [List.take_length]; exact HO2.out, HB.out⟩
/-! Rows of rows, told by their rows' places. -/
def encS (p : Option Addr × Nat × Nat) : Value := .slice p.1 p.2.1 p.2.2
def kS : Kd (Option Addr × Nat × Nat) := Kd.scalar encS (fun _ => rfl)
def RelS (w : World) (p : Option Addr × Nat × Nat) (l : List S61) : Prop := p.2.1 = l.length ∧ l.length ≤ p.2.2 ∧ Kd.C k61 w p.1 l.length l
theorem RelS.below {w w' : World} {p : Option Addr × Nat × Nat} {l : List S61} (h : RelS w p l) (hb : Below w.heap.size w w') : RelS w' p l := ⟨h.1, h.2.1, Kd.C_below h.2.2 hb⟩
theorem rc_open {w : World} {A : Option Addr} {n : Nat} {ls : List (List S61)} (h : Kd.C (Kd.slice 61 k61) w A n ls) : ∃ ps : List (Option Addr × Nat × Nat), ps.length = ls.length ∧ Kd.C kS w A n ps ∧ ∀ (i : Nat) p l, ps[i]? = some p → ls[i]? = some l → RelS w p l := by
 obtain ⟨h1, h2, h3⟩ := h
 rcases Nat.eq_zero_or_pos n with h0 | h0
 ·subst h0
  have : ls = [] := List.length_eq_zero_iff.1 h1
  subst this
  exact ⟨[], rfl, ⟨rfl, by omega, fun h => absurd h (Nat.lt_irrefl 0)⟩, fun i p l hp => by simp at hp⟩
 obtain ⟨ad, e, hc⟩ := h3 h0
 have hex : ∀ j, ∃ p : Option Addr × Nat × Nat, ∀ l, ls[j]? = some l → RelS w p l ∧ w.cell? (ad.add (j * 1 + 0)) = some (encS p) := by
  intro j
  cases hj : ls[j]? with
  | none => exact ⟨(none, 0, 0), fun l hl => by cases hl⟩
  | some l =>
   obtain ⟨c, hcl, ⟨A', c', rfl, hle, hC⟩, hcell⟩ := hc j l hj
   exact ⟨(A', l.length, c'), fun l' hl => by cases hl; exact ⟨⟨rfl, hle, hC⟩, hcell 0 _ rfl⟩⟩
 obtain ⟨f, hf⟩ : ∃ f : Nat → Option Addr × Nat × Nat, ∀ j l, ls[j]? = some l → RelS w (f j) l ∧ w.cell? (ad.add (j * 1 + 0)) = some (encS (f j)) := ⟨fun j => Classical.choose (hex j), fun j => Classical.choose_spec (hex j)⟩
 have hget : ∀ (i : Nat) p, ((List.range n).map f)[i]? = some p → p = f i ∧ i < n := by
  intro i p hp
  rw [List.getElem?_map, Option.map_eq_some_iff] at hp
  obtain ⟨q, hq, rfl⟩ := hp
  obtain ⟨hi, he⟩ := List.getElem?_eq_some_iff.1 hq
  rw [List.getElem_range] at he
  rw [List.length_range] at hi
  exact ⟨by rw [he], hi⟩
 refine ⟨(List.range n).map f, by simp [h1], ⟨by simp, h2, fun _ => ⟨ad, e, fun j p hj => ?_⟩⟩, fun i p l hp hl => ?_⟩
 ·obtain ⟨rfl, hi⟩ := hget j p hj
  refine ⟨[encS (f j)], rfl, rfl, fun i u hu => ?_⟩
  cases i with
  | zero =>
   injection hu with hu
   subst hu
   exact (hf j _ (List.getElem?_eq_getElem (by omega))).2
  | succ i => simp at hu
 ·obtain ⟨rfl, _⟩ := hget i p hp
  exact (hf i l hl).1
theorem rc_close {w : World} {A : Option Addr} {n : Nat} {ls : List (List S61)} {ps : List (Option Addr × Nat × Nat)} (h : Kd.C kS w A n ps) (hl : ls.length = ps.length) (hr : ∀ (i : Nat) p l, ps[i]? = some p → ls[i]? = some l → RelS w p l) : Kd.C (Kd.slice 61 k61) w A n ls := by
 obtain ⟨h1, h2, h3⟩ := h
 refine ⟨hl.trans h1, h2, fun hn => ?_⟩
 obtain ⟨ad, e, hc⟩ := h3 hn
 refine ⟨ad, e, fun j l hj => ?_⟩
 have hjl := (List.getElem?_eq_some_iff.1 hj).1
 obtain ⟨p, hp⟩ : ∃ p, ps[j]? = some p := ⟨_, List.getElem?_eq_getElem (by omega)⟩
 obtain ⟨c, hcl, rfl, hcell⟩ := hc j p hp
 obtain ⟨r1, r2, r3⟩ := hr j p l hp hj
 exact ⟨[encS p], rfl, ⟨p.1, p.2.2, by unfold encS; rw [r1], r2, r3⟩, hcell⟩
set_option maxHeartbeats 16000000 in
set_option maxRecDepth 100000 in
theorem rc_clone (A0 : Option Addr) (c0 : Nat) (l0 : List (Option Addr × Nat × Nat)) (w : World) (hr0 : Kd.C kS w A0 l0.length l0) (hl : l0.length < 1099511627776) :
  Calls Tryd.prog 82 #[.slice A0 l0.length c0] w fun e w' => ∃ v : Value, e = .returned v ∧ Kd.R kS 22 w' w.heap.size (fun _ => True) v l0 ∧ Below w.heap.size w w' := by
 have q70 : ∀ (w : World) (a : Option Addr) (n c n' c' : Nat), (binOp .eql 73 (.slice a n c) (.slice none n' c')).run Tryd.prog w = .ok (.bool a.isNone) w := fun w a n c n' c' => Lib.run_eql_slice_nil w _ _ a n c n' c' Tryd.underlying73
 have HR0 := Aside0.mk hr0
 have HL := Aside0.mk hl
 have HB := Aside0.mk (Below.refl w.heap.size w)
 clear hl
 cases A0 with
 | none =>
  have hz : l0.length = 0 := by
   rcases Nat.eq_zero_or_pos l0.length with h | h
   ·exact h
   ·obtain ⟨ad, e, _⟩ := hr0.2.2 h
    cases e
  obtain rfl : l0 = [] := List.eq_nil_of_length_eq_zero hz
  clear hz hr0
  go_enter Tryd.func82, Tryd.ntmps82
  go_wp2
  go_ret
  exact ⟨_, rfl, Kd.R_nil _ _ _ _ _, HB.out⟩
 | some ad =>
  clear hr0
  go_enter Tryd.func82, Tryd.ntmps82
  go_wp2_with (first | ((with_reducible refine gate_dst (N := 5) rfl ?_); (try (refine gate_guard (by rfl) ?_; dsimp only)); refine Kd.R_lit kS _ 22 ?hg (N := 5) ?hd (xs := ([] : List (Option Addr × Nat × Nat))) (inner := []) (ok := fun _ => True) (okp := fun _ => True) ?hr ?hp (fun _ hk => hk) trivial (Below.refl _ _) (Nat.le_refl _) (by simp) ?_; (case hd => rfl); (case hg => rfl); (case hr => first | (go_simp; done) | (go_simp; rfl)); (case hp => exact (Reps.none _ _)); intro v1 w1 ho hb hg_ hnew_; clear hg_ hnew_; have n0_ := Aside0.mk (Kd.R_lower ho (below_size HB.out)); have n1_ := Aside0.mk (below_step HB.out hb); clear HB ho hb; have HO := n0_; have HB := n1_; clear n0_ n1_) | ((with_reducible refine gate_builtin (b := .append) (xs := #[.tmp 5, .tmp 6]) rfl ?_); (try (refine gate_guard (by rfl) ?_; dsimp only)); at_builtin; refine Kd.R_append_rows kS (w0 := w) w.heap.size rfl (.tmp 5) (.tmp 6) 73 22 _ 24 rfl Tryd.underlying73 info22 rfl (by decide) (by omega) v1 [] l0 _ _ _ (fun _ => True) (fun _ => False) rfl rfl ?aO ?aR (fun _ _ h => h) (fun _ h => h.elim) ?aF ?aB ?aS ?aL ?_; (case aR => exact Kd.C_below HR0.out HB.out); (case aB => exact HB.out); (case aF => exact (fun _ _ => trivial)); (case aO => exact HO.out); (case aS => exact (below_size HB.out)); (case aL => have := HL.out; simp; omega); intro v2 w2 ho hb hg hat; have n0_ := Aside0.mk hb; have n1_ := Aside0.mk ho; clear HB HO ho hb hg hat; have HB := n0_; have HO := n1_; clear n0_ n1_))
  go_ret
  exact ⟨_, rfl, by simpa using HO.out, HB.out⟩
/-! The comparison of two members. -/
theorem rc_add0 (ad : Addr) : ad.add 0 = ad := by unfold Addr.add; simp
set_option maxHeartbeats 16000000 in
set_option maxRecDepth 100000 in
theorem rc_cmp (k : Nat) (p q : Option Addr × Nat × Nat) (x y : List S61) (r : Int) (w : World) (tb : TabsU.Tabs0 w) (hp : RelS w p x) (hq : RelS w q y) (hx : 0 < x.length) (hy : 0 < y.length) (h : impl_compareKeys.f k (rd_T61 x 0).f0 (rd_T61 y 0).f0 = some r) :
  Calls Tryd.prog 84 #[encS p, encS q] w fun e w' => e = .returned (.int .i64 r) ∧ Below w.heap.size w w' := by
 have hu61 := Tryd.underlying61
 have hu22 := Tryd.underlying22
 obtain ⟨A1, n1, c1⟩ := p
 obtain ⟨A2, n2, c2⟩ := q
 obtain ⟨e1, _, hC1⟩ := hp
 obtain ⟨e2, _, hC2⟩ := hq
 have e1 : n1 = x.length := e1
 have e2 : n2 = y.length := e2
 subst e1
 subst e2
 have TB := Aside0.mk tb
 have H := Aside0.mk h
 have HB := Aside0.mk (Below.refl w.heap.size w)
 obtain ⟨ad, e0, hx0, _, _, _, _⟩ := at_T61 hC1 0 (by omega) (by omega)
 cases e0
 obtain ⟨ad2, e0, hy0, _, _, _, _⟩ := at_T61 hC2 0 (by omega) (by omega)
 cases e0
 have hx0 : w.cell? (ad.add 0) = some (.string (rd_T61 x 0).f0) := hx0
 have hy0 : w.cell? (ad2.add 0) = some (.string (rd_T61 y 0).f0) := hy0
 rw [rc_add0] at hx0 hy0
 have X0 := Aside0.mk hx0
 have Y0 := Aside0.mk hy0
 have q1 : ((0 : Int) < (x.length : Int)) = True := eq_true (by omega)
 have q2 : ((0 : Int) < (y.length : Int)) = True := eq_true (by omega)
 have q3 : (0 < x.length) = True := eq_true hx
 have q4 : (0 < y.length) = True := eq_true hy
 clear tb h hC1 hC2 hx hy hx0 hy0
 unfold encS
 go_enter Tryd.func84, Tryd.ntmps84
 go_wp2
 refine wp_region_still_tail 8 (by kernel_rfl) (by kernel_rfl) ?_
 simp only [List.take_succ_cons, List.take_zero, List.drop_succ_cons, List.drop_zero]
 change wpStill _ _ w.drew (fun a' => wpList _ _ _ _ a' w.drew) _ _
 have hx1 : w.drew.cell? ad = some (.string (rd_T61 x 0).f0) := X0.out
 have hy1 : w.drew.cell? ad2 = some (.string (rd_T61 y 0).f0) := Y0.out
 have m0_ := Aside0.mk (below_drew1 HB.out)
 clear HB
 generalize w.drew = w6 at m0_ hx1 hy1 ⊢
 have HB := m0_
 clear m0_
 repeat still_step
 refine wpStill_nil ?_
 go_wp2_with (first | ((with_reducible refine gate_callee (f := 85) rfl ?_); refine goesL_ (some 13) rfl rfl Tryd.func85 (by kernel_rfl) rfl #[.string (rd_T61 x 0).f0, .string (rd_T61 y 0).f0] rfl (by (try simp only [List.map_toArray, List.map_cons, List.map_nil]); first | done | rfl) ?_; (refine (impl_compareKeys.calls k _ _ r _ (TabsU.Tabs0.of_below TB.out HB.out) H.out).mono ?_); rintro e w3 ⟨rfl, hb⟩; refine ⟨_, rfl, ?_⟩; have m0_ := Aside0.mk (below_step HB.out hb); clear hx1 hy1 hb HB; have HB := m0_; clear m0_))
 go_ret
 exact ⟨rfl, HB.out⟩
/-! The order of members, by the program's own comparison of their keys. -/
def rc_cmpK (k : Nat) (x y : List S61) : Int := (impl_compareKeys.f k (rd_T61 x 0).f0 (rd_T61 y 0).f0).getD 0
def rc_lt (k : Nat) (x y : List S61) : Bool := decide (rc_cmpK k x y < 0)
structure rc_ok (k : Nat) (ms : List (List S61)) : Prop where
 pos : ∀ x ∈ ms, 0 < x.length
 cmp : ∀ x ∈ ms, ∀ y ∈ ms, ∃ r, impl_compareKeys.f k (rd_T61 x 0).f0 (rd_T61 y 0).f0 = some r
 irrefl : ∀ x ∈ ms, rc_lt k x x = false
 trans : ∀ x ∈ ms, ∀ y ∈ ms, ∀ z ∈ ms, rc_lt k x y = true → rc_lt k y z = true → rc_lt k x z = true
 ntrans : ∀ x ∈ ms, ∀ y ∈ ms, ∀ z ∈ ms, rc_lt k x y = false → rc_lt k y z = false → rc_lt k x z = false
 apart : ms.Pairwise (fun x y => rc_lt k x y = true ∨ rc_lt k y x = true)
 sum : rc_sum ms < 1099511627776
 len : ms.length < 1099511627776
def rc_sorted (k : Nat) (ms : List (List S61)) : List (List S61) := ms.mergeSort (fun x y => !rc_lt k y x)
open Classical in
def impl_record.f (k : Nat) (key : ByteArray) (ms : List (List S61)) : Option (List S61) := if rc_ok k ms then some (⟨key, 7, 0, ⟨#[]⟩, ms.length⟩ :: (rc_sorted k ms).flatten) else none
theorem rc_lt_mono {k : Nat} {ms : List (List S61)} (h : rc_ok k ms) {x y : List S61} (hx : x ∈ ms) (hy : y ∈ ms) : rc_lt (k + 1) x y = rc_lt k x y := by
 obtain ⟨r, hr⟩ := h.cmp x hx y hy
 unfold rc_lt rc_cmpK
 rw [hr, impl_compareKeys.mono _ _ _ r hr]
theorem rc_ok.up {k : Nat} {ms : List (List S61)} (h : rc_ok k ms) : rc_ok (k + 1) ms where
 pos := h.pos
 cmp := fun x hx y hy => let ⟨r, hr⟩ := h.cmp x hx y hy; ⟨r, impl_compareKeys.mono _ _ _ r hr⟩
 irrefl := fun x hx => (rc_lt_mono h hx hx).trans (h.irrefl x hx)
 trans := fun x hx y hy z hz a b => by rw [rc_lt_mono h hx hy] at a; rw [rc_lt_mono h hy hz] at b; rw [rc_lt_mono h hx hz]; exact h.trans x hx y hy z hz a b
 ntrans := fun x hx y hy z hz a b => by rw [rc_lt_mono h hx hy] at a; rw [rc_lt_mono h hy hz] at b; rw [rc_lt_mono h hx hz]; exact h.ntrans x hx y hy z hz a b
 apart := h.apart.imp_of_mem (fun {x y} hx hy a => by rw [rc_lt_mono h hx hy, rc_lt_mono h hy hx]; exact a)
 sum := h.sum
 len := h.len
theorem rc_sorted_up {k : Nat} {ms : List (List S61)} (h : rc_ok k ms) : rc_sorted (k + 1) ms = rc_sorted k ms := by
 unfold rc_sorted
 have := List.map_mergeSort (r := fun x y => !rc_lt k y x) (s := fun x y => !rc_lt (k + 1) y x) (f := id) (l := ms) (fun a ha b hb => by simp only [id]; rw [rc_lt_mono h hb ha])
 rw [List.map_id, List.map_id] at this
 exact this.symm
theorem impl_record.mono : ∀ key ms k, LeO (impl_record.f k key ms) (impl_record.f (k + 1) key ms) := by
 intro key ms k r h
 unfold impl_record.f at h ⊢
 by_cases c : rc_ok k ms
 ·rw [if_pos c] at h
  rw [if_pos c.up, rc_sorted_up c]
  exact h
 ·rw [if_neg c] at h; cases h
/-! slices.SortFunc at members. -/
theorem rc_sort_size {α : Type} [Inhabited α] (enc : α → Value) (w : World) (b o m : Nat) (dk : Array α) (os : Array Obj) : w.heap.size ≤ (sortWorld enc w b o m dk os).heap.size := by
 show w.heap.size ≤ ((Sort.putRow enc (Sort.ahead w m) b o dk).heap ++ os).size
 rw [Array.size_append, Sort.size_putRow]
 exact Nat.le_add_right _ _
theorem rc_sort_below {α : Type} [Inhabited α] (enc : α → Value) {W0 w : World} {g : Nat} (hB : Below W0.heap.size W0 w) (hg : W0.heap.size ≤ g) (m : Nat) (dk : Array α) (os : Array Obj) : Below W0.heap.size W0 (sortWorld enc w g 0 m dk os) := by
 have hs := rc_sort_size enc w g 0 m dk os
 refine ⟨hB.os, hB.tape, hB.output, Nat.le_trans hB.size hs, fun k hk => ?_⟩
 rw [← hB.block k hk]
 have hkw : k < w.heap.size := Nat.lt_of_lt_of_le hk hB.size
 show ((Sort.putRow enc (Sort.ahead w m) g 0 dk).heap ++ os)[k]? = _
 rw [Array.getElem?_append_left (by rw [Sort.size_putRow]; exact hkw)]
 simp [Sort.putRow, Sort.mapBlock, Sort.ahead, Array.getElem?_modify, show ¬ g = k by omega]
theorem rc_sort (k : Nat) (ps : List (Option Addr × Nat × Nat)) (ms : List (List S61)) (W0 w : World) (g c : Nat) (hB : Below W0.heap.size W0 w) (hg : W0.heap.size ≤ g) (hl : ps.length = ms.length) (hn : 0 < ps.length) (hrel : ∀ (i : Nat) p l, ps[i]? = some p → ms[i]? = some l → RelS W0 p l) (tb : TabsU.Tabs0 W0)
  (hO : Kd.R kS 22 w W0.heap.size (fun _ => True) (.slice (some ⟨g, 0, none⟩) ps.length c) ps) (ok : rc_ok k ms) :
  Calls Tryd.prog 83 #[.slice (some ⟨g, 0, none⟩) ps.length c, .func (.func 84) #[] #[]] w fun e w' => e = .returned (.tuple #[]) ∧ Kd.C (Kd.slice 61 k61) w' (some ⟨g, 0, none⟩) (rc_sorted k ms).length (rc_sorted k ms) ∧ Below W0.heap.size W0 w' := by
 haveI : Inhabited (Fin ps.length) := ⟨⟨0, hn⟩⟩
 obtain ⟨P_, hP⟩ : ∃ P_ : Fin ps.length → Option Addr × Nat × Nat, P_ = fun i => ps[i.1] := ⟨_, rfl⟩
 obtain ⟨M_, hM⟩ : ∃ M_ : Fin ps.length → List S61, M_ = fun i => ms[i.1]'(hl ▸ i.2) := ⟨_, rfl⟩
 have hmem : ∀ i, M_ i ∈ ms := fun i => by rw [hM]; exact List.getElem_mem _
 have hRel : ∀ i, RelS W0 (P_ i) (M_ i) := fun i => by
  rw [hP, hM]; exact hrel i.1 _ _ (List.getElem?_eq_getElem i.2) (List.getElem?_eq_getElem (hl ▸ i.2))
 obtain ⟨cf, hcf⟩ : ∃ cf : Fin ps.length → Fin ps.length → Int, cf = fun i j => rc_cmpK k (M_ i) (M_ j) := ⟨_, rfl⟩
 have hlt : ∀ i j, ltOf cf i j = rc_lt k (M_ i) (M_ j) := fun i j => by rw [hcf]; rfl
 have swo : Sort.SWO (ltOf cf) := ⟨fun i => by rw [hlt]; exact ok.irrefl _ (hmem i), fun i j l a b => by rw [hlt] at a b ⊢; exact ok.trans _ (hmem i) _ (hmem j) _ (hmem l) a b, fun i j l a b => by rw [hlt] at a b ⊢; exact ok.ntrans _ (hmem i) _ (hmem j) _ (hmem l) a b⟩
 have hT : ∀ i j, ltOf cf i j = false → ltOf cf j i = false → i = j := fun i j a b => by
  rw [hlt, hM] at a b
  rcases Nat.lt_trichotomy i.1 j.1 with h | h | h
  ·rcases List.pairwise_iff_getElem.1 ok.apart i.1 j.1 (hl ▸ i.2) (hl ▸ j.2) h with h1 | h1
   ·rw [h1] at a; cases a
   ·rw [h1] at b; cases b
  ·exact Fin.ext h
  ·rcases List.pairwise_iff_getElem.1 ok.apart j.1 i.1 (hl ▸ j.2) (hl ▸ i.2) h with h1 | h1
   ·rw [h1] at b; cases b
   ·rw [h1] at a; cases a
 obtain ⟨en, hen⟩ : ∃ en : Fin ps.length → Value, en = fun i => encS (P_ i) := ⟨_, rfl⟩
 have h1 : OneCell en := fun i => by rw [hen]; rfl
 obtain ⟨d, hd⟩ : ∃ d : Array (Fin ps.length), d = (List.finRange ps.length).toArray := ⟨_, rfl⟩
 have hds : d.size = ps.length := by rw [hd]; simp
 have hgw : g < w.heap.size := Kd.R_lt hO g rfl
 have hH : Sort.Holds en w g 0 d := fun j hj => by
  have hj' : j < ps.length := by omega
  have h := Kd.R_celln (none, 0, 0) hO (j : Int) (by omega) (by omega)
  rw [Int.toNat_natCast] at h
  have e : en d[j]! = encS (rdOf (none, 0, 0) ps (j : Int)) := by
   have e2 : d[j]! = ⟨j, hj'⟩ := by subst hd; rw [getElem!_pos _ j hj]; simp
   rw [e2, hen, hP]
   simp [rdOf, List.getD_eq_getElem?_getD, hj']
  rw [Nat.zero_add, e]
  exact h
 have hcmp : CmpLays1 Tryd.prog 84 #[] en cf g 0 d.size w := fun m os dk hs x y => by
  have hb := rc_sort_below en hB hg m dk os
  have hr : impl_compareKeys.f k (rd_T61 (M_ x) 0).f0 (rd_T61 (M_ y) 0).f0 = some (cf x y) := by
   obtain ⟨r, hr⟩ := ok.cmp _ (hmem x) _ (hmem y)
   rw [hcf]
   show _ = some (rc_cmpK k (M_ x) (M_ y))
   unfold rc_cmpK
   rw [hr]; rfl
  have hc := rc_cmp k (P_ x) (P_ y) (M_ x) (M_ y) (cf x y) (sortWorld en w g 0 m dk os) (TabsU.Tabs0.of_below tb hb) ((hRel x).below hb) ((hRel y).below hb) (ok.pos _ (hmem x)) (ok.pos _ (hmem y)) hr
  have e : (#[en x, en y] ++ #[] : Array Value) = #[encS (P_ x), encS (P_ y)] := by rw [hen]; rfl
  rw [e]
  refine (Go.Proofs.Drawn.calls_drawn hc (fun e w' h => ⟨_, h.1⟩)).mono ?_
  rintro e w' ⟨⟨rfl, hb2⟩, hd⟩
  obtain ⟨q, os', h⟩ := Go.Proofs.Drawn.grow_of hb2 hd
  exact ⟨rfl, q, os', h⟩
 have hs := Tryd.slices_SortFunc_rows en h1 cf swo 84 #[] g 0 c d w (enters_of Tryd.func84 (by kernel_rfl) rfl) hcmp hH hgw (by have := ok.len; omega) hT
 rw [hds] at hs
 refine hs.mono ?_
 rintro e w' ⟨rfl, n', os, rfl⟩
 obtain ⟨L, hL⟩ : ∃ L, L = d.toList.mergeSort (fun x y => !ltOf cf y x) := ⟨_, rfl⟩
 rw [← hL]
 have hLl : L.length = ps.length := by rw [hL, List.length_mergeSort, hd]; simp
 have hb := rc_sort_below en hB hg n' L.toArray os
 have hh := holds_sortWorld en w g 0 n' d L.toArray os hgw hH (by rw [hds]; simpa using hLl)
 refine ⟨rfl, ?_, hb⟩
 have e1 : L.map M_ = rc_sorted k ms := by
  unfold rc_sorted
  rw [hL, hd, List.map_mergeSort (s := fun x y => !rc_lt k y x) (f := M_) (fun a _ b _ => by rw [hlt])]
  congr 1
  rw [hM]
  apply List.ext_getElem
  ·simp [hl]
  ·intro i h1 h2; simp
 rw [← e1]
 have hC : Kd.C kS (sortWorld en w g 0 n' L.toArray os) (some ⟨g, 0, none⟩) (L.map P_).length (L.map P_) := by
  refine ⟨rfl, by rw [List.length_map]; have := ok.len; omega, fun _ => ⟨_, rfl, fun j p hj => ?_⟩⟩
  rw [List.getElem?_map, Option.map_eq_some_iff] at hj
  obtain ⟨q, hq, rfl⟩ := hj
  obtain ⟨hjl, hjq⟩ := List.getElem?_eq_some_iff.1 hq
  refine ⟨[encS (P_ q)], rfl, rfl, fun i u hu => ?_⟩
  cases i with
  | zero =>
   injection hu with hu
   subst hu
   have h := (hh j (by simpa using hjl)).1
   have e : en (L.toArray)[j]! = encS (P_ q) := by
    rw [getElem!_pos L.toArray j (by simpa using hjl), List.getElem_toArray, hjq, hen]
   rw [Nat.zero_add, e] at h
   rw [show ((⟨g, 0, none⟩ : Addr).add (j * kS.sz + 0)) = ⟨g, j, none⟩ by show (⟨g, 0, none⟩ : Addr).add (j * 1 + 0) = _; rw [Nat.mul_one, Nat.add_zero]; unfold Addr.add; by_cases hj0 : j = 0 <;> simp [hj0]]
   exact h
  | succ i => simp at hu
 have hln : (L.map P_).length = (L.map M_).length := by simp
 rw [hln] at hC
 refine rc_close hC (by simp) (fun i p l hp hl' => ?_)
 rw [List.getElem?_map, Option.map_eq_some_iff] at hp hl'
 obtain ⟨q, hq, rfl⟩ := hp
 obtain ⟨q', hq', rfl⟩ := hl'
 rw [hq] at hq'
 injection hq' with hq'
 subst hq'
 exact (hRel q).below hb
theorem rc_sort2 (k : Nat) (ps : List (Option Addr × Nat × Nat)) (ms : List (List S61)) (W0 w : World) (A : Option Addr) (c : Nat) (hB : Below W0.heap.size W0 w) (hl : ps.length = ms.length) (hrel : ∀ (i : Nat) p l, ps[i]? = some p → ms[i]? = some l → RelS W0 p l) (tb : TabsU.Tabs0 W0)
  (hO : Kd.R kS 22 w W0.heap.size (fun _ => True) (.slice A ps.length c) ps) (ok : rc_ok k ms) :
  Calls Tryd.prog 83 #[.slice A ps.length c, .func (.func 84) #[] #[]] w fun e w' => e = .returned (.tuple #[]) ∧ Kd.C (Kd.slice 61 k61) w' A ps.length (rc_sorted k ms) ∧ Below W0.heap.size W0 w' := by
 have hsl : (rc_sorted k ms).length = ps.length := by unfold rc_sorted; rw [List.length_mergeSort, hl]
 rcases Nat.eq_zero_or_pos ps.length with h0 | h0
 ·have := Tryd.slices_SortFunc_rows_none A c (.func (.func 84) #[] #[]) w
  rw [h0]
  refine this.mono ?_
  rintro e w' ⟨rfl, rfl⟩
  exact ⟨rfl, ⟨hsl.trans h0, by omega, fun h => absurd h (Nat.lt_irrefl 0)⟩, hB⟩
 ·obtain ⟨g, cap, e, hg, _, _⟩ := Kd.R_form hO h0
  injection e with e1 e2 e3
  subst e1
  have := rc_sort k ps ms W0 w g c hB hg hl h0 hrel tb hO ok
  rw [hsl] at this
  exact this
theorem rc_sum_perm {a b : List (List S61)} (h : a.Perm b) : rc_sum a = rc_sum b := by
 induction h with
 | nil => rfl
 | cons x _ ih => simp only [rc_sum, ih]
 | swap x y l => simp only [rc_sum]; omega
 | trans _ _ h1 h2 => exact h1.trans h2
theorem rc_concat2 (A0 : Option Addr) (n c0 : Nat) (ls : List (List S61)) (w : World) (hr : Kd.C (Kd.slice 61 k61) w A0 n ls) (hl : ls.length < 1099511627776) (hs : rc_sum ls < 1099511627776) :
  Calls Tryd.prog 86 #[.slice A0 n c0] w fun e w' => ∃ v : Value, e = .returned v ∧ Kd.R k61 61 w' w.heap.size (fun _ => True) v ls.flatten ∧ Below w.heap.size w w' := by
 obtain rfl := hr.1
 exact rc_concat A0 c0 ls w hr hl hs
set_option maxHeartbeats 16000000 in
set_option maxRecDepth 100000 in
theorem impl_record.calls (k : Nat) (a0 : ByteArray) (A1 : Option Addr) (c1 : Nat) (l1 : List (List S61)) (r : List S61) (w : World) (tb : TabsU.Tabs0 w) (hr1 : Kd.C (Kd.slice 61 k61) w A1 l1.length l1) (hc1 : l1.length ≤ c1) (h : impl_record.f k a0 l1 = some r) :
  Calls Tryd.prog 51 #[.string a0, .slice A1 l1.length c1] w fun e w' => ∃ v0_ : Value, e = .returned v0_ ∧ Kd.R k61 61 w' w.heap.size (fun _ => True) v0_ r ∧ Below w.heap.size w w' := by
 unfold impl_record.f at h
 by_cases ok : rc_ok k l1
 rotate_left
 ·rw [if_neg ok] at h; cases h
 rw [if_pos ok] at h
 injection h with h
 subst h
 obtain ⟨ps, hpl, hP, hrel⟩ := rc_open hr1
 rw [← hpl] at hP
 have hw : wrap64 (l1.length : Int) = l1.length := by have := ok.len; unfold wrap64; omega
 rw [← hpl]
 obtain ⟨L, hL⟩ : ∃ L, L = (rc_sorted k l1).flatten := ⟨_, rfl⟩
 have hsum : rc_sum (rc_sorted k l1) < 1099511627776 := by rw [rc_sum_perm (show (rc_sorted k l1).Perm l1 from List.mergeSort_perm _ _)]; exact ok.sum
 have hsl : (rc_sorted k l1).length < 1099511627776 := by unfold rc_sorted; rw [List.length_mergeSort]; exact ok.len
 have hLl : L.length < 1099511627776 := by rw [hL, rc_len]; exact hsum
 have OK := Aside0.mk ok
 have TB := Aside0.mk tb
 have HP := Aside0.mk hP
 have HREL := Aside0.mk hrel
 have HPL := Aside0.mk hpl
 have HSUM := Aside0.mk hsum
 have HSL := Aside0.mk hsl
 have HLL := Aside0.mk hLl
 have HL := Aside0.mk hL
 have HN := Aside0.mk (show ps.length < 1099511627776 by rw [hpl]; exact ok.len)
 have HB := Aside0.mk (Below.refl w.heap.size w)
 clear ok tb hP hrel hsum hsl hLl hL hr1 hc1 hw
 rw [← HL.out]
 clear hpl
 go_enter Tryd.func51, Tryd.ntmps51
 go_wp2_with (first | ((with_reducible refine gate_callee (f := 82) rfl ?_); refine goesL_ (some 8) rfl rfl Tryd.func82 (by kernel_rfl) rfl #[.slice A1 ps.length c1] rfl (by (try simp only [List.map_toArray, List.map_cons, List.map_nil]); first | done | rfl) ?_; (refine (rc_clone A1 c1 ps _ (Kd.C_below HP.out HB.out) HN.out).mono ?_); rintro e w3 ⟨v3, rfl, ho, hb⟩; refine ⟨_, rfl, ?_⟩; have HO5 := Aside0.mk (Kd.R_lower ho (below_size HB.out)); have m0_ := Aside0.mk (below_step HB.out hb); clear ho hb HB; have HB := m0_; clear m0_; (obtain ⟨A5, c5, rfl⟩ := Kd.R_slice HO5.out)) | ((with_reducible refine gate_callee (f := 83) rfl ?_); refine goesL_ (some 10) rfl rfl Tryd.func83 (by kernel_rfl) rfl #[.slice A5 ps.length c5, .func (.func 84) #[] #[]] rfl (by (try simp only [List.map_toArray, List.map_cons, List.map_nil]); first | done | rfl) ?_; (refine (rc_sort2 k ps l1 w _ A5 c5 HB.out HPL.out HREL.out TB.out (by (with_reducible repeat (first | apply Kd.R_alloc | apply Kd.R_drewN | apply Kd.R_drew)); exact HO5.out) OK.out).mono ?_); rintro e w4 ⟨rfl, hc, hb⟩; refine ⟨_, rfl, ?_⟩; have HS := Aside0.mk hc; have m0_ := Aside0.mk hb; clear hc hb HB HO5; have HB := m0_; clear m0_) | ((with_reducible refine gate_dst (N := 15) rfl ?_); (try (refine gate_guard (by rfl) ?_; dsimp only)); refine Kd.R_lit k61 _ 61 ?hg (N := 15) ?hd (xs := [(⟨a0, 7, 0, ⟨#[]⟩, (ps.length : Int)⟩ : S61)]) (inner := [.string a0, .int .i64 7, .int .i64 0, .string ⟨#[]⟩, .int .i64 (ps.length : Int)]) (ok := fun _ => True) (okp := fun _ => True) ?hr ?hp (fun _ hk => hk) trivial (Below.refl _ _) (Nat.le_refl _) (by simp) ?_; (case hd => rfl); (case hg => rfl); (case hr => first | (go_simp; done) | (go_simp; rfl)); (case hp => exact (Reps.snoc (Reps.none _ _) (k61_mkM _ _ _ (⟨a0, 7, 0, ⟨#[]⟩, (ps.length : Int)⟩ : S61)) rfl)); intro v6 w6 ho hb hg_ hnew_; clear hg_ hnew_; have HO := Aside0.mk (Kd.R_lower ho (below_size (by repeat (first | exact HB.out | apply pw_below_drewN | apply below_drew1 | apply below_alloc)))); have n1_ := Aside0.mk (below_step (by repeat (first | exact HB.out | apply pw_below_drewN | apply below_drew1 | apply below_alloc)) hb); have n2_ := Aside0.mk (Kd.C_below HS.out hb); clear HB ho hb HS; have HB := n1_; have HS := n2_; clear n1_ n2_) | ((with_reducible refine gate_callee (f := 86) rfl ?_); refine goesL_ (some 18) rfl rfl Tryd.func86 (by kernel_rfl) rfl #[.slice A5 ps.length c5] rfl (by (try simp only [List.map_toArray, List.map_cons, List.map_nil]); first | done | rfl) ?_; (refine (rc_concat2 A5 ps.length c5 (rc_sorted k l1) _ (Kd.C_below HS.out (Below.refl _ _)) HSL.out HSUM.out).mono ?_); rintro e w7 ⟨v7, rfl, ho, hb⟩; refine ⟨_, rfl, ?_⟩; rw [← HL.out] at ho; (obtain ⟨A7, c7, rfl⟩ := Kd.R_slice ho); have HC := Aside0.mk (Kd.R_reads' ho).2.2; have m0_ := Aside0.mk (below_step HB.out hb); have m1_ := Aside0.mk (Kd.R_below HO.out hb); clear ho hb HB HO HS; have HB := m0_; have HO := m1_; clear m0_ m1_) | ((with_reducible refine gate_builtin (b := .append) (xs := #[.tmp 16, .tmp 18]) rfl ?_); at_builtin; refine Kd.R_append_rows k61 (w0 := w) w.heap.size rfl (.tmp 16) (.tmp 18) 22 61 _ 56 rfl Tryd.underlying22 info61 rfl (by decide) (by omega) v6 [(⟨a0, 7, 0, ⟨#[]⟩, (ps.length : Int)⟩ : S61)] L _ _ _ (fun _ => True) (fun _ => False) rfl rfl ?aO ?aR (fun _ _ h => h) (fun _ h => h.elim) ?aF ?aB ?aS ?aL ?_; (case aR => exact HC.out); (case aB => exact HB.out); (case aF => exact (fun _ _ => trivial)); (case aO => exact HO.out); (case aS => exact (below_size HB.out)); (case aL => have := HLL.out; simp only [List.length_singleton]; omega); intro v2 w2 ho hb hg hat; have n0_ := Aside0.mk hb; have n1_ := Aside0.mk ho; clear HB HO ho hb hg hat HC; have HB := n0_; have HO := n1_; clear n0_ n1_))
 go_ret
 exact ⟨_, rfl, HO.out, HB.out⟩

end
end Go.Proofs.YtkfbdopfeacnfaaDoor.PFnFields
