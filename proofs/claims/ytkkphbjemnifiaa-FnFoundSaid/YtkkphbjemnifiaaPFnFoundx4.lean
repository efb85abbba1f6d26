-- Printed for this claim by a changed copy of the kit's printing program (wip/tools/patch_print.py); Lean checks it.
import Derived.Test.YtkkphbjemnifiaaPFnFoundx0
import Derived.Test.YtkkphbjemnifiaaPFnFoundx3
namespace Go.Proofs.Ytkkphbjemnifiaa.PFnFound
open Go.RowKit Go.Proofs.YtkkphbjemnifiaaW.PrintWords Go.Proofs.YtkkphbjemnifiaaW.PrintLast Go.Proofs.YtkkphbjemnifiaaW.PrintMore
attribute [local go_sem] max2_int min2_int max_two min_two max_three min_three max_four min_four   -- for this text's walks alone
set_option linter.unusedVariables false
set_option linter.unusedSimpArgs false

noncomputable section
/-! ### impl_firstUnlike: function 75 -/
def impl_firstUnlike.l0 : Nat → ByteArray → ByteArray → Int → Option (Int)
 | 0, _, _, _ => none
 | k + 1, x0, x1, x5 => (impl_bitOf.f x0 x5).bind fun t119 => ((impl_bitOf.f x1 x5).bind fun t120 => (if t119 = t120 then (impl_firstUnlike.l0 k x0 x1 (wrap64 (x5 + 1))) else (some x5)))
def impl_firstUnlike.f (k : Nat) (a0 : ByteArray) (a1 : ByteArray) : Option (Int) := impl_firstUnlike.l0 k a0 a1 0
theorem impl_firstUnlike.mono_l : ∀ k, (∀ y0 y1 y2, LeO (impl_firstUnlike.l0 k y0 y1 y2) (impl_firstUnlike.l0 (k + 1) y0 y1 y2))
 | 0 => fun _ _ _ r h => by simp [impl_firstUnlike.l0] at h
 | k + 1 => by
  have ih0 := impl_firstUnlike.mono_l k
  ·intro y0 y1 y2
   unfold impl_firstUnlike.l0
   repeat' first
   | (with_reducible exact ih0 _ _ _)
   | (with_reducible exact LeO.refl _)
   | (with_reducible exact LeO.none _)
   | (with_reducible refine LeO.ite ?_ ?_)
   | (with_reducible refine LeO.bind ?_ (fun _ => ?_))
   | exact LeO.none _
   | refine LeO.ite ?_ ?_
   | refine LeO.bind ?_ (fun _ => ?_)
theorem impl_firstUnlike.mono : ∀ a0 a1 k, LeO (impl_firstUnlike.f k a0 a1) (impl_firstUnlike.f (k + 1) a0 a1) := by
 intro a0 a1 k
 have ih0 := impl_firstUnlike.mono_l k
 unfold impl_firstUnlike.f
 repeat' first
   | (with_reducible exact ih0 _ _ _)
   | (with_reducible exact LeO.refl _)
   | (with_reducible exact LeO.none _)
   | (with_reducible refine LeO.ite ?_ ?_)
   | (with_reducible refine LeO.bind ?_ (fun _ => ?_))
   | exact LeO.none _
   | refine LeO.ite ?_ ?_
   | refine LeO.bind ?_ (fun _ => ?_)
set_option maxHeartbeats 8000000 in
set_option maxRecDepth 100000 in
theorem impl_firstUnlike.calls (k : Nat) (a0 : ByteArray) (a1 : ByteArray) (r : Int) (w : World) (h : impl_firstUnlike.f k a0 a1 = some r) :
  Calls Try.prog 75 #[.string a0, .string a1] w fun e w' => e = .returned (.int .i64 r) ∧ Drawn0 w w' := by
 have H : (impl_firstUnlike.l0 k a0 a1 0) = some r := h
 clear h
 have H' := Aside0.mk H
 clear H
 go_enter Try.func75, Try.ntmps75
 go_wp2
 go_loopg [5] k (fun kq v5 w' => ∃ (x5_1 : Int), v5 = .int .i64 x5_1 ∧ Aside0 (impl_firstUnlike.l0 kq a0 a1 x5_1 = some r) ∧ Aside0 (kq ≤ k) ∧ Drawn0 w w')
 case atStart => exact ⟨(0), rfl, H', ⟨Nat.le_refl _⟩, by repeat (first | exact Drawn0.refl _ | apply Drawn0.step)⟩
 case round =>
  clear H'
  try clear p2
  obtain ⟨x5_1, rfl, HA, HK1, ⟨m1, rfl⟩⟩ := hrel
  cases gk with
  | zero => exact absurd HA.out (by simp [impl_firstUnlike.l0])
  | succ k1 =>
   have H := HA.out
   clear HA
   simp only [impl_firstUnlike.l0] at H
   replace H := Option.bind_eq_some_iff.mp H
   obtain ⟨t119, A30, H⟩ := H
   replace H : ((impl_bitOf.f a1 x5_1).bind fun t120 => (if t119 = t120 then (impl_firstUnlike.l0 k1 a0 a1 (wrap64 (x5_1 + 1))) else (some x5_1))) = some r := H
   have A3 := Aside0.mk A30
   clear A30
   replace H := Option.bind_eq_some_iff.mp H
   obtain ⟨t120, A40, H⟩ := H
   replace H : (if t119 = t120 then (impl_firstUnlike.l0 k1 a0 a1 (wrap64 (x5_1 + 1))) else (some x5_1)) = some r := H
   have A4 := Aside0.mk A40
   clear A40
   by_cases c5 : t119 = t120
   ·rw [if_pos c5] at H
    have c5b0 : (t119 == t120) = true := beq_iff_eq.mpr c5
    have c5b1 : (t119 != t120) = false := bne_eq_false_iff_eq.mpr c5
    clear c5
    have H' := Aside0.mk H
    clear H
    go_wp2_with (first | ((with_reducible refine gate_callee (f := 62) rfl ?_); refine goesL_ (some 8) rfl rfl Try.func62 (by kernel_rfl) rfl #[.string a0, .int .i64 x5_1] rfl (by simp only [List.map_toArray, List.map_cons, List.map_nil] <;> rfl) ?_; (with_reducible refine (impl_bitOf.calls a0 x5_1 t119 _ A3.out).mono ?_); rintro e w' ⟨rfl, ⟨nd, rfl⟩⟩; refine ⟨_, rfl, ?_⟩) | ((with_reducible refine gate_callee (f := 62) rfl ?_); refine goesL_ (some 11) rfl rfl Try.func62 (by kernel_rfl) rfl #[.string a1, .int .i64 x5_1] rfl (by simp only [List.map_toArray, List.map_cons, List.map_nil] <;> rfl) ?_; (with_reducible refine (impl_bitOf.calls a1 x5_1 t120 _ A4.out).mono ?_); rintro e w' ⟨rfl, ⟨nd, rfl⟩⟩; refine ⟨_, rfl, ?_⟩))
    go_roundg k1
    case measure => have := HK1.out; omega
    case rel => exact ⟨(wrap64 (x5_1 + 1)), rfl, H', ⟨by have := HK1.out; omega⟩, by repeat (first | exact Drawn0.refl _ | apply Drawn0.step)⟩
   ·rw [if_neg c5] at H
    have c5b0 : (t119 == t120) = false := beq_eq_false_iff_ne.mpr c5
    have c5b1 : (t119 != t120) = true := bne_iff_ne.mpr c5
    obtain rfl := Option.some.inj H
    go_wp2_with (first | ((with_reducible refine gate_callee (f := 62) rfl ?_); refine goesL_ (some 8) rfl rfl Try.func62 (by kernel_rfl) rfl #[.string a0, .int .i64 x5_1] rfl (by simp only [List.map_toArray, List.map_cons, List.map_nil] <;> rfl) ?_; (with_reducible refine (impl_bitOf.calls a0 x5_1 t119 _ A3.out).mono ?_); rintro e w' ⟨rfl, ⟨nd, rfl⟩⟩; refine ⟨_, rfl, ?_⟩) | ((with_reducible refine gate_callee (f := 62) rfl ?_); refine goesL_ (some 11) rfl rfl Try.func62 (by kernel_rfl) rfl #[.string a1, .int .i64 x5_1] rfl (by simp only [List.map_toArray, List.map_cons, List.map_nil] <;> rfl) ?_; (with_reducible refine (impl_bitOf.calls a1 x5_1 t120 _ A4.out).mono ?_); rintro e w' ⟨rfl, ⟨nd, rfl⟩⟩; refine ⟨_, rfl, ?_⟩))
    go_ret
    exact ⟨by first | rfl | (simp; done) | (simp [*]; done), by repeat (first | exact Drawn0.refl _ | apply Drawn0.step)⟩
/-! ### impl_Pair_89: function 89 -/
def impl_Pair_89.f (l0 : List (S51)) : Option (List (S51)) := if l0.length < 1000000000000 then some l0 else none
set_option maxHeartbeats 8000000 in
set_option maxRecDepth 100000 in
theorem impl_Pair_89.calls (A0 : Option Addr) (c0 : Nat) (l0 : List (S51)) (r : List (S51)) (w : World) (hr0 : Kd.C k51 w A0 l0.length l0) (hc0 : l0.length ≤ c0) (h : impl_Pair_89.f l0 = some r) :
  Calls Try.prog 89 #[.slice A0 l0.length c0] w fun e w' => ∃ v0_ : Value, e = .returned (v0_) ∧ Kd.R k51 51 w' w.heap.size (fun _ => True) v0_ r ∧ Below w.heap.size w w' := by
 have q70 : ∀ (w : World) (a : Option Addr) (n c n' c' : Nat), (binOp .eql 33 (.slice a n c) (.slice none n' c')).run Try.prog w = .ok (.bool a.isNone) w := fun w a n c n' c' => Lib.run_eql_slice_nil w _ _ a n c n' c' Try.underlying33
 unfold impl_Pair_89.f at h
 by_cases hl : l0.length < 1000000000000
 ·rw [if_pos hl] at h
  obtain rfl := Option.some.inj h
  have HR0 := Aside0.mk hr0
  have HL := Aside0.mk hl
  have HB := Aside0.mk (Below.refl w.heap.size w)
  clear hl h hc0
  cases A0 with
  | none =>
   have hz : l0.length = 0 := by
    rcases Nat.eq_zero_or_pos l0.length with h | h
    ·exact h
    ·obtain ⟨ad, e, _⟩ := hr0.2.2 h
     cases e
   obtain rfl : l0 = [] := List.eq_nil_of_length_eq_zero hz
   clear hz hr0
   go_enter Try.func89, Try.ntmps89
   go_wp2
   go_ret
   exact ⟨_, rfl, Kd.R_nil _ _ _ _ _, HB.out⟩
  | some ad =>
   clear hr0
   go_enter Try.func89, Try.ntmps89
   go_wp2_with (first | ((with_reducible refine gate_dst (N := 5) rfl ?_); (try (refine gate_guard (by rfl) ?_; dsimp only)); refine Kd.R_lit k51 _ 51 ?hg (N := 5) ?hd (xs := ([] : List (S51))) (inner := []) (ok := fun _ => True) (okp := fun _ => True) ?hr ?hp (fun _ hk => hk) trivial (Below.refl _ _) (Nat.le_refl _) (by simp) ?_; (case hd => rfl); (case hg => rfl); (case hr => go_simp); (case hp => exact (Reps.none _ _)); intro v1 w1 ho hb hg_ hnew_; clear hg_ hnew_; have n0_ := Aside0.mk (Kd.R_lower ho (below_size HB.out)); have n1_ := Aside0.mk (below_step HB.out hb); clear HB ho hb; have HO := n0_; have HB := n1_; clear n0_ n1_) | ((with_reducible refine gate_builtin (b := .append) (xs := #[.tmp 5, .tmp 6]) rfl ?_); (try (refine gate_guard (by rfl) ?_; dsimp only)); at_builtin; refine Kd.R_append_rows k51 (w0 := w) w.heap.size rfl (.tmp 5) (.tmp 6) 33 51 (.agg #[(.string ⟨#[]⟩), (.int .i64 0)]) 24 rfl Try.underlying33 info51 rfl (by decide) (by omega) v1 [] l0 _ _ _ (fun _ => True) (fun _ => False) rfl rfl ?aO ?aR (fun _ _ h => h) (fun _ h => h.elim) ?aF ?aB ?aS ?aL ?_; (case aR => exact Kd.C_below HR0.out HB.out); (case aB => exact HB.out); (case aF => exact (fun _ _ => trivial)); (case aO => exact HO.out); (case aS => exact (below_size HB.out)); (case aL => have := HL.out; simp; omega); intro v2 w2 ho hb hg hat; have n0_ := Aside0.mk hb; have n1_ := Aside0.mk ho; clear HB HO ho hb hg hat; have HB := n0_; have HO := n1_; clear n0_ n1_))
   go_ret
   exact ⟨_, rfl, by simpa using HO.out, HB.out⟩
 ·rw [if_neg hl] at h
  cases h
/-! ### cmp_Or_int: function 101 -/
def cmp_Or_int.l0 : Nat → Int → List Int → Int → Int → Option (Int)
 | 0, _, _, _, _ => none
 | k + 1, x3, x6, x7, x8 => if x8 < x7 then (if 0 ≤ x8 then (if x8 < (x6.length : Int) then (if (rd x6 x8) = x3 then (cmp_Or_int.l0 k x3 x6 x7 (wrap64 (x8 + 1))) else (some (rd x6 x8))) else (none)) else (none)) else (some x3)
def cmp_Or_int.f (k : Nat) (l0 : List Int) : Option (Int) := cmp_Or_int.l0 k 0 l0 (l0.length : Int) 0
theorem cmp_Or_int.mono_l : ∀ k, (∀ y0 y1 y2 y3, LeO (cmp_Or_int.l0 k y0 y1 y2 y3) (cmp_Or_int.l0 (k + 1) y0 y1 y2 y3))
 | 0 => fun _ _ _ _ r h => by simp [cmp_Or_int.l0] at h
 | k + 1 => by
  have ih0 := cmp_Or_int.mono_l k
  ·intro y0 y1 y2 y3
   unfold cmp_Or_int.l0
   repeat' first
   | (with_reducible exact ih0 _ _ _ _)
   | (with_reducible exact LeO.refl _)
   | (with_reducible exact LeO.none _)
   | (with_reducible refine LeO.ite ?_ ?_)
   | (with_reducible refine LeO.bind ?_ (fun _ => ?_))
   | exact LeO.none _
   | refine LeO.ite ?_ ?_
   | refine LeO.bind ?_ (fun _ => ?_)
theorem cmp_Or_int.mono : ∀ a0 k, LeO (cmp_Or_int.f k a0) (cmp_Or_int.f (k + 1) a0) := by
 intro a0 k
 have ih0 := cmp_Or_int.mono_l k
 unfold cmp_Or_int.f
 repeat' first
   | (with_reducible exact ih0 _ _ _ _)
   | (with_reducible exact LeO.refl _)
   | (with_reducible exact LeO.none _)
   | (with_reducible refine LeO.ite ?_ ?_)
   | (with_reducible refine LeO.bind ?_ (fun _ => ?_))
   | exact LeO.none _
   | refine LeO.ite ?_ ?_
   | refine LeO.bind ?_ (fun _ => ?_)
set_option maxHeartbeats 8000000 in
set_option maxRecDepth 100000 in
theorem cmp_Or_int.calls (k : Nat) (A0 : Option Addr) (c0 : Nat) (l0 : List Int) (r : Int) (w : World) (hr0 : Kd.C (Kd.int .i64) w A0 l0.length l0) (hc0 : l0.length ≤ c0) (h : cmp_Or_int.f k l0 = some r) :
  Calls Try.prog 101 #[.slice A0 l0.length c0] w fun e w' => e = .returned (.int .i64 r) ∧ Drawn0 w w' := by
 have HR0 := Aside0.mk hr0
 have HC0 := Aside0.mk hc0
 clear hr0 hc0
 have H : (cmp_Or_int.l0 k 0 l0 (l0.length : Int) 0) = some r := h
 clear h
 have H' := Aside0.mk H
 clear H
 go_enter Try.func101, Try.ntmps101
 go_wp2
 go_loopg [8] k (fun kq v8 w' => ∃ (x8_1 : Int), v8 = .int .i64 x8_1 ∧ Aside0 (cmp_Or_int.l0 kq 0 l0 (l0.length : Int) x8_1 = some r) ∧ Aside0 (kq ≤ k) ∧ Drawn0 w w')
 case atStart => exact ⟨(0), rfl, H', ⟨Nat.le_refl _⟩, by repeat (first | exact Drawn0.refl _ | apply Drawn0.step)⟩
 case round =>
  clear H'
  try clear c1
  obtain ⟨x8_1, rfl, HA, HK1, ⟨m1, rfl⟩⟩ := hrel
  cases gk with
  | zero => exact absurd HA.out (by simp [cmp_Or_int.l0])
  | succ k1 =>
   have H := HA.out
   clear HA
   simp only [cmp_Or_int.l0] at H
   by_cases c2 : x8_1 < (l0.length : Int)
   ·rw [if_pos c2] at H
    have c2b0 : decide (x8_1 < (l0.length : Int)) = true := decide_eq_true c2
    clear c2
    by_cases c3 : 0 ≤ x8_1
    ·rw [if_pos c3] at H
     have c3b0 : decide (0 ≤ x8_1) = true := decide_eq_true c3
     clear c3
     by_cases c4 : x8_1 < (l0.length : Int)
     ·rw [if_pos c4] at H
      have c4b0 : decide (x8_1 < (l0.length : Int)) = true := decide_eq_true c4
      clear c4
      by_cases c5 : (rd l0 x8_1) = 0
      ·rw [if_pos c5] at H
       have c5b0 : ((rd l0 x8_1) == 0) = true := beq_iff_eq.mpr c5
       have c5b1 : ((rd l0 x8_1) != 0) = false := bne_eq_false_iff_eq.mpr c5
       clear c5
       have H' := Aside0.mk H
       clear H
       have p121 : 0 ≤ (x8_1 : Int) := of_decide_eq_true (by assumption)
       have q121 : x8_1 < (l0.length : Int) := of_decide_eq_true (by assumption)
       obtain ⟨ad121, e121, hx121_0⟩ := Kd.at_int HR0.out x8_1 p121 q121
       cases e121
       replace p121 := eq_true p121
       replace q121 := eq_true q121
       go_wp2
       go_roundg k1
       case measure => have := HK1.out; omega
       case rel => exact ⟨(wrap64 (x8_1 + 1)), rfl, H', ⟨by have := HK1.out; omega⟩, by repeat (first | exact Drawn0.refl _ | apply Drawn0.step)⟩
      ·rw [if_neg c5] at H
       have c5b0 : ((rd l0 x8_1) == 0) = false := beq_eq_false_iff_ne.mpr c5
       have c5b1 : ((rd l0 x8_1) != 0) = true := bne_iff_ne.mpr c5
       obtain rfl := Option.some.inj H
       have p121 : 0 ≤ (x8_1 : Int) := of_decide_eq_true (by assumption)
       have q121 : x8_1 < (l0.length : Int) := of_decide_eq_true (by assumption)
       obtain ⟨ad121, e121, hx121_0⟩ := Kd.at_int HR0.out x8_1 p121 q121
       cases e121
       replace p121 := eq_true p121
       replace q121 := eq_true q121
       go_wp2
       go_ret
       exact ⟨by first | rfl | (simp; done) | (simp [*]; done), by repeat (first | exact Drawn0.refl _ | apply Drawn0.step)⟩
     ·rw [if_neg c4] at H
      exact absurd H (by simp)
    ·rw [if_neg c3] at H
     exact absurd H (by simp)
   ·rw [if_neg c2] at H
    have c2b0 : decide (x8_1 < (l0.length : Int)) = false := decide_eq_false c2
    clear c2
    obtain rfl := Option.some.inj H
    go_wp2
    go_ret
    exact ⟨by first | rfl | (simp; done) | (simp [*]; done), by repeat (first | exact Drawn0.refl _ | apply Drawn0.step)⟩
/-! ### cmp_isNaN_int: function 127 -/
def cmp_isNaN_int.f (a0 : Int) : Option (Bool) := some (a0 != a0)
set_option maxHeartbeats 8000000 in
set_option maxRecDepth 100000 in
theorem cmp_isNaN_int.calls (a0 : Int) (r : Bool) (w : World) (h : cmp_isNaN_int.f a0 = some r) :
  Calls Try.prog 127 #[.int .i64 a0] w fun e w' => e = .returned (.bool r) ∧ Drawn0 w w' := by
 have H : (some (a0 != a0)) = some r := h
 clear h
 obtain rfl := Option.some.inj H
 go_enter Try.func127, Try.ntmps127
 go_wp2
 go_ret
 exact ⟨by first | rfl | (simp; done) | (simp [*]; done), by repeat (first | exact Drawn0.refl _ | apply Drawn0.step)⟩
/-! ### cmp_Compare_int: function 103 -/
def cmp_Compare_int.f (a0 : Int) (a1 : Int) : Option (Int) := (cmp_isNaN_int.f a0).bind fun t122 => ((cmp_isNaN_int.f a1).bind fun t123 => (if t122 = true then (if t123 = true then (some 0) else (some (-1))) else (if t123 = true then (some 1) else (if a0 < a1 then (some (-1)) else (if a0 > a1 then (some 1) else (some 0))))))
set_option maxHeartbeats 8000000 in
set_option maxRecDepth 100000 in
theorem cmp_Compare_int.calls (a0 : Int) (a1 : Int) (r : Int) (w : World) (h : cmp_Compare_int.f a0 a1 = some r) :
  Calls Try.prog 103 #[.int .i64 a0, .int .i64 a1] w fun e w' => e = .returned (.int .i64 r) ∧ Drawn0 w w' := by
 have H : ((cmp_isNaN_int.f a0).bind fun t122 => ((cmp_isNaN_int.f a1).bind fun t123 => (if t122 = true then (if t123 = true then (some 0) else (some (-1))) else (if t123 = true then (some 1) else (if a0 < a1 then (some (-1)) else (if a0 > a1 then (some 1) else (some 0))))))) = some r := h
 clear h
 replace H := Option.bind_eq_some_iff.mp H
 obtain ⟨t122, A30, H⟩ := H
 replace H : ((cmp_isNaN_int.f a1).bind fun t123 => (if t122 = true then (if t123 = true then (some 0) else (some (-1))) else (if t123 = true then (some 1) else (if a0 < a1 then (some (-1)) else (if a0 > a1 then (some 1) else (some 0)))))) = some r := H
 have A3 := Aside0.mk A30
 clear A30
 replace H := Option.bind_eq_some_iff.mp H
 obtain ⟨t123, A40, H⟩ := H
 replace H : (if t122 = true then (if t123 = true then (some 0) else (some (-1))) else (if t123 = true then (some 1) else (if a0 < a1 then (some (-1)) else (if a0 > a1 then (some 1) else (some 0))))) = some r := H
 have A4 := Aside0.mk A40
 clear A40
 by_cases c5 : t122 = true
 ·subst c5
  have H1 : (if t123 = true then (some 0) else (some (-1))) = some r := by rw [if_pos rfl] at H; exact H
  clear H
  have H := H1
  clear H1
  by_cases c6 : t123 = true
  ·subst c6
   have H1 : (some 0) = some r := by rw [if_pos rfl] at H; exact H
   clear H
   have H := H1
   clear H1
   obtain rfl := Option.some.inj H
   go_enter Try.func103, Try.ntmps103
   go_wp2_with (first | ((with_reducible refine gate_callee (f := 127) rfl ?_); refine goesL_ (some 8) rfl rfl Try.func127 (by kernel_rfl) rfl #[.int .i64 a0] rfl (by simp only [List.map_toArray, List.map_cons, List.map_nil] <;> rfl) ?_; (with_reducible refine (cmp_isNaN_int.calls a0 true _ A3.out).mono ?_); rintro e w' ⟨rfl, ⟨nd, rfl⟩⟩; refine ⟨_, rfl, ?_⟩) | ((with_reducible refine gate_callee (f := 127) rfl ?_); refine goesL_ (some 10) rfl rfl Try.func127 (by kernel_rfl) rfl #[.int .i64 a1] rfl (by simp only [List.map_toArray, List.map_cons, List.map_nil] <;> rfl) ?_; (with_reducible refine (cmp_isNaN_int.calls a1 true _ A4.out).mono ?_); rintro e w' ⟨rfl, ⟨nd, rfl⟩⟩; refine ⟨_, rfl, ?_⟩))
   go_ret
   exact ⟨by first | rfl | (simp; done) | (simp [*]; done), by repeat (first | exact Drawn0.refl _ | apply Drawn0.step)⟩
  ·replace c6 := Bool.eq_false_iff.mpr c6
   subst c6
   have H1 : (some (-1)) = some r := by rw [if_neg (show ¬ (false = true) by decide)] at H; exact H
   clear H
   have H := H1
   clear H1
   obtain rfl := Option.some.inj H
   go_enter Try.func103, Try.ntmps103
   go_wp2_with (first | ((with_reducible refine gate_callee (f := 127) rfl ?_); refine goesL_ (some 8) rfl rfl Try.func127 (by kernel_rfl) rfl #[.int .i64 a0] rfl (by simp only [List.map_toArray, List.map_cons, List.map_nil] <;> rfl) ?_; (with_reducible refine (cmp_isNaN_int.calls a0 true _ A3.out).mono ?_); rintro e w' ⟨rfl, ⟨nd, rfl⟩⟩; refine ⟨_, rfl, ?_⟩) | ((with_reducible refine gate_callee (f := 127) rfl ?_); refine goesL_ (some 10) rfl rfl Try.func127 (by kernel_rfl) rfl #[.int .i64 a1] rfl (by simp only [List.map_toArray, List.map_cons, List.map_nil] <;> rfl) ?_; (with_reducible refine (cmp_isNaN_int.calls a1 false _ A4.out).mono ?_); rintro e w' ⟨rfl, ⟨nd, rfl⟩⟩; refine ⟨_, rfl, ?_⟩))
   go_ret
   exact ⟨by first | rfl | (simp; done) | (simp [*]; done), by repeat (first | exact Drawn0.refl _ | apply Drawn0.step)⟩
 ·replace c5 := Bool.eq_false_iff.mpr c5
  subst c5
  have H1 : (if t123 = true then (some 1) else (if a0 < a1 then (some (-1)) else (if a0 > a1 then (some 1) else (some 0)))) = some r := by rw [if_neg (show ¬ (false = true) by decide)] at H; exact H
  clear H
  have H := H1
  clear H1
  by_cases c7 : t123 = true
  ·subst c7
   have H1 : (some 1) = some r := by rw [if_pos rfl] at H; exact H
   clear H
   have H := H1
   clear H1
   obtain rfl := Option.some.inj H
   go_enter Try.func103, Try.ntmps103
   go_wp2_with (first | ((with_reducible refine gate_callee (f := 127) rfl ?_); refine goesL_ (some 8) rfl rfl Try.func127 (by kernel_rfl) rfl #[.int .i64 a0] rfl (by simp only [List.map_toArray, List.map_cons, List.map_nil] <;> rfl) ?_; (with_reducible refine (cmp_isNaN_int.calls a0 false _ A3.out).mono ?_); rintro e w' ⟨rfl, ⟨nd, rfl⟩⟩; refine ⟨_, rfl, ?_⟩) | ((with_reducible refine gate_callee (f := 127) rfl ?_); refine goesL_ (some 10) rfl rfl Try.func127 (by kernel_rfl) rfl #[.int .i64 a1] rfl (by simp only [List.map_toArray, List.map_cons, List.map_nil] <;> rfl) ?_; (with_reducible refine (cmp_isNaN_int.calls a1 true _ A4.out).mono ?_); rintro e w' ⟨rfl, ⟨nd, rfl⟩⟩; refine ⟨_, rfl, ?_⟩))
   go_ret
   exact ⟨by first | rfl | (simp; done) | (simp [*]; done), by repeat (first | exact Drawn0.refl _ | apply Drawn0.step)⟩
  ·replace c7 := Bool.eq_false_iff.mpr c7
   subst c7
   have H1 : (if a0 < a1 then (some (-1)) else (if a0 > a1 then (some 1) else (some 0))) = some r := by rw [if_neg (show ¬ (false = true) by decide)] at H; exact H
   clear H
   have H := H1
   clear H1
   by_cases c8 : a0 < a1
   ·rw [if_pos c8] at H
    have c8b0 : decide (a0 < a1) = true := decide_eq_true c8
    clear c8
    obtain rfl := Option.some.inj H
    go_enter Try.func103, Try.ntmps103
    go_wp2_with (first | ((with_reducible refine gate_callee (f := 127) rfl ?_); refine goesL_ (some 8) rfl rfl Try.func127 (by kernel_rfl) rfl #[.int .i64 a0] rfl (by simp only [List.map_toArray, List.map_cons, List.map_nil] <;> rfl) ?_; (with_reducible refine (cmp_isNaN_int.calls a0 false _ A3.out).mono ?_); rintro e w' ⟨rfl, ⟨nd, rfl⟩⟩; refine ⟨_, rfl, ?_⟩) | ((with_reducible refine gate_callee (f := 127) rfl ?_); refine goesL_ (some 10) rfl rfl Try.func127 (by kernel_rfl) rfl #[.int .i64 a1] rfl (by simp only [List.map_toArray, List.map_cons, List.map_nil] <;> rfl) ?_; (with_reducible refine (cmp_isNaN_int.calls a1 false _ A4.out).mono ?_); rintro e w' ⟨rfl, ⟨nd, rfl⟩⟩; refine ⟨_, rfl, ?_⟩))
    go_ret
    exact ⟨by first | rfl | (simp; done) | (simp [*]; done), by repeat (first | exact Drawn0.refl _ | apply Drawn0.step)⟩
   ·rw [if_neg c8] at H
    have c8b0 : decide (a0 < a1) = false := decide_eq_false c8
    clear c8
    by_cases c9 : a0 > a1
    ·rw [if_pos c9] at H
     have c9b0 : decide (a1 < a0) = true := decide_eq_true c9
     clear c9
     obtain rfl := Option.some.inj H
     go_enter Try.func103, Try.ntmps103
     go_wp2_with (first | ((with_reducible refine gate_callee (f := 127) rfl ?_); refine goesL_ (some 8) rfl rfl Try.func127 (by kernel_rfl) rfl #[.int .i64 a0] rfl (by simp only [List.map_toArray, List.map_cons, List.map_nil] <;> rfl) ?_; (with_reducible refine (cmp_isNaN_int.calls a0 false _ A3.out).mono ?_); rintro e w' ⟨rfl, ⟨nd, rfl⟩⟩; refine ⟨_, rfl, ?_⟩) | ((with_reducible refine gate_callee (f := 127) rfl ?_); refine goesL_ (some 10) rfl rfl Try.func127 (by kernel_rfl) rfl #[.int .i64 a1] rfl (by simp only [List.map_toArray, List.map_cons, List.map_nil] <;> rfl) ?_; (with_reducible refine (cmp_isNaN_int.calls a1 false _ A4.out).mono ?_); rintro e w' ⟨rfl, ⟨nd, rfl⟩⟩; refine ⟨_, rfl, ?_⟩))
     go_ret
     exact ⟨by first | rfl | (simp; done) | (simp [*]; done), by repeat (first | exact Drawn0.refl _ | apply Drawn0.step)⟩
    ·rw [if_neg c9] at H
     have c9b0 : decide (a1 < a0) = false := decide_eq_false c9
     clear c9
     obtain rfl := Option.some.inj H
     go_enter Try.func103, Try.ntmps103
     go_wp2_with (first | ((with_reducible refine gate_callee (f := 127) rfl ?_); refine goesL_ (some 8) rfl rfl Try.func127 (by kernel_rfl) rfl #[.int .i64 a0] rfl (by simp only [List.map_toArray, List.map_cons, List.map_nil] <;> rfl) ?_; (with_reducible refine (cmp_isNaN_int.calls a0 false _ A3.out).mono ?_); rintro e w' ⟨rfl, ⟨nd, rfl⟩⟩; refine ⟨_, rfl, ?_⟩) | ((with_reducible refine gate_callee (f := 127) rfl ?_); refine goesL_ (some 10) rfl rfl Try.func127 (by kernel_rfl) rfl #[.int .i64 a1] rfl (by simp only [List.map_toArray, List.map_cons, List.map_nil] <;> rfl) ?_; (with_reducible refine (cmp_isNaN_int.calls a1 false _ A4.out).mono ?_); rintro e w' ⟨rfl, ⟨nd, rfl⟩⟩; refine ⟨_, rfl, ?_⟩))
     go_ret
     exact ⟨by first | rfl | (simp; done) | (simp [*]; done), by repeat (first | exact Drawn0.refl _ | apply Drawn0.step)⟩
/-! ### impl_indexOf: function 58 -/
set_option maxHeartbeats 8000000 in
set_option maxRecDepth 100000 in
theorem gr_1.calls (x0 : ByteArray) (x1 : Int) (gb : Nat) (bit b : Int) (w : World) (hb : w.heap[gb]? = some (.cells #[.int .i64 bit] 3 (0, 0))) (h : impl_bitOf.f x0 bit = some b) :
  Calls Try.prog 105 #[.agg #[.string x0, .int .i64 x1], .pointer (some ⟨gb, 0, none⟩)] w fun e w' => e = .returned (.bool (b == 1)) ∧ Below w.heap.size w w' := by
 have hu51 := Try.underlying51
 have BB := Aside0.mk hb
 have HBI := Aside0.mk h
 have HB := Aside0.mk (Below.refl w.heap.size w)
 clear hb h
 go_enter Try.func105, Try.ntmps105
 go_wp2_with (first | ((with_reducible refine gate_dst (N := 2) rfl ?_); refine box_event ?hg (N := 2) ?hd (cs := #[.string x0, .int .i64 x1]) (t := 51) ?hr ?_; (case hd => rfl); (case hg => rfl); (case hr => go_simp); intro gx hg w1 hbox hb; have n0_ := Aside0.mk (below_step HB.out hb); have n1_ := Aside0.mk (blk_below BB.out hb); have n2_ := Aside0.mk (hbox); have n3_ := Aside0.mk ((by rw [hg]; exact below_size HB.out : w.heap.size ≤ gx)); (try clear HB); (try clear BB); (try clear BX); (try clear GE_gx); have HB := n0_; have BB := n1_; have BX := n2_; have GE_gx := n3_; clear n0_ n1_ n2_ n3_; clear hb hbox hg; have hc_BB_0 : w1.cell? ⟨gb, 0, none⟩ = some (.int .i64 bit) := (blk_cell BB.out 0).trans rfl; have hf_BB_0 := blk_frozen BB.out 0; have hc_BX_0 : w1.cell? ⟨gx, 0, none⟩ = some (.string x0) := (blk_cell BX.out 0).trans rfl; have hf_BX_0 := blk_frozen BX.out 0; have hc_BX_1 : w1.cell? ⟨gx, 1, none⟩ = some (.int .i64 x1) := (blk_cell BX.out 1).trans rfl; have hf_BX_1 := blk_frozen BX.out 1) | (go_at_call 62; refine (impl_bitOf.calls _ _ _ _ HBI.out).mono ?_; rintro e w' ⟨rfl, ⟨nd, rfl⟩⟩))
 go_ret
 exact ⟨rfl, (by repeat first | exact HB.out | apply q4_ | apply q5_ | apply q6_)⟩
def gr_ix (bit : Int) : List S51 → Int → Option Int
 | [], _ => some (-1)
 | x :: l, i => (impl_bitOf.f x.f0 bit).bind fun b => if b = 1 then some i else gr_ix bit l (i + 1)
theorem gr_ix.step (bit : Int) (l : List S51) (i : Int) (h0 : 0 ≤ i) (hi : i < (l.length : Int)) : gr_ix bit (l.drop i.toNat) i = (impl_bitOf.f (rd_T51 l i).f0 bit).bind fun b => if b = 1 then some i else gr_ix bit (l.drop (i + 1).toNat) (i + 1) := by
 rw [List.drop_eq_getElem_cons (show i.toNat < l.length by omega), gr_ix, show (i + 1).toNat = i.toNat + 1 by omega]
 have e : rd_T51 l i = l[i.toNat] := by simp [rd_T51, List.getD_eq_getElem?_getD, List.getElem?_eq_getElem (show i.toNat < l.length by omega)]
 rw [e]
set_option maxHeartbeats 8000000 in
set_option maxRecDepth 100000 in
theorem gr_ix.calls (A0 : Option Addr) (n0 c0 : Nat) (l : List S51) (gb : Nat) (bit r : Int) (w : World) (hr0 : Kd.C k51 w A0 n0 l) (hb : w.heap[gb]? = some (.cells #[.int .i64 bit] 3 (0, 0))) (h : gr_ix bit l 0 = some r) :
  Calls Try.prog 104 #[.slice A0 n0 c0, .func (.func 105) #[] #[.pointer (some ⟨gb, 0, none⟩)]] w fun e w' => e = .returned (.int .i64 r) ∧ Below w.heap.size w w' := by
 obtain rfl := hr0.1
 have hu51 := Try.underlying51
 have BB := Aside0.mk hb
 have HR0 := Aside0.mk hr0
 have HI := Aside0.mk h
 have HB := Aside0.mk (Below.refl w.heap.size w)
 clear hb h hr0
 go_enter Try.func104, Try.ntmps104
 go_wp2
 go_loopg [8] l.length (fun kq v8 w' => ∃ (xi : Int), v8 = .int .i64 xi ∧ Aside0 (0 ≤ xi ∧ xi + kq = l.length) ∧ Aside0 (gr_ix bit (l.drop xi.toNat) xi = some r) ∧ Aside0 (Below w.heap.size w w') ∧ Aside0 (w'.heap[gb]? = some (.cells #[.int .i64 bit] 3 (0, 0))))
 case atStart => exact ⟨0, rfl, ⟨by omega⟩, HI, HB, BB⟩
 case round =>
  clear HI HB BB
  obtain ⟨xi, rfl, ⟨hxi, hxk⟩, HI, HB, BB⟩ := hrel
  cases gk with
  | zero =>
   have e0 : decide (xi < (l.length : Int)) = false := decide_eq_false (by omega)
   have hr : -1 = r := by
    have := HI.out
    rw [List.drop_eq_nil_of_le (by omega), gr_ix] at this
    exact Option.some.inj this
   subst hr
   go_wp2
   go_ret
   exact ⟨rfl, HB.out⟩
  | succ k1 =>
   have e0 : decide (xi < (l.length : Int)) = true := decide_eq_true (by omega)
   have hs := HI.out
   rw [gr_ix.step bit l xi hxi (by omega)] at hs
   obtain ⟨b, hb, hs⟩ := Option.bind_eq_some_iff.mp hs
   have HBI := Aside0.mk hb
   clear hb HI
   obtain ⟨ad2, e2, hx2, hx3⟩ := at_T51 HR0.out xi hxi (by omega)
   cases e2
   replace hx2 := (HB.out.cell (World.block_lt_of_cell? _ _ hx2)).trans hx2
   replace hx3 := (HB.out.cell (World.block_lt_of_cell? _ _ hx3)).trans hx3
   have p0 : (0 ≤ xi) = True := eq_true hxi
   have q0 : (xi < (l.length : Int)) = True := eq_true (by omega)
   have i1 : wrap64 (xi + 1) = xi + 1 := by
    have := HR0.out.2.1
    unfold wrap64; omega
   by_cases d3 : b = 1
   ·subst d3
    rw [if_pos rfl] at hs
    obtain rfl := Option.some.inj hs
    clear hs
    go_wp2_with (first | (go_at_call 105; refine (gr_1.calls _ _ gb bit 1 _ BB.out HBI.out).mono ?_; rintro e w1 ⟨rfl, hb⟩; have n0_ := Aside0.mk (below_step HB.out hb); clear hb HB; have HB := n0_; clear n0_))
    go_ret
    exact ⟨rfl, HB.out⟩
   ·rw [if_neg d3] at hs
    have HI := Aside0.mk hs
    have d3b : (b == 1) = false := beq_false_of_ne d3
    clear hs d3
    go_wp2_with (first | (go_at_call 105; refine (gr_1.calls _ _ gb bit b _ BB.out HBI.out).mono ?_; rintro e w1 ⟨rfl, hb⟩; have n0_ := Aside0.mk (below_step HB.out hb); have n1_ := Aside0.mk (blk_below BB.out hb); clear hb HB BB; have HB := n0_; have BB := n1_; clear n0_ n1_))
    go_roundg k1
    case measure => omega
    case rel => exact ⟨xi + 1, by rw [i1], ⟨by omega⟩, HI, HB, BB⟩
def impl_grown.f : Nat → List S74 → List S51 → Option (List S74)
 | 0, _, _ => none
 | k + 1, out, s => if (s.length : Int) = 0 then some out else if (rd_T51 s 0).f0.toList = (rd_T51 s ((s.length : Int) - 1)).f0.toList then
   (if out.length < 1099511627776 ∧ s.length < 1099511627776 then some (out ++ [⟨(rd_T51 s 0).f0, s.map (fun x => x.f1), 0, 0, 0⟩]) else none)
  else (impl_firstUnlike.f k (rd_T51 s 0).f0 (rd_T51 s ((s.length : Int) - 1)).f0).bind fun bit => (gr_ix bit s 0).bind fun n =>
   if 0 ≤ n ∧ n ≤ (s.length : Int) ∧ out.length < 1099511627776 then
    (impl_grown.f k (out ++ [⟨⟨#[]⟩, [], bit, (out.length : Int) + 1, 0⟩]) (s.take n.toNat)).bind fun o2 =>
     if out.length < o2.length then impl_grown.f k (o2.set out.length { (rd_T74 o2 (out.length : Int)) with f4 := (o2.length : Int) }) (s.drop n.toNat) else none
   else none
theorem impl_grown.mono : ∀ (out : List S74) (s : List S51) (k : Nat), LeO (impl_grown.f k out s) (impl_grown.f (k + 1) out s) := by
 suffices h : ∀ k out s, LeO (impl_grown.f k out s) (impl_grown.f (k + 1) out s) from fun out s k => h k out s
 intro k
 induction k with
 | zero => intro out s r h; simp [impl_grown.f] at h
 | succ k ih =>
  intro out s
  rw [impl_grown.f, impl_grown.f]
  exact LeO.ite (LeO.refl _) (LeO.ite (LeO.refl _) (LeO.bind (impl_firstUnlike.mono _ _ _) (fun _ => LeO.bind (LeO.refl _) (fun _ => LeO.ite (LeO.bind (ih _ _) (fun _ => LeO.ite (ih _ _) (LeO.none _))) (LeO.none _)))))
set_option maxHeartbeats 16000000 in
set_option maxRecDepth 100000 in
theorem impl_grown.run : ∀ (k : Nat) (out : List S74) (s : List S51) (r : List S74), impl_grown.f k out s = some r →
  ∀ (v : Value) (A1 : Option Addr) (n1 c1 : Nat) (W0 w : World), Below W0.heap.size W0 w → Kd.C k51 W0 A1 n1 s → n1 ≤ c1 → Kd.S k74 74 w W0.heap.size (fun _ => True) v out →
  Calls Try.prog 92 #[v, .slice A1 n1 c1] w fun e w' => ∃ v0_ : Value, e = .returned v0_ ∧ Kd.S k74 74 w' W0.heap.size (fun _ => True) v0_ r ∧ Below W0.heap.size W0 w' := by
 intro k
 induction k with
 | zero => intro out s r h; simp [impl_grown.f] at h
 | succ k ih =>
  intro out s r h v A1 n1 c1 W0 w hB hr1 hc1 hO
  obtain rfl := hr1.1
  have hu74 := Try.underlying74
  have hu51 := Try.underlying51
  have HB := Aside0.mk hB
  have HO := Aside0.mk hO
  have HR1 := Aside0.mk hr1
  have hkl := hr1.2.1
  clear hB hO hr1
  rw [impl_grown.f] at h
  by_cases d0 : (s.length : Int) = 0
  ·rw [if_pos d0] at h
   obtain rfl := Option.some.inj h
   clear h ih
   have d0b : ((s.length : Int) == 0) = true := beq_iff_eq.mpr d0
   go_enter Try.func92, Try.ntmps92
   go_wp2
   go_ret
   exact ⟨_, rfl, HO.out, HB.out⟩
  rw [if_neg d0] at h
  have d0b : ((s.length : Int) == 0) = false := beq_false_of_ne d0
  obtain ⟨ad1, e1, hx1, hy1⟩ := at_T51 HR1.out 0 (by omega) (by omega)
  cases e1
  obtain ⟨li, hli⟩ : ∃ li : Int, li = (s.length : Int) - 1 := ⟨_, rfl⟩
  rw [← hli] at h
  obtain ⟨ad1', e1, hx2, hy2⟩ := at_T51 HR1.out li (by omega) (by omega)
  cases e1
  replace hx1 := (HB.out.cell (World.block_lt_of_cell? _ _ hx1)).trans hx1
  replace hx2 := (HB.out.cell (World.block_lt_of_cell? _ _ hx2)).trans hx2
  simp only [show (0 : Int).toNat = 0 from rfl, Nat.zero_mul] at hx1
  clear hy1 hy2
  have i2 : wrap64 ((s.length : Int) - 1) = li := by unfold wrap64; omega
  have i3 : IntKind.i64.wrap ((s.length : Int) - 1) = li := (i64_w _).trans i2
  have j1 : (0 < s.length) = True := eq_true (by omega)
  have j2 : (0 ≤ li) = True := eq_true (by omega)
  have j3 : (li < (s.length : Int)) = True := eq_true (by omega)
  clear hli
  have hz : ad1.add 0 = ad1 := by simp [Go.Addr.add]
  rw [hz] at hx1
  clear hz
  generalize hkey : (rd_T51 s 0).f0 = key at hx1 h
  generalize hkey2 : (rd_T51 s li).f0 = key2 at hx2 h
  clear hkey hkey2
  by_cases d1 : key.toList = key2.toList
  ·
   rw [if_pos d1] at h
   by_cases d2 : out.length < 1099511627776 ∧ s.length < 1099511627776
   rotate_left
   ·rw [if_neg d2] at h; cases h
   rw [if_pos d2] at h
   obtain rfl := Option.some.inj h
   clear h ih
   have HD2 := Aside0.mk d2
   have d1b : (key.toList == key2.toList) = true := beq_iff_eq.mpr d1
   clear d2 d1
   have HB0 := HB
   clear HB
   have HB := Aside0.mk (Below.refl w.heap.size w)
   go_enter Try.func92, Try.ntmps92
   go_wp2
   go_quiet (fail)
   go_wp2_with (first | ((with_reducible refine gate_dst (N := 7) rfl ?_); refine box_event ?hg (N := 7) ?hd (cs := #[.string (⟨#[]⟩ : ByteArray), .slice none 0 0, .int .i64 0, .int .i64 0, .int .i64 0]) (t := 74) ?hr ?_; (case hd => rfl); (case hg => rfl); (case hr => go_simp); intro gf hg w1 hbox hb; have n0_ := Aside0.mk (below_step (by repeat first | exact HB.out | apply q4_ | apply q5_ | apply q6_) hb); have n1_ := Aside0.mk (hbox); have n2_ := Aside0.mk ((by rw [hg]; exact below_size (by repeat first | exact HB.out | apply q4_ | apply q5_ | apply q6_) : w.heap.size ≤ gf)); (try clear HB); (try clear BF); (try clear GE_gf); have HB := n0_; have BF := n1_; have GE_gf := n2_; clear n0_ n1_ n2_; clear hb hbox hg; have hc_BF_0 : w1.cell? ⟨gf, 0, none⟩ = some (.string (⟨#[]⟩ : ByteArray)) := (blk_cell BF.out 0).trans rfl; have hf_BF_0 := blk_frozen BF.out 0; have hc_BF_1 : w1.cell? ⟨gf, 1, none⟩ = some (.slice none 0 0) := (blk_cell BF.out 1).trans rfl; have hf_BF_1 := blk_frozen BF.out 1; have hc_BF_2 : w1.cell? ⟨gf, 2, none⟩ = some (.int .i64 0) := (blk_cell BF.out 2).trans rfl; have hf_BF_2 := blk_frozen BF.out 2; have hc_BF_3 : w1.cell? ⟨gf, 3, none⟩ = some (.int .i64 0) := (blk_cell BF.out 3).trans rfl; have hf_BF_3 := blk_frozen BF.out 3; have hc_BF_4 : w1.cell? ⟨gf, 4, none⟩ = some (.int .i64 0) := (blk_cell BF.out 4).trans rfl; have hf_BF_4 := blk_frozen BF.out 4) | ((with_reducible refine gate_store (t := 74) (p := 7) rfl ?_); refine store_event (t := 74) (p := 7) (v := ?vo_w2) (w1 := (((((w1.setCell ⟨gf, 0, none⟩ (.string key)).setCell ⟨gf, 1, none⟩ (.slice none 0 0)).setCell ⟨gf, 2, none⟩ (.int .i64 0)).setCell ⟨gf, 3, none⟩ (.int .i64 0)).setCell ⟨gf, 4, none⟩ (.int .i64 0))) ?hg ?ho ?hn ?hr ?_; (case ho => rfl); (case hg => rfl); (case hn => rfl); (case hr => go_simp); intro w2 hw; have n0_ := Aside0.mk (show Below w.heap.size w w2 from (by rw [hw]; exact below_set (below_set (below_set (below_set (below_set (by repeat first | exact HB.out | apply q4_ | apply q5_ | apply q6_) GE_gf.out) GE_gf.out) GE_gf.out) GE_gf.out) GE_gf.out)); have n1_ := Aside0.mk (show w2.heap[gf]? = some (.cells #[.string key, .slice none 0 0, .int .i64 0, .int .i64 0, .int .i64 0] 74 (0, 0)) from (by rw [hw]; exact (blk_put (cs' := #[.string key, .slice none 0 0, .int .i64 0, .int .i64 0, .int .i64 0]) (blk_put (cs' := #[.string key, .slice none 0 0, .int .i64 0, .int .i64 0, .int .i64 0]) (blk_put (cs' := #[.string key, .slice none 0 0, .int .i64 0, .int .i64 0, .int .i64 0]) (blk_put (cs' := #[.string key, .slice none 0 0, .int .i64 0, .int .i64 0, .int .i64 0]) (blk_put (cs' := #[.string key, .slice none 0 0, .int .i64 0, .int .i64 0, .int .i64 0]) (by repeat first | exact BF.out | apply q1_ | apply q2_ | apply q3_) 0 (.string key) rfl) 1 (.slice none 0 0) rfl) 2 (.int .i64 0) rfl) 3 (.int .i64 0) rfl) 4 (.int .i64 0) rfl))); (try clear hc_BF_0); (try clear hf_BF_0); (try clear hc_BF_1); (try clear hf_BF_1); (try clear hc_BF_2); (try clear hf_BF_2); (try clear hc_BF_3); (try clear hf_BF_3); (try clear hc_BF_4); (try clear hf_BF_4); (try clear HB); (try clear BF); have HB := n0_; have BF := n1_; clear n0_ n1_; clear hw; (try simp only [Act.put, List.setIfInBounds_toArray, List.set_cons_zero, List.set_cons_succ]); have hc_BF_0 : w2.cell? ⟨gf, 0, none⟩ = some (.string key) := (blk_cell BF.out 0).trans rfl; have hf_BF_0 := blk_frozen BF.out 0; have hc_BF_1 : w2.cell? ⟨gf, 1, none⟩ = some (.slice none 0 0) := (blk_cell BF.out 1).trans rfl; have hf_BF_1 := blk_frozen BF.out 1; have hc_BF_2 : w2.cell? ⟨gf, 2, none⟩ = some (.int .i64 0) := (blk_cell BF.out 2).trans rfl; have hf_BF_2 := blk_frozen BF.out 2; have hc_BF_3 : w2.cell? ⟨gf, 3, none⟩ = some (.int .i64 0) := (blk_cell BF.out 3).trans rfl; have hf_BF_3 := blk_frozen BF.out 3; have hc_BF_4 : w2.cell? ⟨gf, 4, none⟩ = some (.int .i64 0) := (blk_cell BF.out 4).trans rfl; have hf_BF_4 := blk_frozen BF.out 4))
   go_loopg [35] s.length (fun kq v35 w' => ∃ (xi : Int) (xp : List Int) (A3 : Option Addr) (c3 : Nat), v35 = .int .i64 xi ∧ Aside0 (0 ≤ xi ∧ xi + kq = s.length) ∧ Aside0 (xp = (s.take xi.toNat).map (fun x => x.f1)) ∧ Aside0 (Below w.heap.size w w') ∧ Aside0 (w'.heap[gf]? = some (.cells #[.string key, .slice A3 xp.length c3, .int .i64 0, .int .i64 0, .int .i64 0] 74 (0, 0))) ∧ Aside0 (Kd.R (Kd.int .i64) 3 w' w.heap.size (fun _ => True) (.slice A3 xp.length c3) xp))
   case atStart => exact ⟨0, [], none, 0, rfl, ⟨by omega⟩, ⟨rfl⟩, HB, BF, ⟨Kd.R_nil _ _ _ _ _⟩⟩
   case round =>
    clear HB BF hx1 hx2
    obtain ⟨xi, xp, A3, c3, rfl, ⟨hxi, hxk⟩, HX, HB, BF, HP⟩ := hrel
    have hc_BF_0 : wr.cell? ⟨gf, 0, none⟩ = some (.string key) := (blk_cell BF.out 0).trans rfl; have hf_BF_0 := blk_frozen BF.out 0; have hc_BF_1 : wr.cell? ⟨gf, 1, none⟩ = some (.slice A3 xp.length c3) := (blk_cell BF.out 1).trans rfl; have hf_BF_1 := blk_frozen BF.out 1; have hc_BF_2 : wr.cell? ⟨gf, 2, none⟩ = some (.int .i64 0) := (blk_cell BF.out 2).trans rfl; have hf_BF_2 := blk_frozen BF.out 2; have hc_BF_3 : wr.cell? ⟨gf, 3, none⟩ = some (.int .i64 0) := (blk_cell BF.out 3).trans rfl; have hf_BF_3 := blk_frozen BF.out 3; have hc_BF_4 : wr.cell? ⟨gf, 4, none⟩ = some (.int .i64 0) := (blk_cell BF.out 4).trans rfl; have hf_BF_4 := blk_frozen BF.out 4
    cases gk with
    | zero =>
     have e0 : decide (xi < (s.length : Int)) = false := decide_eq_false (by omega)
     have hpl : xp = s.map (fun x => x.f1) := by
      rw [HX.out, List.take_of_length_le (by omega)]
     have HXE := Aside0.mk hpl
     clear HX hpl
     go_wp2_with (first | ((with_reducible refine gate_builtin (b := .append) (xs := #[.tmp 47, .tmp 49]) rfl ?_); at_builtin; refine Kd.S_append k74 (w0 := W0) W0.heap.size rfl (.tmp 47) (.tmp 49) 25 74 _ 64 rfl Try.underlying25 info74 rfl (by decide) (by omega) v out ⟨key, xp, 0, 0, 0⟩ [.string key, .slice A3 xp.length c3, .int .i64 0, .int .i64 0, .int .i64 0] (fun _ => True) (fun k_ => w.heap.size ≤ k_) rfl rfl ?aP ?aK (fun _ _ => trivial) ?aO ?aB ?aS ?aL ?_; (case aP => exact k74_mkM _ _ _ ⟨key, xp, 0, 0, 0⟩ (Kd.R_lower (Kd.R_mono (Kd.R_bound HP.out) (fun _ hk => hk.2.1)) HB0.out.size)); (case aK => exact fun k_ hk_ => ⟨trivial, fun e_ => Nat.not_le.2 (Kd.S_lt HO.out k_ e_.symm) hk_⟩); (case aO => exact Kd.S_mono (Kd.S_below (Kd.S_bound HO.out) HB.out) (fun k_ hk_ => ⟨trivial, Nat.not_le.2 hk_.2.2.1⟩)); (case aB => exact below_then HB0.out HB0.out.size HB.out); (case aS => exact Nat.le_trans HB0.out.size HB.out.size); (case aL => have := HD2.out; omega); intro v5 w5 ho hb hg hat; have n0_ := Aside0.mk ho; have n1_ := Aside0.mk hb; clear ho hb hg hat HO HB; have HO := n0_; have HB := n1_; clear n0_ n1_))
     go_ret
     exact ⟨_, rfl, by rw [← HXE.out]; exact HO.out, HB.out⟩
    | succ k1 =>
     have e0 : decide (xi < (s.length : Int)) = true := decide_eq_true (by omega)
     obtain ⟨ad2, e2, hx2, hx3⟩ := at_T51 HR1.out xi hxi (by omega)
     cases e2
     replace hx2 := (below_then HB0.out HB0.out.size HB.out).cell (World.block_lt_of_cell? _ _ hx2) |>.trans hx2
     replace hx3 := (below_then HB0.out HB0.out.size HB.out).cell (World.block_lt_of_cell? _ _ hx3) |>.trans hx3
     have p0 : (0 ≤ xi) = True := eq_true hxi
     have q0 : (xi < (s.length : Int)) = True := eq_true (by omega)
     have i1 : wrap64 (xi + 1) = xi + 1 := by
      have := HR1.out.2.1
      unfold wrap64; omega
     obtain ⟨xq, hxq⟩ : ∃ xq, xq = xp ++ [(rd_T51 s xi).f1] := ⟨_, rfl⟩
     have HXQ := Aside0.mk hxq
     have HX2 := Aside0.mk (show xq = (s.take (xi + 1).toNat).map (fun x => x.f1) from by
      have e : rd_T51 s xi = s[xi.toNat]'(by omega) := by simp [rd_T51, List.getD_eq_getElem?_getD, List.getElem?_eq_getElem (show xi.toNat < s.length by omega)]
      rw [hxq, HX.out, e, show (xi + 1).toNat = xi.toNat + 1 by omega, List.take_succ_eq_append_getElem (by omega), List.map_append, List.map_cons, List.map_nil])
     have HXL := Aside0.mk (show xp.length ≤ s.length from by
      rw [HX.out, List.length_map, List.length_take]; omega)
     clear hxq HX
     go_wp2_with (first | ((with_reducible refine gate_dst (N := 9) rfl ?_); refine box_event ?hg (N := 9) ?hd (cs := #[.string (⟨#[]⟩ : ByteArray), .int .i64 0]) (t := 51) ?hr ?_; (case hd => rfl); (case hg => rfl); (case hr => go_simp); intro gx hg w6 hbox hb; have n0_ := Aside0.mk (below_step HB.out hb); have n1_ := Aside0.mk (blk_below BF.out hb); have n2_ := Aside0.mk (Kd.R_below HP.out hb); have n3_ := Aside0.mk (hbox); have n4_ := Aside0.mk ((by rw [hg]; exact below_size HB.out : w.heap.size ≤ gx)); (try clear hc_BF_0); (try clear hf_BF_0); (try clear hc_BF_1); (try clear hf_BF_1); (try clear hc_BF_2); (try clear hf_BF_2); (try clear hc_BF_3); (try clear hf_BF_3); (try clear hc_BF_4); (try clear hf_BF_4); (try clear HB); (try clear BF); (try clear HP); (try clear BX); (try clear GE_gx); have HB := n0_; have BF := n1_; have HP := n2_; have BX := n3_; have GE_gx := n4_; clear n0_ n1_ n2_ n3_ n4_; clear hb hbox hg; have hc_BF_0 : w6.cell? ⟨gf, 0, none⟩ = some (.string key) := (blk_cell BF.out 0).trans rfl; have hf_BF_0 := blk_frozen BF.out 0; have hc_BF_1 : w6.cell? ⟨gf, 1, none⟩ = some (.slice A3 xp.length c3) := (blk_cell BF.out 1).trans rfl; have hf_BF_1 := blk_frozen BF.out 1; have hc_BF_2 : w6.cell? ⟨gf, 2, none⟩ = some (.int .i64 0) := (blk_cell BF.out 2).trans rfl; have hf_BF_2 := blk_frozen BF.out 2; have hc_BF_3 : w6.cell? ⟨gf, 3, none⟩ = some (.int .i64 0) := (blk_cell BF.out 3).trans rfl; have hf_BF_3 := blk_frozen BF.out 3; have hc_BF_4 : w6.cell? ⟨gf, 4, none⟩ = some (.int .i64 0) := (blk_cell BF.out 4).trans rfl; have hf_BF_4 := blk_frozen BF.out 4; have hc_BX_0 : w6.cell? ⟨gx, 0, none⟩ = some (.string (⟨#[]⟩ : ByteArray)) := (blk_cell BX.out 0).trans rfl; have hf_BX_0 := blk_frozen BX.out 0; have hc_BX_1 : w6.cell? ⟨gx, 1, none⟩ = some (.int .i64 0) := (blk_cell BX.out 1).trans rfl; have hf_BX_1 := blk_frozen BX.out 1) | ((with_reducible refine gate_store (t := 51) (p := 9) rfl ?_); refine store_event (t := 51) (p := 9) (v := ?vo_w7) (w1 := ((w6.setCell ⟨gx, 0, none⟩ (.string ((rd_T51 s xi).f0))).setCell ⟨gx, 1, none⟩ (.int .i64 ((rd_T51 s xi).f1)))) ?hg ?ho ?hn ?hr ?_; (case ho => rfl); (case hg => rfl); (case hn => rfl); (case hr => go_simp); intro w7 hw; have n0_ := Aside0.mk (show Below w.heap.size w w7 from (by rw [hw]; exact below_set (below_set HB.out GE_gx.out) GE_gx.out)); have n1_ := Aside0.mk (show w7.heap[gf]? = some (.cells #[.string key, .slice A3 xp.length c3, .int .i64 0, .int .i64 0, .int .i64 0] 74 (0, 0)) from (by rw [hw]; exact (blk_far (blk_far BF.out (p := ⟨gx, 0, none⟩) (blk_ne BF.out BX.out (by decide)) (.string ((rd_T51 s xi).f0))) (p := ⟨gx, 1, none⟩) (blk_ne BF.out BX.out (by decide)) (.int .i64 ((rd_T51 s xi).f1))))); have n2_ := Aside0.mk (show w7.heap[gx]? = some (.cells #[.string ((rd_T51 s xi).f0), .int .i64 ((rd_T51 s xi).f1)] 51 (0, 0)) from (by rw [hw]; exact (blk_put (cs' := #[.string ((rd_T51 s xi).f0), .int .i64 ((rd_T51 s xi).f1)]) (blk_put (cs' := #[.string ((rd_T51 s xi).f0), .int .i64 0]) BX.out 0 (.string ((rd_T51 s xi).f0)) rfl) 1 (.int .i64 ((rd_T51 s xi).f1)) rfl))); have n3_ := Aside0.mk (show Kd.R (Kd.int .i64) 3 w7 w.heap.size (fun _ => True) (.slice A3 xp.length c3) xp from (by rw [hw]; exact (Kd.R_set (Kd.R_set HP.out BX.out (by decide) 0 (.string ((rd_T51 s xi).f0))) (blk_set BX.out 0 (.string ((rd_T51 s xi).f0))) (by decide) 1 (.int .i64 ((rd_T51 s xi).f1))))); (try clear hc_BF_0); (try clear hf_BF_0); (try clear hc_BF_1); (try clear hf_BF_1); (try clear hc_BF_2); (try clear hf_BF_2); (try clear hc_BF_3); (try clear hf_BF_3); (try clear hc_BF_4); (try clear hf_BF_4); (try clear hc_BX_0); (try clear hf_BX_0); (try clear hc_BX_1); (try clear hf_BX_1); (try clear HB); (try clear BF); (try clear BX); (try clear HP); have HB := n0_; have BF := n1_; have BX := n2_; have HP := n3_; clear n0_ n1_ n2_ n3_; clear hw; (try simp only [Act.put, List.setIfInBounds_toArray, List.set_cons_zero, List.set_cons_succ]); have hc_BF_0 : w7.cell? ⟨gf, 0, none⟩ = some (.string key) := (blk_cell BF.out 0).trans rfl; have hf_BF_0 := blk_frozen BF.out 0; have hc_BF_1 : w7.cell? ⟨gf, 1, none⟩ = some (.slice A3 xp.length c3) := (blk_cell BF.out 1).trans rfl; have hf_BF_1 := blk_frozen BF.out 1; have hc_BF_2 : w7.cell? ⟨gf, 2, none⟩ = some (.int .i64 0) := (blk_cell BF.out 2).trans rfl; have hf_BF_2 := blk_frozen BF.out 2; have hc_BF_3 : w7.cell? ⟨gf, 3, none⟩ = some (.int .i64 0) := (blk_cell BF.out 3).trans rfl; have hf_BF_3 := blk_frozen BF.out 3; have hc_BF_4 : w7.cell? ⟨gf, 4, none⟩ = some (.int .i64 0) := (blk_cell BF.out 4).trans rfl; have hf_BF_4 := blk_frozen BF.out 4; have hc_BX_0 : w7.cell? ⟨gx, 0, none⟩ = some (.string ((rd_T51 s xi).f0)) := (blk_cell BX.out 0).trans rfl; have hf_BX_0 := blk_frozen BX.out 0; have hc_BX_1 : w7.cell? ⟨gx, 1, none⟩ = some (.int .i64 ((rd_T51 s xi).f1)) := (blk_cell BX.out 1).trans rfl; have hf_BX_1 := blk_frozen BX.out 1) | ((with_reducible refine gate_builtin (b := .append) (xs := #[.tmp 40, .tmp 43]) rfl ?_); at_builtin; refine Kd.R_append (Kd.int .i64) (w0 := w) w.heap.size rfl (.tmp 40) (.tmp 43) 39 3 (.int .i64 0) 8 rfl Try.underlying39 info3 rfl (by decide) (by omega) (.slice A3 xp.length c3) xp (rd_T51 s xi).f1 [.int .i64 (rd_T51 s xi).f1] (fun _ => True) (fun _ => False) rfl rfl rfl (fun _ h_ => h_.elim) (fun _ _ => trivial) ?aO ?aB ?aS ?aL ?_; (case aO => exact HP.out); (case aB => exact HB.out); (case aS => exact below_size HB.out); (case aL => have := HXL.out; have := HD2.out; omega); intro v4 w8 ho hb hg hat; rw [← HXQ.out] at ho; have n0_ := Aside0.mk (hb); have n1_ := Aside0.mk (blk_grown BF.out hg (Kd.R_ne HP.out BF.out (by decide))); have n2_ := Aside0.mk (ho); (try clear BX); (try clear hc_BF_0); (try clear hf_BF_0); (try clear hc_BF_1); (try clear hf_BF_1); (try clear hc_BF_2); (try clear hf_BF_2); (try clear hc_BF_3); (try clear hf_BF_3); (try clear hc_BF_4); (try clear hf_BF_4); (try clear hc_BX_0); (try clear hf_BX_0); (try clear hc_BX_1); (try clear hf_BX_1); (try clear HB); (try clear BF); (try clear HP); have HB := n0_; have BF := n1_; have HP := n2_; clear n0_ n1_ n2_; clear ho hb hg hat; obtain ⟨A4, c4, rfl⟩ := Kd.R_slice HP.out; have hc_BF_0 : w8.cell? ⟨gf, 0, none⟩ = some (.string key) := (blk_cell BF.out 0).trans rfl; have hf_BF_0 := blk_frozen BF.out 0; have hc_BF_1 : w8.cell? ⟨gf, 1, none⟩ = some (.slice A3 xp.length c3) := (blk_cell BF.out 1).trans rfl; have hf_BF_1 := blk_frozen BF.out 1; have hc_BF_2 : w8.cell? ⟨gf, 2, none⟩ = some (.int .i64 0) := (blk_cell BF.out 2).trans rfl; have hf_BF_2 := blk_frozen BF.out 2; have hc_BF_3 : w8.cell? ⟨gf, 3, none⟩ = some (.int .i64 0) := (blk_cell BF.out 3).trans rfl; have hf_BF_3 := blk_frozen BF.out 3; have hc_BF_4 : w8.cell? ⟨gf, 4, none⟩ = some (.int .i64 0) := (blk_cell BF.out 4).trans rfl; have hf_BF_4 := blk_frozen BF.out 4) | ((with_reducible refine gate_store (t := 39) (p := 45) rfl ?_); refine store_event (t := 39) (p := 45) (v := ?vo_w9) (w1 := (w8.setCell ⟨gf, 1, none⟩ (.slice A4 xq.length c4))) ?hg ?ho ?hn ?hr ?_; (case ho => rfl); (case hg => rfl); (case hn => rfl); (case hr => go_simp); intro w9 hw; have n0_ := Aside0.mk (show Below w.heap.size w w9 from (by rw [hw]; exact below_set HB.out GE_gf.out)); have n1_ := Aside0.mk (show w9.heap[gf]? = some (.cells #[.string key, .slice A4 xq.length c4, .int .i64 0, .int .i64 0, .int .i64 0] 74 (0, 0)) from (by rw [hw]; exact (blk_put (cs' := #[.string key, .slice A4 xq.length c4, .int .i64 0, .int .i64 0, .int .i64 0]) BF.out 1 (.slice A4 xq.length c4) rfl))); have n2_ := Aside0.mk (show Kd.R (Kd.int .i64) 3 w9 w.heap.size (fun _ => True) (.slice A4 xq.length c4) xq from (by rw [hw]; exact (Kd.R_set HP.out BF.out (by decide) 1 (.slice A4 xq.length c4)))); (try clear hc_BF_0); (try clear hf_BF_0); (try clear hc_BF_1); (try clear hf_BF_1); (try clear hc_BF_2); (try clear hf_BF_2); (try clear hc_BF_3); (try clear hf_BF_3); (try clear hc_BF_4); (try clear hf_BF_4); (try clear HB); (try clear BF); (try clear HP); have HB := n0_; have BF := n1_; have HP := n2_; clear n0_ n1_ n2_; clear hw; (try simp only [Act.put, List.setIfInBounds_toArray, List.set_cons_zero, List.set_cons_succ]); have hc_BF_0 : w9.cell? ⟨gf, 0, none⟩ = some (.string key) := (blk_cell BF.out 0).trans rfl; have hf_BF_0 := blk_frozen BF.out 0; have hc_BF_1 : w9.cell? ⟨gf, 1, none⟩ = some (.slice A4 xq.length c4) := (blk_cell BF.out 1).trans rfl; have hf_BF_1 := blk_frozen BF.out 1; have hc_BF_2 : w9.cell? ⟨gf, 2, none⟩ = some (.int .i64 0) := (blk_cell BF.out 2).trans rfl; have hf_BF_2 := blk_frozen BF.out 2; have hc_BF_3 : w9.cell? ⟨gf, 3, none⟩ = some (.int .i64 0) := (blk_cell BF.out 3).trans rfl; have hf_BF_3 := blk_frozen BF.out 3; have hc_BF_4 : w9.cell? ⟨gf, 4, none⟩ = some (.int .i64 0) := (blk_cell BF.out 4).trans rfl; have hf_BF_4 := blk_frozen BF.out 4))
     go_roundg k1
     case measure => omega
     case rel => exact ⟨xi + 1, xq, A4, c4, by first | rfl | rw [i1], ⟨by omega⟩, HX2, HB, BF, HP⟩
  rw [if_neg d1] at h
  have d1b : (key.toList == key2.toList) = false := beq_false_of_ne d1
  clear d1
  obtain ⟨bit, hbit, h⟩ := Option.bind_eq_some_iff.mp h
  obtain ⟨n, hn, h⟩ := Option.bind_eq_some_iff.mp h
  by_cases d2 : 0 ≤ n ∧ n ≤ (s.length : Int) ∧ out.length < 1099511627776
  rotate_left
  ·rw [if_neg d2] at h; cases h
  rw [if_pos d2] at h
  obtain ⟨o2, ho2, h⟩ := Option.bind_eq_some_iff.mp h
  by_cases d3 : out.length < o2.length
  rotate_left
  ·rw [if_neg d3] at h; cases h
  rw [if_pos d3] at h
  have HU := Aside0.mk hbit
  have HN := Aside0.mk hn
  have HI1 := Aside0.mk (show ∀ v A1 n1 c1 W0 w, _ from ih _ (s.take n.toNat) o2 ho2)
  have HI2 := Aside0.mk (show ∀ v A1 n1 c1 W0 w, _ from ih _ (s.drop n.toNat) r h)
  clear hbit hn ho2 h ih
  obtain ⟨Av, cv, rfl⟩ := Kd.S_slice HO.out
  obtain ⟨y1, hy1⟩ : ∃ y1, y1 = out ++ [(⟨⟨#[]⟩, [], bit, (out.length : Int) + 1, 0⟩ : S74)] := ⟨_, rfl⟩
  have HY1 := Aside0.mk hy1
  clear hy1
  have i4 : wrap64 ((out.length : Int) + 1) = (out.length : Int) + 1 := by unfold wrap64; omega
  obtain ⟨i78, hi78, _, hsz78, _⟩ := info_parts info51
  have s1 := cut_to (P := Try.prog) 33 51 .i64 Try.underlying33 hi78 (some ad1) s.length c1 n d2.1 d2.2.1 hc1
  have s2 := cut_from (P := Try.prog) 33 51 .i64 Try.underlying33 hi78 2 hsz78 (some ad1) s.length c1 n d2.1 d2.2.1
  clear hi78 hsz78
  have HT := Aside0.mk (show Kd.C k51 W0 (some ad1) n.toNat (s.take n.toNat) from by
   have h_ := Kd.C_take HR1.out (m := n.toNat) (by omega)
   rwa [List.length_take, Nat.min_eq_left (by omega)] at h_)
  have hd := Kd.C_drop HR1.out (m := n.toNat) (c := c1) (by omega) hc1
  rw [List.length_drop] at hd
  change k51.C W0 (if c1 = n.toNat then some ad1 else (some ad1).map (·.add (n.toNat * 2))) _ _ at hd
  obtain ⟨AD, hAD⟩ : ∃ AD, AD = (if c1 = n.toNat then some ad1 else (some ad1).map (·.add (n.toNat * 2))) := ⟨_, rfl⟩
  obtain ⟨m2, hm2⟩ : ∃ m2, m2 = s.length - n.toNat := ⟨_, rfl⟩
  obtain ⟨c2, hc2⟩ : ∃ c2, c2 = c1 - n.toNat := ⟨_, rfl⟩
  rw [← hAD, ← hm2] at hd
  rw [← hAD, ← hm2, ← hc2] at s2
  have HD := Aside0.mk hd
  have HC2 := Aside0.mk (show m2 ≤ c2 from by omega)
  have HNN := Aside0.mk (show 0 ≤ n ∧ n ≤ (s.length : Int) ∧ out.length < 1099511627776 ∧ out.length < o2.length from ⟨d2.1, d2.2.1, d2.2.2, d3⟩)
  have HKL := Aside0.mk hkl
  have j7 : (out.length < o2.length) = True := eq_true d3
  have HC1 := Aside0.mk hc1
  have HTL := Aside0.mk (show n.toNat ≤ c1 from by omega)
  clear hd hAD hm2 hc2 d2 d3 hkl hc1
  go_enter Try.func92, Try.ntmps92
  go_wp2
  go_quiet (fail)
  go_wp2_with (first | (go_at_call 75; refine (impl_firstUnlike.calls k _ _ _ _ HU.out).mono ?_; rintro e w' ⟨rfl, ⟨nd, rfl⟩⟩) | ((with_reducible refine gate_dst (N := 10) rfl ?_); refine box_event ?q0hg (N := 10) ?q0hd (cs := #[.int .i64 0]) (t := 3) ?q0hr ?_; (case q0hd => rfl); (case q0hg => rfl); (case q0hr => first | (go_simp; done) | (go_simp; rfl)); intro gb hg w1 hbox hb; have n0_ := Aside0.mk (below_step (by repeat first | exact HB.out | apply q4_ | apply q5_ | apply q6_) hb); have n1_ := Aside0.mk (Kd.S_below (Kd.S_elderB (by repeat first | exact HO.out | apply Kd.S_alloc | apply Kd.S_drewN | apply Kd.S_drew) gb (by rw [hg]; exact Nat.le_refl _)) hb); have n2_ := Aside0.mk (hbox); have n3_ := Aside0.mk ((by rw [hg]; exact below_size (by repeat first | exact HB.out | apply q4_ | apply q5_ | apply q6_) : W0.heap.size ≤ gb)); (try clear HB); (try clear HO); (try clear BB); (try clear GE_gb); have HB := n0_; have HO := n1_; have BB := n2_; have GE_gb := n3_; clear n0_ n1_ n2_ n3_; clear hb hbox hg; have hc_BB_0 : w1.cell? ⟨gb, 0, none⟩ = some (.int .i64 0) := (blk_cell BB.out 0).trans rfl; have hf_BB_0 := blk_frozen BB.out 0) | ((with_reducible refine gate_store (t := 3) (p := 10) rfl ?_); refine store_event (t := 3) (p := 10) (v := ?q1vo_w2) (w1 := (w1.setCell ⟨gb, 0, none⟩ (.int .i64 bit))) ?q1hg ?q1ho ?q1hn ?q1hr ?_; (case q1ho => rfl); (case q1hg => rfl); (case q1hn => rfl); (case q1hr => first | (go_simp; done) | (go_simp; rfl)); intro w2 hw; have n0_ := Aside0.mk (show Below W0.heap.size W0 w2 from (by rw [hw]; exact below_set (by repeat first | exact HB.out | apply q4_ | apply q5_ | apply q6_) GE_gb.out)); have n1_ := Aside0.mk (show w2.heap[gb]? = some (.cells #[.int .i64 bit] 3 (0, 0)) from (by rw [hw]; exact (blk_put (cs' := #[.int .i64 bit]) (by repeat first | exact BB.out | apply q1_ | apply q2_ | apply q3_) 0 (.int .i64 bit) rfl))); have n2_ := Aside0.mk (show Kd.S k74  74 w2 W0.heap.size (fun k_ => True ∧ k_ ≠ gb) (.slice Av out.length cv) out from (by rw [hw]; exact (Kd.S_far (p := ⟨gb, 0, none⟩) (by repeat first | exact HO.out | apply Kd.S_alloc | apply Kd.S_drewN | apply Kd.S_drew) (fun _ hk => hk.2) (.int .i64 bit)))); (try clear hc_BB_0); (try clear hf_BB_0); (try clear HB); (try clear BB); (try clear HO); have HB := n0_; have BB := n1_; have HO := n2_; clear n0_ n1_ n2_; clear hw; (try simp only [Act.put, List.setIfInBounds_toArray, List.set_cons_zero, List.set_cons_succ]); have hc_BB_0 : w2.cell? ⟨gb, 0, none⟩ = some (.int .i64 bit) := (blk_cell BB.out 0).trans rfl; have hf_BB_0 := blk_frozen BB.out 0) | ((with_reducible refine gate_callee (f := 104) rfl ?_); refine goesL_ (some 58) rfl rfl Try.func104 (by kernel_rfl) rfl #[.slice (some ad1) s.length c1, .func (.func 105) #[] #[.pointer (some ⟨gb, 0, none⟩)]] rfl (by (try simp only [List.map_toArray, List.map_cons, List.map_nil]); first | done | rfl) ?_; (refine (gr_ix.calls (some ad1) s.length c1 s gb bit n _ ?q2s1 ?q2s2 HN.out).mono ?_); (case q2s1 => exact Kd.C_below HR1.out (by repeat first | exact HB.out | apply q4_ | apply q5_ | apply q6_)); (case q2s2 => exact (by repeat first | exact BB.out | apply q1_ | apply q2_ | apply q3_)); rintro e w3 ⟨rfl, hb⟩; refine ⟨_, rfl, ?_⟩; have n0_ := Aside0.mk (below_step (by repeat first | exact HB.out | apply q4_ | apply q5_ | apply q6_) hb); have n1_ := Aside0.mk (blk_below (by repeat first | exact BB.out | apply q1_ | apply q2_ | apply q3_) hb); have n2_ := Aside0.mk (Kd.S_below (by repeat first | exact HO.out | apply Kd.S_alloc | apply Kd.S_drewN | apply Kd.S_drew) hb); (try clear hc_BB_0); (try clear hf_BB_0); (try clear HB); (try clear BB); (try clear HO); have HB := n0_; have BB := n1_; have HO := n2_; clear n0_ n1_ n2_; (try clear hb); have hc_BB_0 : w3.cell? ⟨gb, 0, none⟩ = some (.int .i64 bit) := (blk_cell BB.out 0).trans rfl; have hf_BB_0 := blk_frozen BB.out 0) | ((with_reducible refine gate_builtin (b := .append) (xs := #[.tmp 59, .tmp 64]) rfl ?_); at_builtin; refine Kd.S_append k74 (w0 := W0) W0.heap.size rfl (.tmp 59) (.tmp 64) 25 74 _ 64 rfl Try.underlying25 info74 rfl (by decide) (by omega) (.slice Av out.length cv) out ⟨⟨#[]⟩, [], bit, (out.length : Int) + 1, 0⟩ [.string ⟨#[]⟩, .slice none 0 0, .int .i64 bit, .int .i64 ((out.length : Int) + 1), .int .i64 0] (fun _ => True) (fun _ => False) rfl rfl ?q3aP (fun _ h_ => h_.elim) (fun _ _ => trivial) ?q3aO ?q3aB ?q3aS ?q3aL ?_; (case q3aP => exact k74_mkM _ _ _ ⟨⟨#[]⟩, [], bit, (out.length : Int) + 1, 0⟩ (Kd.R_nil _ _ _ _ _)); (case q3aO => exact Kd.S_mono (by repeat first | exact HO.out | apply Kd.S_alloc | apply Kd.S_drewN | apply Kd.S_drew) (fun _ _ => ⟨trivial, fun h_ => h_⟩)); (case q3aB => exact (by repeat first | exact HB.out | apply q4_ | apply q5_ | apply q6_)); (case q3aS => exact below_size (by repeat first | exact HB.out | apply q4_ | apply q5_ | apply q6_)); (case q3aL => have := HNN.out; omega); intro v5 w5 ho hb hg hat; rw [← HY1.out] at ho; obtain ⟨A5, c5, rfl⟩ := Kd.S_slice ho; have n0_ := Aside0.mk ho; have n1_ := Aside0.mk hb; clear ho hb hg hat HO HB BB; have HO := n0_; have HB := n1_; clear n0_ n1_) | ((with_reducible refine gate_callee (f := 92) rfl ?_); refine goesL_ (some 70) rfl rfl Try.func92 (by kernel_rfl) rfl #[.slice A5 y1.length c5, .slice (some ad1) n.toNat c1] rfl (by (try simp only [List.map_toArray, List.map_cons, List.map_nil]); first | done | rfl) ?_; refine (HI1.out (.slice A5 y1.length c5) (some ad1) n.toNat c1 W0 _ ?q4s1 HT.out HTL.out ?q4s3).mono ?_; (case q4s1 => exact (by repeat first | exact HB.out | apply q4_ | apply q5_ | apply q6_)); (case q4s3 => exact (by rw [← HY1.out]; exact (by repeat first | exact HO.out | apply Kd.S_alloc | apply Kd.S_drewN | apply Kd.S_drew))); rintro e w6 ⟨v6, rfl, ho, hb⟩; refine ⟨_, rfl, ?_⟩; obtain ⟨g6, c6, rfl, gb6, gl6, cl6, hG6⟩ := Kd.S_form ho (by have := HNN.out; omega); clear gb6 gl6 hG6; have n0_ := Aside0.mk ho; have n1_ := Aside0.mk hb; clear ho hb HO HB; have HO := n0_; have HB := n1_; clear n0_ n1_) | ((with_reducible refine gate_store (t := 3) (p := 76) rfl ?_); obtain ⟨oki, ce, hcl, hM, hcc, hfr, hoki, hH⟩ := Kd.S_elem HO.out z74 (out.length : Int) (by omega) (by have := HNN.out; omega); obtain ⟨ve1, rfl, ge1⟩ := k74_openM hM; refine Kd.H_store k74 (w0 := W0) W0.heap.size rfl rfl 3 (.tmp 76) (.tmp 74) rfl 74 (o' := out.length * 5 + 4) (out.length : Int) 4 o2 { (rd_T74 o2 (out.length : Int)) with f4 := (o2.length : Int) } (.int .i64 (o2.length : Int)) [.int .i64 (o2.length : Int)] _ (fun _ => True) oki oki ?q5ha ?q5hf rfl rfl ?q5ht ?q5hn hH ?q5h0 ?q5h1 ?q5hj ?hM2 (fun _ h_ => h_) (by repeat first | exact HB.out | apply q4_ | apply q5_ | apply q6_) ?_; (case q5ha => rfl); (case q5hf => first | rfl | (simp; done) | omega); (case q5ht => kernel_rfl); (case q5hn => intro q hq; rw [List.mem_singleton.1 hq]; rfl); (case q5h0 => omega); (case q5h1 => have := HNN.out; omega); (case q5hj => exact Nat.le_refl 5); (case hM2 => exact k74_mkM _ _ _ _ ge1); intro w7 ho hb hg; rw [Int.toNat_natCast] at ho; have n0_ := Aside0.mk ho; have n1_ := Aside0.mk hb; clear ho hb hg HO HB hcl hM hcc hfr hoki hH ge1; have HO := n0_; have HB := n1_; clear n0_ n1_) | ((with_reducible refine gate_callee (f := 92) rfl ?_); refine goesL_ (some 81) rfl rfl Try.func92 (by kernel_rfl) rfl #[.slice (some ⟨g6, 0, none⟩) o2.length c6, .slice AD m2 c2] rfl (by (try simp only [List.map_toArray, List.map_cons, List.map_nil]); first | done | rfl) ?_; refine (HI2.out (.slice (some ⟨g6, 0, none⟩) o2.length c6) AD m2 c2 W0 _ ?q6s1 HD.out HC2.out ?q6s3).mono ?_; (case q6s1 => exact (by repeat first | exact HB.out | apply q4_ | apply q5_ | apply q6_)); (case q6s3 => exact (by repeat first | exact HO.out | apply Kd.S_alloc | apply Kd.S_drewN | apply Kd.S_drew)); rintro e w8 ⟨v8, rfl, ho, hb⟩; refine ⟨_, rfl, ?_⟩; have n0_ := Aside0.mk ho; have n1_ := Aside0.mk hb; clear ho hb HO HB; have HO := n0_; have HB := n1_; clear n0_ n1_))
  go_ret
  exact ⟨_, rfl, HO.out, HB.out⟩
def cfP (x y : S51) : Int := if Lib.compareBytes x.f0.data.toList y.f0.data.toList = 0 then Lib.compareInt x.f1 y.f1 else Lib.compareBytes x.f0.data.toList y.f0.data.toList
theorem cmp_Or_two (a b : Int) : cmp_Or_int.f 4 [a, b] = some (if a = 0 then b else a) := by
 simp only [cmp_Or_int.f, cmp_Or_int.l0]
 by_cases h : a = 0
 ·subst h
  by_cases h2 : b = 0
  ·subst h2; simp [rd, wrap64]
  ·simp [rd, wrap64, h2]
 ·simp [rd, wrap64, h]
set_option maxHeartbeats 8000000 in
set_option maxRecDepth 100000 in
theorem cmpPairs.calls (x y : S51) (w : World) : Calls Try.prog 91 #[.agg #[.string x.f0, .int .i64 x.f1], .agg #[.string y.f0, .int .i64 y.f1]] w fun e w' => e = .returned (.int .i64 (cfP x y)) ∧ ∃ q os', w' = Sort.grow (w.drewN q) os' := by
 have hu51 := Try.underlying51
 have c1 := fun W => Try.strings_Compare x.f0 y.f0 W
 have c2 := fun W => Try.cmp_Compare_int x.f1 y.f1 W
 unfold cfP
 generalize Lib.compareBytes x.f0.data.toList y.f0.data.toList = r1 at c1 ⊢
 generalize Lib.compareInt x.f1 y.f1 = r2 at c2 ⊢
 have c3 := cmp_Or_two r1 r2
 generalize (if r1 = 0 then r2 else r1) = r3 at c3 ⊢
 go_enter Try.func91, Try.ntmps91
 go_wp2
 obtain ⟨W2, hW2⟩ : ∃ W2, W2 = (w.alloc (Obj.cells #[Value.string x.f0, Value.int IntKind.i64 x.f1] 51)).alloc (Obj.cells #[Value.string y.f0, Value.int IntKind.i64 y.f1] 51) := ⟨_, rfl⟩
 rw [← hW2]
 have HW := Aside0.mk hW2
 have hb0 : W2.heap[w.heap.size]? = some (.cells #[Value.string x.f0, Value.int IntKind.i64 x.f1] 51 (0, 0)) := by rw [hW2]; exact (below_alloc (Below.refl _ _) _).block _ (by simp) |>.trans (blk_new _ _)
 have hb1 : W2.heap[w.heap.size + 1]? = some (.cells #[Value.string y.f0, Value.int IntKind.i64 y.f1] 51 (0, 0)) := by rw [hW2]; have := blk_new (w.alloc (Obj.cells #[Value.string x.f0, Value.int IntKind.i64 x.f1] 51)) (Obj.cells #[Value.string y.f0, Value.int IntKind.i64 y.f1] 51); simpa using this
 clear hW2
 generalize w.heap.size = g0 at *
 generalize g0 + 1 = g1 at *
 refine wp_region_still_tail 10 (by kernel_rfl) (by kernel_rfl) ?_
 simp only [List.take_succ_cons, List.take_zero, List.drop_succ_cons, List.drop_zero]
 change wpStill _ _ W2.drew (fun a' => wpList _ _ _ _ a' W2.drew) _ _
 obtain ⟨W3, hW3⟩ : ∃ W3, W3 = W2.drew := ⟨_, rfl⟩
 rw [← hW3]
 have hx0 : W3.cell? ⟨g0, 0, none⟩ = some (.string x.f0) := by rw [hW3]; exact (blk_cell hb0 0).trans rfl
 have hx1 : W3.cell? ⟨g0, 1, none⟩ = some (.int .i64 x.f1) := by rw [hW3]; exact (blk_cell hb0 1).trans rfl
 have hy0 : W3.cell? ⟨g1, 0, none⟩ = some (.string y.f0) := by rw [hW3]; exact (blk_cell hb1 0).trans rfl
 have hy1 : W3.cell? ⟨g1, 1, none⟩ = some (.int .i64 y.f1) := by rw [hW3]; exact (blk_cell hb1 1).trans rfl
 have HW3 := Aside0.mk hW3
 clear hW3 hb0 hb1
 repeat still_step
 still_call (c1 _)
 repeat still_step
 still_call (c2 _)
 refine wpStill_nil ?_
 clear c1 c2
 go_wp2_with (first | ((with_reducible refine gate_callee (f := 101) rfl ?_); refine goesL_ (some 16) rfl rfl Try.func101 (by kernel_rfl) rfl #[.slice (some ⟨W3.heap.size, 0, none⟩) 2 2] rfl (by (try simp only [List.map_toArray, List.map_cons, List.map_nil]); first | done | rfl) ?_; refine (cmp_Or_int.calls 4 (some ⟨W3.heap.size, 0, none⟩) 2 [r1, r2] r3 _ (Kd.C_of_reads (d := (0 : Int)) ⟨rfl, (by simp), fun _ => ⟨_, rfl, ?c⟩⟩) (Nat.le_refl 2) c3).mono ?_; (case c => intro j hj; rw [add_plain, blk_cell (blk_new _ _)]; match j, hj with | 0, _ => rfl | 1, _ => rfl); rintro e w' ⟨rfl, ⟨nd, rfl⟩⟩; refine ⟨_, rfl, ?_⟩))
 go_ret
 refine ⟨rfl, 1 + nd, #[.cells #[Value.string x.f0, Value.int IntKind.i64 x.f1] 51 (0, 0), .cells #[Value.string y.f0, Value.int IntKind.i64 y.f1] 51 (0, 0), .cells #[Value.int IntKind.i64 r1, Value.int IntKind.i64 r2] 3 (0, 0)], ?_⟩
 rw [HW3.out, HW.out]
 simp only [World.alloc, World.drew, World.drewN, Sort.grow, World.mk.injEq, Nat.add_assoc, true_and, and_true]
 first | rfl | (apply Array.ext'; simp)
def encP (x : S51) : List Value := [.string x.f0, .int .i64 x.f1]
instance : Inhabited S51 := ⟨z51⟩
theorem encP_one : ∀ x, ∀ v ∈ encP x, v.oneCell' = true := fun x v hv => by
 simp only [encP, List.mem_cons, List.not_mem_nil, or_false] at hv
 rcases hv with rfl | rfl <;> rfl
theorem isAgg51 : ∀ w, (isAgg 51).run Try.prog w = .ok true w := fun w => by
 simp [isAgg, run_underlying Try.underlying51]
theorem sizeOf51 : ∀ w, (Go.sizeOf 51).run Try.prog w = .ok 2 w := fun w => by
 obtain ⟨i, hi, _, hs, _⟩ := info_parts info51
 simp [Go.sizeOf, typeInfo, hi, hs]
/-! The order of pairs. -/
theorem cb_tri : ∀ a b : List UInt8, (Lib.compareBytes a b = -1 ∧ a < b) ∨ (Lib.compareBytes a b = 0 ∧ a = b) ∨ (Lib.compareBytes a b = 1 ∧ b < a)
 | [], [] => .inr (.inl ⟨rfl, rfl⟩)
 | [], _ :: _ => .inl ⟨rfl, List.nil_lt_cons _ _⟩
 | _ :: _, [] => .inr (.inr ⟨rfl, List.nil_lt_cons _ _⟩)
 | a :: as_, b :: bs => by
  unfold Lib.compareBytes
  by_cases h1 : a < b
  ·rw [if_pos h1]; exact .inl ⟨rfl, List.cons_lt_cons_iff.2 (.inl h1)⟩
  ·rw [if_neg h1]
   by_cases h2 : b < a
   ·rw [if_pos h2]; exact .inr (.inr ⟨rfl, List.cons_lt_cons_iff.2 (.inl h2)⟩)
   ·rw [if_neg h2]
    have e : a = b := UInt8.le_antisymm (UInt8.not_lt.1 h2) (UInt8.not_lt.1 h1)
    subst e
    rcases cb_tri as_ bs with ⟨h, hl⟩ | ⟨h, hl⟩ | ⟨h, hl⟩
    ·exact .inl ⟨h, List.cons_lt_cons_iff.2 (.inr ⟨rfl, hl⟩)⟩
    ·exact .inr (.inl ⟨h, by rw [hl]⟩)
    ·exact .inr (.inr ⟨h, List.cons_lt_cons_iff.2 (.inr ⟨rfl, hl⟩)⟩)
/-- The order of pairs: by key, then by place. -/
def LtP (x y : S51) : Prop := x.f0.data.toList < y.f0.data.toList ∨ x.f0.data.toList = y.f0.data.toList ∧ x.f1 < y.f1
theorem ltP_iff (x y : S51) : ltOf cfP x y = true ↔ LtP x y := by
 unfold ltOf cfP LtP
 rw [decide_eq_true_eq]
 have ci : ∀ p q : Int, Lib.compareInt p q < 0 ↔ p < q := fun p q => by
  unfold Lib.compareInt
  repeat' split
  all_goals omega
 rcases cb_tri x.f0.data.toList y.f0.data.toList with ⟨h, hl⟩ | ⟨h, hl⟩ | ⟨h, hl⟩
 ·rw [h]; simp [hl]
 ·rw [if_pos h, ci]
  constructor
  ·exact fun h2 => .inr ⟨hl, h2⟩
  ·rintro (h2 | ⟨_, h2⟩)
   ·rw [hl] at h2; exact absurd h2 (List.lt_irrefl _)
   ·exact h2
 ·rw [h]
  constructor
  ·intro h2; simp at h2
  ·rintro (h2 | ⟨h2, _⟩)
   ·exact absurd (List.lt_trans h2 hl) (List.lt_irrefl _)
   ·rw [h2] at hl; exact absurd hl (List.lt_irrefl _)
theorem ltP_false (x y : S51) : ltOf cfP x y = false ↔ ¬ LtP x y := by rw [← ltP_iff]; simp
theorem LtP.trans {x y z : S51} (h : LtP x y) (k : LtP y z) : LtP x z := by
 unfold LtP at *
 rcases h with h | ⟨h, h2⟩ <;> rcases k with k | ⟨k, k2⟩
 ·exact .inl (List.lt_trans h k)
 ·exact .inl (k ▸ h)
 ·exact .inl (h ▸ k)
 ·exact .inr ⟨h.trans k, by omega⟩
theorem LtP.irrefl (x : S51) : ¬ LtP x x := by
 rintro (h | ⟨_, h⟩)
 ·exact List.lt_irrefl _ h
 ·omega
theorem LtP.tri (x y : S51) : LtP x y ∨ x = y ∨ LtP y x := by
 unfold LtP
 rcases cb_tri x.f0.data.toList y.f0.data.toList with ⟨_, hl⟩ | ⟨_, hl⟩ | ⟨_, hl⟩
 ·exact .inl (.inl hl)
 ·rcases Int.lt_trichotomy x.f1 y.f1 with h | h | h
  ·exact .inl (.inr ⟨hl, h⟩)
  ·refine .inr (.inl ?_)
   obtain ⟨⟨⟨a⟩⟩, b⟩ := x
   obtain ⟨⟨⟨a'⟩⟩, b'⟩ := y
   simp only at hl h
   subst hl; subst h; rfl
  ·exact .inr (.inr (.inr ⟨hl.symm, h⟩))
 ·exact .inr (.inr (.inl hl))
theorem ltP_swo : Sort.SWO (ltOf cfP) where
 irrefl := fun x => (ltP_false _ _).2 (LtP.irrefl x)
 trans := fun x y z h k => (ltP_iff _ _).2 (((ltP_iff _ _).1 h).trans ((ltP_iff _ _).1 k))
 ntrans := fun x y z h k => (ltP_false _ _).2 fun h2 => by
  have h := (ltP_false _ _).1 h
  have k := (ltP_false _ _).1 k
  rcases LtP.tri x y with a | a | a
  ·exact h a
  ·subst a; exact k h2
  ·exact k (a.trans h2)
theorem ltP_total : ∀ x y, (ltOf cfP) x y = false → (ltOf cfP) y x = false → x = y := fun x y h k => by
 rcases LtP.tri x y with a | a | a
 ·exact absurd a ((ltP_false _ _).1 h)
 ·exact a
 ·exact absurd a ((ltP_false _ _).1 k)
/-- A row of pairs, sorted in place. -/
theorem holds_R {base g cap : Nat} {ok : Nat → Prop} {W : World} {xs : List S51} (h : k51.R 51 W base ok (.slice (some ⟨g, 0, none⟩) xs.length cap) xs) : Sort.HoldsK encP 2 W g 0 xs.toArray := by
 intro j hj
 rw [Sort.size_flatK] at hj
 have hj' : j / 2 < xs.length := by simp at hj; omega
 obtain ⟨c, hcl, hM, hcc, hfr⟩ := Kd.R_elem h z51 ((j / 2 : Nat) : Int) (by omega) (by omega)
 obtain rfl := k51_openM hM
 rw [Int.toNat_natCast] at hcc hfr
 have e : j / 2 * k51.sz + j % 2 = j := by show j / 2 * 2 + j % 2 = j; omega
 have hx : xs.getD (j / 2) z51 = xs[j / 2] := by simp [List.getD_eq_getElem?_getD, List.getElem?_eq_getElem hj']
 refine ⟨?_, ?_⟩
 ·rw [Sort.get_flatK _ _ _ _ hj, Nat.zero_add]
  have h2 := hcc (j % 2) ((encP (xs.getD (j / 2) z51))[j % 2]'(by show j % 2 < 2; omega)) (List.getElem?_eq_getElem _)
  rw [e] at h2
  rw [h2, hx]
  congr 1
  have e2 : (xs.toArray)[j / 2]! = xs[j / 2] := by simp [hj']
  rw [e2]
  show _ = (encP xs[j / 2])[j % 2]!
  rw [getElem!_pos (encP xs[j / 2]) (j % 2) (show j % 2 < 2 by omega)]
  rfl
 ·have := hfr (j % 2)
  rw [e] at this
  rw [Nat.zero_add]; exact this
theorem R_sorted {base g cap n : Nat} {ok : Nat → Prop} {W : World} {xs d : List S51} {os : Array Obj} (h : k51.R 51 W base ok (.slice (some ⟨g, 0, none⟩) xs.length cap) xs) (hl : d.length = xs.length) :
  k51.R 51 (sortWorldK encP 2 W g 0 n d.toArray os) base ok (.slice (some ⟨g, 0, none⟩) xs.length cap) d ∧ W.grownBy (sortWorldK encP 2 W g 0 n d.toArray os) (some g) := by
 obtain ⟨hok, inner, hown, hr⟩ := h
 rcases hown.2 with ⟨hv, _⟩ | ⟨g', cap', cur, hv, hb, hh, hnc, hcm, hcs, ht⟩
 ·cases hv
 injection hv with ha _ hc
 injection ha with ha
 injection ha with hg
 subst hg; subst hc
 have hgl := blk_lt hh
 have hheap : ∀ k, k < W.heap.size → (sortWorldK encP 2 W g 0 n d.toArray os).heap[k]? = (Sort.putRowK encP 2 W g 0 d.toArray).heap[k]? := by
  intro k hk
  show ((Sort.putRowK encP 2 (Sort.ahead W n) g 0 d.toArray).heap ++ os)[k]? = _
  rw [Array.getElem?_append_left (by simp [Sort.putRowK, Sort.putRow, Sort.mapBlock, Sort.ahead]; exact hk)]
  rfl
 obtain ⟨F, hF⟩ : ∃ F, F = Sort.flatK encP 2 d.toArray := ⟨_, rfl⟩
 have hFs : F.size = d.length * 2 := by rw [hF, Sort.size_flatK]; simp
 have hFg : ∀ t, t < d.length * 2 → ∀ h : t < F.size, F[t] = (encP (d.getD (t / 2) z51)).getD (t % 2) undef := by
  intro t ht h
  have e := Sort.get_flatK encP 2 d.toArray t (by simpa using ht)
  rw [← hF, getElem!_pos F t h] at e
  have h2 : t / 2 < d.length := by omega
  rw [e, show (d.toArray)[t / 2]! = d.getD (t / 2) z51 by simp [h2, List.getD_eq_getElem?_getD]]
  rw [getElem!_pos (encP (d.getD (t / 2) z51)) (t % 2) (show t % 2 < 2 by omega), List.getD_eq_getElem?_getD (l := encP (d.getD (t / 2) z51)), List.getElem?_eq_getElem (l := encP (d.getD (t / 2) z51)) (show t % 2 < 2 by omega)]
  rfl
 have hput : (Sort.putRowK encP 2 W g 0 d.toArray).heap[g]? = some (.cells (Sort.putCells id 0 F cur) 51 (0, 0)) := by
  simp [Sort.putRowK, Sort.putRow, Sort.mapBlock, Array.getElem?_modify, hh, Sort.onCells, hF]
 have hcsz : (Sort.putCells id 0 F cur).size = cur.size := by simp [Sort.putCells]
 have hfit : d.length * 2 ≤ cur.size := by
  rw [hcs]
  show d.length * 2 ≤ cap * 2
  omega
 have hfar : ∀ k, k < W.heap.size → k ≠ g → (sortWorldK encP 2 W g 0 n d.toArray os).heap[k]? = W.heap[k]? := by
  intro k hk hne
  rw [hheap k hk]
  simp [Sort.putRowK, Sort.putRow, Sort.mapBlock, Array.getElem?_modify, Ne.symm hne]
 refine ⟨⟨fun k hk => hok k hk, F.toList, ⟨?_, .inr ⟨g, cap, Sort.putCells id 0 F cur, by rw [hl], hb, (hheap g hgl).trans hput, by omega, hcm, by rw [hcsz]; exact hcs, ?_⟩⟩, ?_, ?_⟩, ⟨rfl, rfl, rfl, ?_, fun k hk hne => hfar k hk (fun he => hne (by rw [he]))⟩⟩
 ·rw [Array.length_toList, hFs]; rfl
 ·show List.take (d.length * 2) _ = _
  apply List.ext_getElem?
  intro q
  rw [List.getElem?_take]
  by_cases hq : q < d.length * 2
  ·rw [if_pos hq, Array.getElem?_toList, Array.getElem?_toList]
   simp only [Sort.putCells, Array.getElem?_mapIdx]
   rw [Array.getElem?_eq_getElem (show q < cur.size by omega), Option.map_some, if_pos ⟨Nat.zero_le _, by omega⟩, Nat.sub_zero, Array.getElem?_eq_getElem (show q < F.size by omega), getElem!_pos F q (by omega)]
   rfl
  ·rw [if_neg hq, List.getElem?_eq_none (by rw [Array.length_toList, hFs]; omega)]
 ·rw [Array.length_toList, hFs]; rfl
 ·intro j p hj
  obtain ⟨hjl, hjp⟩ := List.getElem?_eq_some_iff.1 hj
  have e : (F.toList.drop (j * k51.sz)).take k51.sz = [.string p.f0, .int .i64 p.f1] := by
   show (F.toList.drop (j * 2)).take 2 = encP p
   have hlen : ((F.toList.drop (j * 2)).take 2).length = 2 := by rw [List.length_take, List.length_drop, Array.length_toList, hFs]; omega
   have hp : d.getD j z51 = p := by rw [List.getD_eq_getElem?_getD, hj]; rfl
   apply List.ext_getElem hlen
   intro q h1 h2
   have h2' : q < 2 := h2
   rw [List.getElem_take, List.getElem_drop, Array.getElem_toList, hFg (j * 2 + q) (by omega)]
   rw [show (j * 2 + q) / 2 = j by omega, show (j * 2 + q) % 2 = q by omega, hp, List.getD_eq_getElem?_getD, List.getElem?_eq_getElem h2]
   rfl
  rw [e]
  exact k51_mkM _ _ _ p
 ·show W.heap.size ≤ ((Sort.putRowK encP 2 (Sort.ahead W n) g 0 d.toArray).heap ++ os).size
  rw [Array.size_append]
  simp [Sort.putRowK, Sort.putRow, Sort.mapBlock, Sort.ahead]
theorem cmpLays91 (blk off size : Nat) (w : World) : CmpLays Try.prog 91 #[] encP 2 cfP blk off size w := fun _ _ _ _ x y => cmpPairs.calls x y _
/-- The pairs in their order. -/
def sortP (l : List S51) : List S51 := l.mergeSort fun x y => !(ltOf cfP) y x
theorem sortP_length (l : List S51) : (sortP l).length = l.length := List.length_mergeSort l
set_option maxHeartbeats 8000000 in
set_option maxRecDepth 100000 in
theorem sort90.calls (g c : Nat) (l : List S51) (base : Nat) (w : World) (hR : k51.R 51 w base (fun _ => True) (.slice (some ⟨g, 0, none⟩) l.length c) l) (hb : w.heap[g]?.isSome) (hl : l.length < 1000000000000) :
  Calls Try.prog 90 #[.slice (some ⟨g, 0, none⟩) l.length c, .func (.func 91) #[] #[]] w fun e w' => e = .returned (.tuple #[]) ∧ k51.R 51 w' base (fun _ => True) (.slice (some ⟨g, 0, none⟩) l.length c) (sortP l) ∧ w.grownBy w' (some g) := by
 have h := Try.slices_SortFunc_pair 2 isAgg51 sizeOf51 encP (fun _ => rfl) encP_one cfP ltP_swo 91 #[] g 0 c l.toArray w (enters_of Try.func91 (by kernel_rfl) rfl) (cmpLays91 _ _ _ _) (holds_R hR) (by
  obtain ⟨o, ho⟩ := Option.isSome_iff_exists.1 hb
  exact blk_lt ho) (by rw [List.size_toArray]; omega) ltP_total
 rw [List.size_toArray] at h
 refine h.mono ?_
 rintro e w' ⟨rfl, n, os, rfl⟩
 have h2 := R_sorted (n := n) (os := os) (d := sortP l) hR (sortP_length l)
 exact ⟨rfl, h2.1, h2.2⟩
def impl_indexOf.f (k : Nat) (l0 : List S51) : Option (List S74) := if l0.length < 1000000000000 then impl_grown.f k [] (sortP l0) else none
theorem impl_indexOf.mono : ∀ a0 k, LeO (impl_indexOf.f k a0) (impl_indexOf.f (k + 1) a0) := fun a0 k => LeO.ite (impl_grown.mono _ _ _) (LeO.none _)
set_option maxHeartbeats 8000000 in
set_option maxRecDepth 100000 in
theorem impl_indexOf.calls (k : Nat) (A0 : Option Addr) (c0 : Nat) (l0 : List S51) (r : List S74) (w : World) (hr0 : Kd.C k51 w A0 l0.length l0) (hc0 : l0.length ≤ c0) (h : impl_indexOf.f k l0 = some r) :
  Calls Try.prog 58 #[.slice A0 l0.length c0] w fun e w' => ∃ v0_ : Value, e = .returned (v0_) ∧ Kd.S k74 74 w' w.heap.size (fun _ => True) v0_ r ∧ Below w.heap.size w w' := by
 unfold impl_indexOf.f at h
 by_cases hl : l0.length < 1000000000000
 rotate_left
 ·rw [if_neg hl] at h; cases h
 rw [if_pos hl] at h
 have HC := Aside0.mk (show impl_Pair_89.f l0 = some l0 from if_pos hl)
 have HL := Aside0.mk hl
 have HR0 := Aside0.mk hr0
 have HH := Aside0.mk h
 clear hr0 h hl
 obtain ⟨m, hm⟩ : ∃ m, m = l0.length := ⟨_, rfl⟩
 have HM := Aside0.mk hm
 rw [← hm] at hc0 ⊢
 clear hm
 go_enter Try.func58, Try.ntmps58
 by_cases hz : l0 = []
 ·have HZ := Aside0.mk hz
  have hm0 : m = 0 := by rw [HM.out, hz]; rfl
  subst hm0
  clear hz
  go_wp2_with (first | ((with_reducible refine gate_callee (f := 89) rfl ?_); refine goesL_ (some 5) rfl rfl Try.func89 (by kernel_rfl) rfl #[.slice A0 0 c0] rfl (by (try simp only [List.map_toArray, List.map_cons, List.map_nil]); first | done | rfl) ?_; refine (calls_of_args (args' := #[.slice A0 l0.length c0]) (by rw [← HM.out]) (impl_Pair_89.calls A0 c0 l0 l0 _ HR0.out (by rw [← HM.out]; exact Nat.zero_le _) HC.out)).mono ?_; rintro e w1 ⟨v1, rfl, ho, hb⟩; refine ⟨_, rfl, ?_⟩; obtain ⟨A1, c1, rfl, hl1, hC1⟩ := Kd.R_reads ho; rw [← HM.out]; rw [← HM.out] at hC1; have HC1 := Aside0.mk hC1; have HB := Aside0.mk hb; clear ho hb hl1 hC1) | ((with_reducible refine gate_callee (f := 90) rfl ?_); refine goesL_ (some 7) rfl rfl Try.func90 (by kernel_rfl) rfl #[.slice A1 0 c1, .func (.func 91) #[] #[]] rfl (by (try simp only [List.map_toArray, List.map_cons, List.map_nil]); first | done | rfl) ?_; refine (Try.slices_SortFunc_pair_none A1 c1 _ _).mono ?_; rintro e w2 ⟨rfl, rfl⟩; refine ⟨_, rfl, ?_⟩) | ((with_reducible refine gate_callee (f := 92) rfl ?_); refine goesL_ (some 9) rfl rfl Try.func92 (by kernel_rfl) rfl #[.slice none 0 0, .slice A1 0 c1] rfl (by (try simp only [List.map_toArray, List.map_cons, List.map_nil]); first | done | rfl) ?_; refine (impl_grown.run k [] (sortP l0) r HH.out (.slice none 0 0) A1 0 c1 _ _ (Below.refl _ _) ?sC (Nat.zero_le _) (Kd.S_nil _ _ _ _ _)).mono ?_; (case sC => rw [HZ.out]; exact ⟨sortP_length [], by decide, fun h_ => absurd h_ (Nat.lt_irrefl 0)⟩); rintro e w3 ⟨v3, rfl, ho, hb⟩; refine ⟨_, rfl, ?_⟩; have n0_ := Aside0.mk (Kd.S_lower ho (below_size HB.out)); have n1_ := Aside0.mk (below_step HB.out hb); clear ho hb HB; have HO := n0_; have HB := n1_; clear n0_ n1_))
  go_ret
  exact ⟨_, rfl, HO.out, HB.out⟩
 ·have HP := Aside0.mk (show 0 < l0.length from by
   cases l0 with
   | nil => exact absurd rfl hz
   | cons a l => simp)
  clear hz
  go_wp2_with (first | ((with_reducible refine gate_callee (f := 89) rfl ?_); refine goesL_ (some 5) rfl rfl Try.func89 (by kernel_rfl) rfl #[.slice A0 m c0] rfl (by (try simp only [List.map_toArray, List.map_cons, List.map_nil]); first | done | rfl) ?_; refine (calls_of_args (args' := #[.slice A0 l0.length c0]) (by rw [← HM.out]) (impl_Pair_89.calls A0 c0 l0 l0 _ HR0.out (by rw [← HM.out]; exact hc0) HC.out)).mono ?_; rintro e w1 ⟨v1, rfl, ho, hb⟩; refine ⟨_, rfl, ?_⟩; obtain ⟨g1, c1, rfl, hg1, hg2, cl1, hG1⟩ := Kd.R_form ho HP.out; rw [← HM.out]; have HG := Aside0.mk hG1; have HG1 := Aside0.mk hg1; have HO := Aside0.mk ho; have HB := Aside0.mk hb; clear ho hb hg1 hg2 hG1) | ((with_reducible refine gate_callee (f := 90) rfl ?_); refine goesL_ (some 7) rfl rfl Try.func90 (by kernel_rfl) rfl #[.slice (some ⟨g1, 0, none⟩) m c1, .func (.func 91) #[] #[]] rfl (by (try simp only [List.map_toArray, List.map_cons, List.map_nil]); first | done | rfl) ?_; refine (calls_of_args (args' := #[.slice (some ⟨g1, 0, none⟩) l0.length c1, .func (.func 91) #[] #[]]) (by rw [← HM.out]) (sort90.calls g1 c1 l0 w.heap.size _ HO.out (by rw [HG.out]; rfl) HL.out)).mono ?_; rintro e w2 ⟨rfl, ho, hg⟩; refine ⟨_, rfl, ?_⟩; have n0_ := Aside0.mk ho; have n1_ := Aside0.mk (pw_below_grown HB.out _ HB.out.size hg (fun k_ hk_ => by injection hk_ with hk_; rw [← hk_]; exact HG1.out)); clear ho hg HO HB HG; have HO := n0_; have HB := n1_; clear n0_ n1_) | ((with_reducible refine gate_callee (f := 92) rfl ?_); refine goesL_ (some 9) rfl rfl Try.func92 (by kernel_rfl) rfl #[.slice none 0 0, .slice (some ⟨g1, 0, none⟩) m c1] rfl (by (try simp only [List.map_toArray, List.map_cons, List.map_nil]); first | done | rfl) ?_; refine (impl_grown.run k [] (sortP l0) r HH.out (.slice none 0 0) (some ⟨g1, 0, none⟩) m c1 _ _ (Below.refl _ _) ?sC ?sD (Kd.S_nil _ _ _ _ _)).mono ?_; (case sC => rw [HM.out]; exact (by have h_ := (Kd.R_reads' HO.out).2.2; rwa [sortP_length] at h_)); (case sD => rw [HM.out]; exact (Kd.R_reads' HO.out).2.1); rintro e w3 ⟨v3, rfl, ho, hb⟩; refine ⟨_, rfl, ?_⟩; have n0_ := Aside0.mk (Kd.S_lower ho (below_size HB.out)); have n1_ := Aside0.mk (below_step HB.out hb); clear ho hb HO HB; have HO := n0_; have HB := n1_; clear n0_ n1_))
  go_ret
  exact ⟨_, rfl, HO.out, HB.out⟩
end
end Go.Proofs.Ytkkphbjemnifiaa.PFnFound
