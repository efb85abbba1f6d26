-- Printed for this claim by a changed copy of the kit's printing program (wip/tools/patch_print.py); Lean checks it.
import Derived.Test.YtgoedenbekedbaaDoorPFnSignsx0
import Derived.Test.YtgoedenbekedbaaDoorPFnSignsx2
namespace Go.Proofs.YtgoedenbekedbaaDoor.PFnSigns
open Go.RowKit Go.Proofs.YtgoedenbekedbaaDoorW.PrintWords Go.Proofs.YtgoedenbekedbaaDoorW.PrintLast Go.Proofs.YtgoedenbekedbaaDoorW.PrintMore
attribute [local go_sem] max2_int min2_int max_two min_two max_three min_three max_four min_four   -- for this text's walks alone
set_option linter.unusedVariables false
set_option linter.unusedSimpArgs false

noncomputable section
/-! ### impl_OfSigns: function 55 -/
def impl_OfSigns.f (k : Nat) (a0 : ByteArray) : Option (ByteArray × Bool) := if (a0.size : Int) > 800 then (some ((⟨#[]⟩ : ByteArray), false)) else ((impl_ofSigns.f k a0).bind fun bt156 => (some (bt156.1, bt156.2)))
theorem impl_OfSigns.mono : ∀ a0 k, LeO (impl_OfSigns.f k a0) (impl_OfSigns.f (k + 1) a0) := by
  intro a0 k
  unfold impl_OfSigns.f
  repeat' first
      | (with_reducible exact impl_ofSigns.mono _ _)
      | (with_reducible exact LeO.refl _)
      | (with_reducible exact LeO.none _)
      | (with_reducible refine LeO.ite ?_ ?_)
      | (with_reducible refine LeO.bind ?_ (fun _ => ?_))
      | exact impl_ofSigns.mono _ _
      | exact LeO.none _
      | refine LeO.ite ?_ ?_
      | refine LeO.bind ?_ (fun _ => ?_)
set_option maxHeartbeats 8000000 in
set_option maxRecDepth 100000 in
theorem impl_OfSigns.calls (k : Nat) (a0 : ByteArray) (r1 : ByteArray) (r2 : Bool) (w : World) (h : impl_OfSigns.f k a0 = some (r1, r2)) :
    Calls Tryd.prog 55 #[.string a0] w fun e w' => e = .returned (.tuple #[.string r1, .bool r2]) ∧ Below w.heap.size w w' := by
  have HB := Aside0.mk (Below.refl w.heap.size w)
  have H : (if (a0.size : Int) > 800 then (some ((⟨#[]⟩ : ByteArray), false)) else ((impl_ofSigns.f k a0).bind fun bt156 => (some (bt156.1, bt156.2)))) = some (r1, r2) := h
  clear h
  by_cases c2 : (a0.size : Int) > 800
  · rw [if_pos c2] at H
    have c2b0 : decide (800 < (a0.size : Int)) = true := decide_eq_true c2
    have c2b1 : decide (800 < a0.size) = true := decide_eq_true (by omega)
    clear c2
    simp only [Option.some.injEq, Prod.mk.injEq] at H
    obtain ⟨rfl, rfl⟩ := H
    go_enter Tryd.func55, Tryd.ntmps55
    go_wp2
    go_ret2
    exact ⟨by first | rfl | (simp [errW_none, errW_some] <;> rfl) | (simp [*, errW_none, errW_some] <;> rfl), by repeat (first | (with_reducible first | exact HB.out | apply below_alloc | apply pw_below_drewN | apply below_drew1) | exact HB.out)⟩
  · rw [if_neg c2] at H
    have c2b0 : decide (800 < (a0.size : Int)) = false := decide_eq_false c2
    have c2b1 : decide (800 < a0.size) = false := decide_eq_false (by omega)
    clear c2
    replace H := Option.bind_eq_some_iff.mp H
    obtain ⟨⟨t156, t157⟩, A30, H⟩ := H
    replace H : (some (t156, t157)) = some (r1, r2) := H
    have A3 := Aside0.mk A30
    clear A30
    simp only [Option.some.injEq, Prod.mk.injEq] at H
    obtain ⟨rfl, rfl⟩ := H
    go_enter Tryd.func55, Tryd.ntmps55
    go_wp2_with (first | ((with_reducible refine gate_callee (f := 116) rfl ?_); refine goesL_ (some 8) rfl rfl Tryd.func116 (by kernel_rfl) rfl #[.string a0] rfl (by (try simp only [List.map_toArray, List.map_cons, List.map_nil]); first | done | rfl | (simp only [List.length_drop, List.length_take]; rfl)) ?_; (with_reducible refine (impl_ofSigns.calls k a0 t156 t157 _ A3.out).mono ?_); rintro e w4 ⟨rfl, hb⟩; refine ⟨_, rfl, ?_⟩; have n0_ := Aside0.mk (below_step (by repeat (first | (with_reducible first | exact HB.out | apply below_alloc | apply pw_below_drewN | apply below_drew1) | exact HB.out)) hb); clear HB; have HB := n0_; clear n0_; (try clear hb); (try clear hb2); (try clear hk); (try clear hi)))
    go_ret2
    exact ⟨by first | rfl | (simp [errW_none, errW_some] <;> rfl) | (simp [*, errW_none, errW_some] <;> rfl), by repeat (first | (with_reducible first | exact HB.out | apply below_alloc | apply pw_below_drewN | apply below_drew1) | exact HB.out)⟩

/-! ### impl_within: function 96 -/
def impl_within.f (a0 : Int) (a1 : Int) (a2 : Int) : Option (Bool) := if a0 ≥ a1 then (some (decide (a0 ≤ a2))) else (some false)
set_option maxHeartbeats 8000000 in
set_option maxRecDepth 100000 in
theorem impl_within.calls (a0 : Int) (a1 : Int) (a2 : Int) (r : Bool) (w : World) (h : impl_within.f a0 a1 a2 = some r) :
    Calls Tryd.prog 96 #[.int .i64 a0, .int .i64 a1, .int .i64 a2] w fun e w' => e = .returned (.bool r) ∧ Drawn0 w w' := by
  have H : (if a0 ≥ a1 then (some (decide (a0 ≤ a2))) else (some false)) = some r := h
  clear h
  by_cases c4 : a0 ≥ a1
  · rw [if_pos c4] at H
    have c4b0 : decide (a1 ≤ a0) = true := decide_eq_true c4
    clear c4
    obtain rfl := Option.some.inj H
    go_enter Tryd.func96, Tryd.ntmps96
    go_wp2
    go_ret
    exact ⟨by first | rfl | (simp; done) | (simp [*]; done), by repeat (first | exact Drawn0.refl _ | apply Drawn0.step)⟩
  · rw [if_neg c4] at H
    have c4b0 : decide (a1 ≤ a0) = false := decide_eq_false c4
    clear c4
    obtain rfl := Option.some.inj H
    go_enter Tryd.func96, Tryd.ntmps96
    go_wp2
    go_ret
    exact ⟨by first | rfl | (simp; done) | (simp [*]; done), by repeat (first | exact Drawn0.refl _ | apply Drawn0.step)⟩

/-! ### impl_LengthAs: function 56 -/
def impl_LengthAs.f (a0 : Int) : Option (Int × Bool) := (impl_within.f a0 0 600).bind fun t158 => (if t158 = true then (some (wrap64 ((wrap64 (Int.tdiv (wrap64 (a0 + 2)) 3)) * 4), true)) else (some (0, false)))
set_option maxHeartbeats 8000000 in
set_option maxRecDepth 100000 in
theorem impl_LengthAs.calls (a0 : Int) (r1 : Int) (r2 : Bool) (w : World) (h : impl_LengthAs.f a0 = some (r1, r2)) :
    Calls Tryd.prog 56 #[.int .i64 a0] w fun e w' => e = .returned (.tuple #[.int .i64 r1, .bool r2]) ∧ Drawn0 w w' := by
  have H : ((impl_within.f a0 0 600).bind fun t158 => (if t158 = true then (some (wrap64 ((wrap64 (Int.tdiv (wrap64 (a0 + 2)) 3)) * 4), true)) else (some (0, false)))) = some (r1, r2) := h
  clear h
  replace H := Option.bind_eq_some_iff.mp H
  obtain ⟨t158, A20, H⟩ := H
  replace H : (if t158 = true then (some (wrap64 ((wrap64 (Int.tdiv (wrap64 (a0 + 2)) 3)) * 4), true)) else (some (0, false))) = some (r1, r2) := H
  have A2 := Aside0.mk A20
  clear A20
  by_cases c3 : t158 = true
  · subst c3
    have H1 : (some (wrap64 ((wrap64 (Int.tdiv (wrap64 (a0 + 2)) 3)) * 4), true)) = some (r1, r2) := by rw [if_pos rfl] at H; exact H
    clear H
    have H := H1
    clear H1
    simp only [Option.some.injEq, Prod.mk.injEq] at H
    obtain ⟨rfl, rfl⟩ := H
    go_enter Tryd.func56, Tryd.ntmps56
    go_wp2_with (first | ((with_reducible refine gate_callee (f := 96) rfl ?_); refine goesL_ (some 5) rfl rfl Tryd.func96 (by kernel_rfl) rfl #[.int .i64 a0, .int .i64 0, .int .i64 600] rfl (by (try simp only [List.map_toArray, List.map_cons, List.map_nil]); first | done | rfl | (simp only [List.length_drop, List.length_take]; rfl)) ?_; (with_reducible refine (impl_within.calls a0 0 600 true _ A2.out).mono ?_); rintro e w' ⟨rfl, ⟨nd, rfl⟩⟩; refine ⟨_, rfl, ?_⟩))
    go_ret2
    exact ⟨by first | rfl | (simp; done) | (simp [*]; done), by repeat (first | exact Drawn0.refl _ | apply Drawn0.step)⟩
  · replace c3 := Bool.eq_false_iff.mpr c3
    subst c3
    have H1 : (some (0, false)) = some (r1, r2) := by rw [if_neg (show ¬ (false = true) by decide)] at H; exact H
    clear H
    have H := H1
    clear H1
    simp only [Option.some.injEq, Prod.mk.injEq] at H
    obtain ⟨rfl, rfl⟩ := H
    go_enter Tryd.func56, Tryd.ntmps56
    go_wp2_with (first | ((with_reducible refine gate_callee (f := 96) rfl ?_); refine goesL_ (some 5) rfl rfl Tryd.func96 (by kernel_rfl) rfl #[.int .i64 a0, .int .i64 0, .int .i64 600] rfl (by (try simp only [List.map_toArray, List.map_cons, List.map_nil]); first | done | rfl | (simp only [List.length_drop, List.length_take]; rfl)) ?_; (with_reducible refine (impl_within.calls a0 0 600 false _ A2.out).mono ?_); rintro e w' ⟨rfl, ⟨nd, rfl⟩⟩; refine ⟨_, rfl, ?_⟩))
    go_ret2
    exact ⟨by first | rfl | (simp; done) | (simp [*]; done), by repeat (first | exact Drawn0.refl _ | apply Drawn0.step)⟩

/-! ### impl_hexOf: function 117 -/
def hx_d : List UInt8 := [48, 49, 50, 51, 52, 53, 54, 55, 56, 57, 97, 98, 99, 100, 101, 102]
def hx_two (b : UInt8) : List UInt8 := [hx_d.getD (b.toNat / 16) 0, hx_d.getD (b.toNat % 16) 0]
def hx_of (l : List UInt8) : List UInt8 := l.flatMap hx_two
theorem hx_len : ∀ l : List UInt8, (hx_of l).length = 2 * l.length
  | [] => rfl
  | b :: l => by
    have := hx_len l
    simp only [hx_of, List.flatMap_cons, List.length_append, List.length_cons, hx_two, List.length_nil] at this ⊢
    omega
theorem hx_take (l : List UInt8) (k : Nat) (h : k < l.length) : hx_of (l.take (k + 1)) = hx_of (l.take k) ++ hx_two (l.getD k 0) := by
  have e : l.take (k + 1) = l.take k ++ [l.getD k 0] := by rw [List.take_add_one, List.getD_eq_getElem?_getD, List.getElem?_eq_getElem h]; rfl
  rw [e]
  simp only [hx_of, List.flatMap_append, List.flatMap_cons, List.flatMap_nil, List.append_nil]
theorem hx_and15 (x : Int) (h0 : 0 ≤ x) (h1 : x < 256) : Go.bits .and .u8 x 15 = x % 16 := by
  have h := bits_mask .u8 8 (by decide) (fun n h₀ h₁ => by rw [show IntKind.u8.wrap n = n % 256 from rfl]; omega) 4 (by decide) x h0 (by omega)
  simpa using h
theorem hx_at (X : Nat) (xl : X < 16) (h : X < (⟨#[48, 49, 50, 51, 52, 53, 54, 55, 56, 57, 97, 98, 99, 100, 101, 102]⟩ : ByteArray).size) : (((⟨#[48, 49, 50, 51, 52, 53, 54, 55, 56, 57, 97, 98, 99, 100, 101, 102]⟩ : ByteArray)[X]'h).toNat : Int) = ((hx_d.getD X 0).toNat : Int) := by
  rw [List.getD_eq_getElem?_getD, List.getElem?_eq_getElem (show X < hx_d.length from xl)]
  rfl
def impl_hexOf.f (a0 : ByteArray) : Option ByteArray := if a0.size ≤ 1000000000000 then some ⟨(hx_of a0.data.toList).toArray⟩ else none
set_option maxHeartbeats 8000000 in
set_option maxRecDepth 100000 in
theorem impl_hexOf.calls (a0 : ByteArray) (r : ByteArray) (w : World) (h : impl_hexOf.f a0 = some r) :
    Calls Tryd.prog 117 #[.string a0] w fun e w' => e = .returned (.string r) ∧ Below w.heap.size w w' := by
  unfold impl_hexOf.f at h
  by_cases hl : a0.size ≤ 1000000000000
  rotate_left
  · rw [if_neg hl] at h; cases h
  rw [if_pos hl] at h
  obtain rfl := Option.some.inj h
  have HS := Aside0.mk hl
  have HF := Aside0.mk (Go.Proofs.YtgoedenbekedbaaDoor.Bld.fresh w)
  have HB := Aside0.mk (Below.refl w.heap.size w)
  clear hl h
  go_enter Tryd.func117, Tryd.ntmps117
  go_wp2
  go_loopw [7] (fun i wr => ∃ k : Nat, k ≤ a0.size ∧ i = .int .i64 k ∧ Aside0 (Lib.IsBuilder 122 5 w.heap.size w.heap.size (Lib.byteCells (hx_of (a0.data.toList.take k))) wr) ∧ Aside0 (Below w.heap.size w wr)) (fun i _ => a0.size - (intOf i).toNat)
  case atStart => exact ⟨0, by omega, rfl, by simpa [hx_of] using HF, ⟨below_alloc HB.out _⟩⟩
  case round =>
    clear HF HB
    obtain ⟨k, hk, rfl, HI, HB⟩ := hrel
    by_cases q : k < a0.size
    · have hS := HS.out
      have dl : a0.data.toList.length = a0.size := data_length a0
      have q0 : decide (k < a0.size) = true := decide_eq_true q
      obtain ⟨U, hU⟩ : ∃ U : UInt8, U = a0.data.toList.getD k 0 := ⟨_, rfl⟩
      have TK := hx_take a0.data.toList k (by omega)
      rw [← hU] at TK
      have hlen := hx_len (a0.data.toList.take k)
      rw [List.length_take, dl] at hlen
      obtain ⟨acc, hacc⟩ : ∃ acc, hx_of (a0.data.toList.take k) = acc := ⟨_, rfl⟩
      rw [hacc] at HI TK hlen
      clear hacc
      have HL := Aside0.mk (show acc.length + 2 ≤ 2000000000010 by omega)
      have HT := Aside0.mk TK
      clear TK hlen
      obtain ⟨V, hV⟩ : ∃ V : Nat, V = U.toNat := ⟨_, rfl⟩
      have vl : V < 256 := by rw [hV]; exact UInt8.toNat_lt U
      have hx : ∀ h : k < a0.size, ((a0[k]'h).toNat : Int) = (V : Int) := fun h => by
        rw [hV, hU, List.getD_eq_getElem?_getD, List.getElem?_eq_getElem (by omega)]
        rfl
      obtain ⟨X, hX⟩ : ∃ X : Nat, X = V / 16 := ⟨_, rfl⟩
      obtain ⟨Y, hY⟩ : ∃ Y : Nat, Y = V % 16 := ⟨_, rfl⟩
      have xl : X < 16 := by omega
      have yl : Y < 16 := by omega
      have e1 : (V : Int) / 16 = (X : Int) := by omega
      have e2 : Go.bits .and .u8 (V : Int) 15 = (Y : Int) := by rw [hx_and15 _ (by omega) (by omega)]; omega
      obtain ⟨C, hC⟩ : ∃ C : Nat, C = (hx_d.getD X 0).toNat := ⟨_, rfl⟩
      obtain ⟨D, hD⟩ : ∃ D : Nat, D = (hx_d.getD Y 0).toNat := ⟨_, rfl⟩
      have hc : ∀ h : X < (⟨#[48, 49, 50, 51, 52, 53, 54, 55, 56, 57, 97, 98, 99, 100, 101, 102]⟩ : ByteArray).size, (((⟨#[48, 49, 50, 51, 52, 53, 54, 55, 56, 57, 97, 98, 99, 100, 101, 102]⟩ : ByteArray)[X]'h).toNat : Int) = (C : Int) := fun h => by rw [hC]; exact hx_at X xl h
      have hd : ∀ h : Y < (⟨#[48, 49, 50, 51, 52, 53, 54, 55, 56, 57, 97, 98, 99, 100, 101, 102]⟩ : ByteArray).size, (((⟨#[48, 49, 50, 51, 52, 53, 54, 55, 56, 57, 97, 98, 99, 100, 101, 102]⟩ : ByteArray)[Y]'h).toNat : Int) = (D : Int) := fun h => by rw [hD]; exact hx_at Y yl h
      have two : Lib.byteCells (acc ++ hx_two U) = (Lib.byteCells acc ++ [.int .u8 (C : Int)]) ++ [.int .u8 (D : Int)] := by
        rw [Lib.byteCells_append, hC, hD, hX, hY, hV, List.append_assoc]
        rfl
      have TW := Aside0.mk two
      clear two hC hD hX hY hV hU
      have x0 := eq_true (show (0 : Int) ≤ (X : Int) by omega)
      have x1 := eq_true (show (X : Int) < 16 by omega)
      have x2 := eq_true xl
      have y0 := eq_true (show (0 : Int) ≤ (Y : Int) by omega)
      have y1 := eq_true (show (Y : Int) < 16 by omega)
      have y2 := eq_true yl
      go_wp2_with (go_at_call 147; (with_reducible refine (Go.Proofs.YtgoedenbekedbaaDoor.Bld.writeByte w.heap.size w.heap.size _ _ _ HI.out (by have := HL.out; simp only [Lib.byteCells_length, List.length_append, List.length_cons, List.length_nil]; omega) (below_size HB.out)).mono ?_); rintro e w2 ⟨rfl, hI, hb⟩; have n0_ := Aside0.mk (HB.out.trans hb); have n1_ := Aside0.mk hI; clear HB HI hI hb; have HB := n0_; have HI := n1_; clear n0_ n1_)
      go_roundw
      case rel => exact ⟨k + 1, by omega, by go_num, ⟨by rw [HT.out, TW.out]; exact HI.out⟩, HB⟩
      case measure => simp [intOf]; omega
    · have q0 : decide (k < a0.size) = false := decide_eq_false q
      have hk' : k = a0.size := by omega
      go_wp2_with (go_at_call 148; (with_reducible refine (Go.Proofs.YtgoedenbekedbaaDoor.Bld.string w.heap.size w.heap.size _ _ HI.out (below_size HB.out)).mono ?_); rintro e w2 ⟨rfl, hb⟩; have n0_ := Aside0.mk (HB.out.trans hb); clear HB hb; have HB := n0_; clear n0_)
      go_ret
      exact ⟨by rw [List.take_of_length_le (by rw [data_length]; omega)]; rfl, HB.out⟩

/-! ### impl_HexOf: function 57 -/
def impl_HexOf.f (a0 : ByteArray) : Option (ByteArray × Bool) := if (a0.size : Int) > 600 then (some ((⟨#[]⟩ : ByteArray), false)) else ((impl_hexOf.f a0).bind fun t159 => (some (t159, true)))
set_option maxHeartbeats 8000000 in
set_option maxRecDepth 100000 in
theorem impl_HexOf.calls (a0 : ByteArray) (r1 : ByteArray) (r2 : Bool) (w : World) (h : impl_HexOf.f a0 = some (r1, r2)) :
    Calls Tryd.prog 57 #[.string a0] w fun e w' => e = .returned (.tuple #[.string r1, .bool r2]) ∧ Below w.heap.size w w' := by
  have HB := Aside0.mk (Below.refl w.heap.size w)
  have H : (if (a0.size : Int) > 600 then (some ((⟨#[]⟩ : ByteArray), false)) else ((impl_hexOf.f a0).bind fun t159 => (some (t159, true)))) = some (r1, r2) := h
  clear h
  by_cases c2 : (a0.size : Int) > 600
  · rw [if_pos c2] at H
    have c2b0 : decide (600 < (a0.size : Int)) = true := decide_eq_true c2
    have c2b1 : decide (600 < a0.size) = true := decide_eq_true (by omega)
    clear c2
    simp only [Option.some.injEq, Prod.mk.injEq] at H
    obtain ⟨rfl, rfl⟩ := H
    go_enter Tryd.func57, Tryd.ntmps57
    go_wp2
    go_ret2
    exact ⟨by first | rfl | (simp [errW_none, errW_some] <;> rfl) | (simp [*, errW_none, errW_some] <;> rfl), by repeat (first | (with_reducible first | exact HB.out | apply below_alloc | apply pw_below_drewN | apply below_drew1) | exact HB.out)⟩
  · rw [if_neg c2] at H
    have c2b0 : decide (600 < (a0.size : Int)) = false := decide_eq_false c2
    have c2b1 : decide (600 < a0.size) = false := decide_eq_false (by omega)
    clear c2
    replace H := Option.bind_eq_some_iff.mp H
    obtain ⟨t159, A30, H⟩ := H
    replace H : (some (t159, true)) = some (r1, r2) := H
    have A3 := Aside0.mk A30
    clear A30
    simp only [Option.some.injEq, Prod.mk.injEq] at H
    obtain ⟨rfl, rfl⟩ := H
    go_enter Tryd.func57, Tryd.ntmps57
    go_wp2_with (first | ((with_reducible refine gate_callee (f := 117) rfl ?_); refine goesL_ (some 8) rfl rfl Tryd.func117 (by kernel_rfl) rfl #[.string a0] rfl (by (try simp only [List.map_toArray, List.map_cons, List.map_nil]); first | done | rfl | (simp only [List.length_drop, List.length_take]; rfl)) ?_; (with_reducible refine (impl_hexOf.calls a0 t159 _ A3.out).mono ?_); rintro e w4 ⟨rfl, hb⟩; refine ⟨_, rfl, ?_⟩; have n0_ := Aside0.mk (below_step (by repeat (first | (with_reducible first | exact HB.out | apply below_alloc | apply pw_below_drewN | apply below_drew1) | exact HB.out)) hb); clear HB; have HB := n0_; clear n0_; (try clear hb); (try clear hb2); (try clear hk); (try clear hi)))
    go_ret2
    exact ⟨by first | rfl | (simp [errW_none, errW_some] <;> rfl) | (simp [*, errW_none, errW_some] <;> rfl), by repeat (first | (with_reducible first | exact HB.out | apply below_alloc | apply pw_below_drewN | apply below_drew1) | exact HB.out)⟩

/-! ### strconv_ParseUint: function 152 -/
/-- The value of a hexadecimal digit, told by its byte's number. -/
def pu_dig (c : Nat) : Option Nat := if 48 ≤ c ∧ c ≤ 57 then some (c - 48) else if 97 ≤ c ∧ c ≤ 102 then some (c - 87) else if 65 ≤ c ∧ c ≤ 70 then some (c - 55) else none
/-- The number that hexadecimal digits spell, behind an elder one. -/
def pu_num : Nat → List UInt8 → Option Nat
  | acc, [] => some acc
  | acc, c :: r => match pu_dig c.toNat with
    | some d => pu_num (acc * 16 + d) r
    | none => none
theorem pu_low : ∀ c : Nat, c < 256 → ∃ L : Nat, Go.bits .or .u8 (c : Int) 32 = (L : Int) ∧ L < 256 ∧ ((97 ≤ L ∧ L ≤ 102) ↔ (97 ≤ c ∧ c ≤ 102 ∨ 65 ≤ c ∧ c ≤ 70)) ∧ (97 ≤ c ∧ c ≤ 102 → L = c) ∧ (65 ≤ c ∧ c ≤ 70 → L = c + 32) := by
  have key : ∀ c : Fin 256, (let L := (Go.bits .or .u8 ((c.val : Nat) : Int) 32).toNat; ((Go.bits .or .u8 ((c.val : Nat) : Int) 32 = (L : Int)) && decide (L < 256) && (decide (97 ≤ L ∧ L ≤ 102) == decide (97 ≤ c.val ∧ c.val ≤ 102 ∨ 65 ≤ c.val ∧ c.val ≤ 70)) && (!decide (97 ≤ c.val ∧ c.val ≤ 102) || decide (L = c.val)) && (!decide (65 ≤ c.val ∧ c.val ≤ 70) || decide (L = c.val + 32))) = true) := by decide +kernel
  intro c hc
  have h := key ⟨c, hc⟩
  refine ⟨(Go.bits .or .u8 (c : Int) 32).toNat, ?_⟩
  simp only [Bool.and_eq_true, decide_eq_true_eq, beq_iff_eq, Bool.or_eq_true, Bool.not_eq_true', decide_eq_false_iff_not, decide_eq_decide] at h
  obtain ⟨⟨⟨⟨h1, h2⟩, h3⟩, h4⟩, h5⟩ := h
  exact ⟨h1, h2, h3, fun q => h4.resolve_left (fun n => n q), fun q => h5.resolve_left (fun n => n q)⟩
theorem pu_lower (c L : Int) (h : Go.bits .or .u8 c 32 = L) (w : World) : Calls Tryd.prog 189 #[.int .u8 c] w fun e w' => e = .returned (.int .u8 L) ∧ w' = w := by
  go_enter Tryd.func189, Tryd.ntmps189
  go_wp2
  go_ret
  exact ⟨rfl, rfl⟩
/-- What internal/strconv.ParseUint(s, 16, 8) hands back. -/
def pu_tuple : Option Nat → Value
  | some n => .tuple #[.int .u64 n, .nilIface]
  | none => .tuple #[.int .u64 0, .iface 143 (.int .i64 2)]
set_option maxHeartbeats 32000000 in
set_option maxRecDepth 100000 in
theorem pu_inner (t : ByteArray) (ht : t.size = 2) (w : World) :
    Calls Tryd.prog 170 #[.string t, .int .i64 16, .int .i64 8] w fun e w' => e = .returned (pu_tuple (pu_num 0 t.data.toList)) ∧ w' = Lib.bytesWorld w 5 t := by
  have hemp : t.toList.isEmpty = false := by
    rw [← decide_eq_emptyBytes]
    exact decide_eq_false (fun h => by rw [h] at ht; exact absurd ht (by decide))
  have hcv := Lib.run_convert_string_bytes (P := Tryd.prog) w 9 45 5 t (u := .string) Tryd.underlying9 Tryd.underlying45 Tryd.underlying5
  have hB : ∀ j, j < t.size → (Lib.bytesWorld w 5 t).cell? ⟨w.heap.size, j, none⟩ = some (.int .u8 (t.data.toList.getD j 0).toNat) := fun j hj => Lib.bytesWorld_cell w 5 t j hj
  obtain ⟨W1, hW1⟩ : ∃ W1, W1 = Lib.bytesWorld w 5 t := ⟨_, rfl⟩
  rw [← hW1] at hcv hB ⊢
  clear hW1
  obtain ⟨bs, hL⟩ : ∃ bs, bs = t.data.toList := ⟨_, rfl⟩
  have hLn : bs.length = t.size := by rw [hL, Lib.size_eq]
  rw [← hL] at hB ⊢
  clear hL
  have hmv : IntKind.u64.wrap (IntKind.u64.wrap 256 - 1) = 255 := by
    rw [IntKind.wrap_u64, IntKind.wrap_u64]
    decide
  go_enter Tryd.func170, Tryd.ntmps170
  go_wp2
  go_loop [12, 13, 101] (fun vu vn vi => ∃ (k acc : Nat) (a : Int), vu = .bool false ∧ vn = .int .u64 a ∧ vi = .int .i64 k ∧ k ≤ t.size ∧ Hid (a = (acc : Int) ∧ acc < 16 ^ k ∧ pu_num 0 bs = pu_num acc (bs.drop k)))
    (fun _ _ vi => t.size - (intOf vi).toNat)
  case atStart => exact ⟨0, 0, 0, rfl, rfl, rfl, by omega, rfl, by omega, rfl⟩
  case round =>
    obtain ⟨k, acc, a, rfl, rfl, rfl, hk, hh⟩ := hrel
    obtain ⟨ha, hacc, hdec⟩ := hh.out
    clear hh
    by_cases hkn : k < t.size
    · have hk1 : k = 0 ∨ k = 1 := by omega
      have hacc' : acc < 16 := by
        rcases hk1 with rfl | rfl
        · simp at hacc; omega
        · simpa using hacc
      have a0 : 0 ≤ a := by omega
      have a1 : a ≤ 15 := by omega
      have hc := hB k hkn
      have hdrop : bs.drop k = bs[k]'(by omega) :: bs.drop (k + 1) := List.drop_eq_getElem_cons (by omega)
      have hget : bs.getD k 0 = bs[k]'(by omega) := by simp [List.getD, List.getElem?_eq_getElem (show k < bs.length by omega)]
      rw [hdrop] at hdec
      rw [hget] at hc
      generalize bs[k]'(by omega) = c at hc hdec
      have hc256 : c.toNat < 256 := c.toNat_lt
      clear hB hdrop hget
      obtain ⟨L, hLo, hL256, hLi, hLa, hLA⟩ := pu_low c.toNat hc256
      by_cases hdig : 48 ≤ c.toNat ∧ c.toNat ≤ 57
      · obtain ⟨hd0, hd1⟩ := hdig
        have hF : pu_num acc (c :: bs.drop (k + 1)) = pu_num (acc * 16 + (c.toNat - 48)) (bs.drop (k + 1)) := by simp [pu_num, pu_dig, hd0, hd1]
        have HN : Hid (a * 16 + ((c.toNat : Int) - 48) = ((acc * 16 + (c.toNat - 48) : Nat) : Int) ∧ acc * 16 + (c.toNat - 48) < 16 ^ (k + 1) ∧ pu_num 0 bs = pu_num (acc * 16 + (c.toNat - 48)) (bs.drop (k + 1))) := Lib.hid ⟨by omega, by rw [Nat.pow_succ]; omega, hdec.trans hF⟩
        clear hacc hF hdec ha hLo hLi hLa hLA hk1 hacc'
        go_wp2
        refine ⟨⟨k + 1, acc * 16 + (c.toNat - 48), a * 16 + ((c.toNat : Int) - 48), rfl, (by first | rfl | (congr 1; omega)), (by first | rfl | (congr 1; omega)), by omega, HN⟩, by simp [intOf]; omega⟩
      · by_cases hlet : 97 ≤ L ∧ L ≤ 102
        · have hlc := hLi.1 hlet
          have hF : pu_num acc (c :: bs.drop (k + 1)) = pu_num (acc * 16 + (L - 87)) (bs.drop (k + 1)) := by
            have e : pu_dig c.toNat = some (L - 87) := by
              unfold pu_dig
              rw [if_neg hdig]
              rcases hlc with q | q
              · rw [if_pos q, hLa q]
              · rw [if_neg (by omega), if_pos q, hLA q]; exact congrArg some (by omega)
            simp [pu_num, e]
          obtain ⟨hl0, hl1⟩ := hlet
          have HN : Hid (a * 16 + ((L : Int) - 87) = ((acc * 16 + (L - 87) : Nat) : Int) ∧ acc * 16 + (L - 87) < 16 ^ (k + 1) ∧ pu_num 0 bs = pu_num (acc * 16 + (L - 87)) (bs.drop (k + 1))) := Lib.hid ⟨by omega, by rw [Nat.pow_succ]; omega, hdec.trans hF⟩
          have hne : ¬ (c.toNat : Int) = 95 := fun q => by omega
          clear hacc hF hdec ha hLi hLa hLA hk1 hacc' hlc
          go_wp2_with (go_at_call 189; refine (pu_lower _ _ hLo _).mono ?_; rintro e w' ⟨rfl, rfl⟩)
          all_goals (try (refine ⟨⟨k + 1, acc * 16 + (L - 87), a * 16 + ((L : Int) - 87), rfl, (by first | rfl | (congr 1; omega)), (by first | rfl | (congr 1; omega)), by omega, HN⟩, by simp [intOf]; omega⟩))
        · have hF : pu_num acc (c :: bs.drop (k + 1)) = none := by
            have hn : ¬ (97 ≤ c.toNat ∧ c.toNat ≤ 102 ∨ 65 ≤ c.toNat ∧ c.toNat ≤ 70) := fun q => hlet (hLi.2 q)
            have e : pu_dig c.toNat = none := by
              unfold pu_dig
              rw [if_neg hdig, if_neg (fun q => hn (.inl q)), if_neg (fun q => hn (.inr q))]
            simp [pu_num, e]
          rw [hF] at hdec
          clear hacc hF ha hLi hLa hLA hk1 hacc'
          go_wp2_with (go_at_call 189; (first | refine (pu_lower _ _ hLo _).mono ?_ | refine (pu_lower 95 127 (by decide +kernel) _).mono ?_); rintro e w' ⟨rfl, rfl⟩)
          all_goals go_ret2
          all_goals first | exact ⟨rfl, rfl⟩ | exact ⟨by rw [hdec]; rfl, rfl⟩
    · have hkk : k = t.size := by omega
      subst hkk
      have hF : pu_num acc (bs.drop t.size) = some acc := by rw [List.drop_eq_nil_of_le (by omega)]; rfl
      rw [hF] at hdec
      subst ha
      clear hacc hF
      go_wp2
      go_ret2
      exact ⟨rfl, rfl⟩
set_option maxHeartbeats 4000000 in
set_option maxRecDepth 100000 in
theorem pu_ok (t : ByteArray) (ht : t.size = 2) (u : Nat) (h : pu_num 0 t.data.toList = some u) (w : World) :
    Calls Tryd.prog 152 #[.string t, .int .i64 16, .int .i64 8] w fun e w' => e = .returned (.tuple #[.int .u64 u, .nilIface]) ∧ Below w.heap.size w w' := by
  have hI := pu_inner t ht w
  rw [h] at hI
  have hI : Calls Tryd.prog 170 #[.string t, .int .i64 16, .int .i64 8] w fun e w' => e = .returned (.tuple #[.int .u64 u, .nilIface]) ∧ w' = Lib.bytesWorld w 5 t := hI
  clear h
  go_enter Tryd.func152, Tryd.ntmps152
  go_wp2_with (go_at_call 170; refine hI.mono ?_; rintro e W1 ⟨rfl, hW⟩)
  go_wp2
  go_ret2
  exact ⟨rfl, Lib.bytesWorld_below _ _ _⟩
set_option maxHeartbeats 4000000 in
set_option maxRecDepth 100000 in
theorem pu_bad (t : ByteArray) (ht : t.size = 2) (h : pu_num 0 t.data.toList = none) (w : World) (tb : Go.Proofs.YtgoedenbekedbaaDoor.TabsS.Tabs0 w) :
    Calls Tryd.prog 152 #[.string t, .int .i64 16, .int .i64 8] w fun e w' => (∃ T p, e = .returned (.tuple #[.int .u64 0, .iface T p])) ∧ Below w.heap.size w w' := by
  obtain ⟨ev, hv, hev⟩ := tb.syn
  have hI := pu_inner t ht w
  rw [h] at hI
  have hI : Calls Tryd.prog 170 #[.string t, .int .i64 16, .int .i64 8] w fun e w' => e = .returned (.tuple #[.int .u64 0, .iface 143 (.int .i64 2)]) ∧ w' = Lib.bytesWorld w 5 t := hI
  clear h
  have hl := Lib.lt_of_cell hv
  go_enter Tryd.func152, Tryd.ntmps152
  have HV := Aside0.mk hv
  have HL := Aside0.mk hl
  have HT := Aside0.mk ht
  have HE := Aside0.mk hev
  clear hv hl ht hev
  go_wp2_with (first | (go_at_call 170; refine hI.mono ?_; rintro e W1 ⟨rfl, hW⟩; have HB := Aside0.mk (show Below w.heap.size w W1 by rw [hW]; exact Lib.bytesWorld_below _ _ _); clear hW) | (go_at_call 161; refine (Tryd.strconv_toError_syntax ⟨#[80, 97, 114, 115, 101, 85, 105, 110, 116]⟩ t 16 8 ev _ (by have := HT.out; omega) ((HB.out.cell HL.out).trans HV.out) HE.out).mono ?_; rintro e W2 ⟨N, rfl, h1, h2, h3⟩; have HB2 := Aside0.mk (HB.out.trans (h3.mono HB.out.size)); clear h1 h2 h3))
  go_ret2
  exact ⟨⟨_, _, rfl⟩, HB2.out⟩
def pu_ret (r1 : Int) : Option Int → Ending → Prop
  | none, e => e = .returned (.tuple #[.int .u64 r1, .nilIface])
  | some _, e => ∃ T p, e = .returned (.tuple #[.int .u64 r1, .iface T p])
/-- strconv.ParseUint at two signs, base 16, eight bits: the number, or an error (told as 'some 0'; which one is left open). -/
def strconv_ParseUint.f (a0 : ByteArray) (a1 a2 : Int) : Option (Int × Option Int) :=
  if a0.size = 2 ∧ a1 = 16 ∧ a2 = 8 then (match pu_num 0 a0.data.toList with | some u => some ((u : Int), none) | none => some (0, some 0)) else none
theorem strconv_ParseUint.calls (a0 : ByteArray) (a1 a2 : Int) (r1 : Int) (r2 : Option Int) (w : World) (tb : Go.Proofs.YtgoedenbekedbaaDoor.TabsS.Tabs0 w) (h : strconv_ParseUint.f a0 a1 a2 = some (r1, r2)) :
    Calls Tryd.prog 152 #[.string a0, .int .i64 a1, .int .i64 a2] w fun e w' => pu_ret r1 r2 e ∧ Below w.heap.size w w' := by
  by_cases hc : a0.size = 2 ∧ a1 = 16 ∧ a2 = 8
  · obtain ⟨hs, h1, h2⟩ := hc
    have e : strconv_ParseUint.f a0 a1 a2 = (match pu_num 0 a0.data.toList with | some u => some ((u : Int), none) | none => some (0, some 0)) := by unfold strconv_ParseUint.f; rw [if_pos ⟨hs, h1, h2⟩]
    rw [e] at h
    subst h1 h2
    cases hn : pu_num 0 a0.data.toList with
    | some u =>
      rw [hn] at h
      have h' : ((u : Int), (none : Option Int)) = (r1, r2) := Option.some.inj h
      have q1 : (u : Int) = r1 := congrArg Prod.fst h'
      have q2 : (none : Option Int) = r2 := congrArg Prod.snd h'
      subst q1 q2
      exact pu_ok a0 hs u hn w
    | none =>
      rw [hn] at h
      have h' : ((0 : Int), (some 0 : Option Int)) = (r1, r2) := Option.some.inj h
      have q1 : (0 : Int) = r1 := congrArg Prod.fst h'
      have q2 : (some 0 : Option Int) = r2 := congrArg Prod.snd h'
      subst q1 q2
      exact pu_bad a0 hs hn w tb
  · have e : strconv_ParseUint.f a0 a1 a2 = none := by unfold strconv_ParseUint.f; rw [if_neg hc]
    rw [e] at h
    cases h

/-! ### impl_ofHex: function 118 -/
def impl_ofHex.l0 : Nat → ByteArray → List Int → Int → Option (ByteArray × Bool)
  | 0, _, _, _ => none
  | k + 1, x0, x4, x5 => if x5 < (x0.size : Int) then (if 0 ≤ x5 then (if x5 ≤ (wrap64 (x5 + 2)) then (if (wrap64 (x5 + 2)) ≤ (x0.size : Int) then ((strconv_ParseUint.f (x0.extract (x5 : Int).toNat ((wrap64 (x5 + 2)) : Int).toNat) 16 8).bind fun bt160 => (if bt160.2.isNone = true then (if x4.length < 140737488355328 then (impl_ofHex.l0 k x0 (x4 ++ [(bt160.1) % 256]) (wrap64 (x5 + 2))) else (none)) else (some ((⟨#[]⟩ : ByteArray), false)))) else (none)) else (none)) else (none)) else ((impl_hexOf.f (strOfNums x4)).bind fun t166 => (if t166.toList = x0.toList then (some (strOfNums x4, true)) else (some ((⟨#[]⟩ : ByteArray), false))))
def impl_ofHex.f (k : Nat) (a0 : ByteArray) : Option (ByteArray × Bool) := impl_ofHex.l0 k a0 ([] : List Int) 0
theorem impl_ofHex.mono_l : ∀ k, (∀ y0 y1 y2, LeO (impl_ofHex.l0 k y0 y1 y2) (impl_ofHex.l0 (k + 1) y0 y1 y2))
  | 0 => fun _ _ _ r h => by simp [impl_ofHex.l0] at h
  | k + 1 => by
    have ih0 := impl_ofHex.mono_l k
    · intro y0 y1 y2
      unfold impl_ofHex.l0
      repeat' first
      | (with_reducible exact ih0 _ _ _)
      | (with_reducible exact LeO.refl _)
      | (with_reducible exact LeO.none _)
      | (with_reducible refine LeO.ite ?_ ?_)
      | (with_reducible refine LeO.bind ?_ (fun _ => ?_))
      | exact ih0 _ _ _
      | exact LeO.none _
      | refine LeO.ite ?_ ?_
      | refine LeO.bind ?_ (fun _ => ?_)
theorem impl_ofHex.mono : ∀ a0 k, LeO (impl_ofHex.f k a0) (impl_ofHex.f (k + 1) a0) := by
  intro a0 k
  have ih0 := impl_ofHex.mono_l k
  unfold impl_ofHex.f
  repeat' first
      | (with_reducible exact ih0 _ _ _)
      | (with_reducible exact LeO.refl _)
      | (with_reducible exact LeO.none _)
      | (with_reducible refine LeO.ite ?_ ?_)
      | (with_reducible refine LeO.bind ?_ (fun _ => ?_))
      | exact ih0 _ _ _
      | exact LeO.none _
      | refine LeO.ite ?_ ?_
      | refine LeO.bind ?_ (fun _ => ?_)
set_option maxHeartbeats 8000000 in
set_option maxRecDepth 100000 in
theorem impl_ofHex.calls (k : Nat) (a0 : ByteArray) (r1 : ByteArray) (r2 : Bool) (w : World) (tb : Go.Proofs.YtgoedenbekedbaaDoor.TabsS.Tabs0 w) (h : impl_ofHex.f k a0 = some (r1, r2)) :
    Calls Tryd.prog 118 #[.string a0] w fun e w' => e = .returned (.tuple #[.string r1, .bool r2]) ∧ Below w.heap.size w w' := by
  have hu112 := Tryd.underlying112
  have TB := Aside0.mk tb
  clear tb
  have HB := Aside0.mk (Below.refl w.heap.size w)
  have H : (impl_ofHex.l0 k a0 ([] : List Int) 0) = some (r1, r2) := h
  clear h
  have H' := Aside0.mk H
  clear H
  go_enter Tryd.func118, Tryd.ntmps118
  go_wp2
  go_loopg [4, 5] k (fun kq v4 v5 w' => ∃ (x4_1 : List Int) (x5_1 : Int), v5 = .int .i64 x5_1 ∧ Aside0 (impl_ofHex.l0 kq a0 x4_1 x5_1 = some (r1, r2)) ∧ Aside0 (kq ≤ k) ∧ Aside0 (Kd.R (Kd.int .u8) 5 w' w.heap.size (fun _ => True) v4 x4_1) ∧ Aside0 (Below w.heap.size w w'))
  case atStart => exact ⟨(([] : List Int)), (0), (by first | rfl | (simp; done) | (simp [*]; done)), H', ⟨Nat.le_refl _⟩, ⟨by first | exact Kd.R_nil _ _ _ _ _ | exact Kd.N_nil _ _ _ _ _ | exact Kd.V_nil _ _ _ _ _ | exact Kd.Q_nil _ _ _ _ _ | exact Kd.S_nil _ _ _ _ _⟩, ⟨by repeat (first | (with_reducible first | exact HB.out | apply below_alloc | apply pw_below_drewN | apply below_drew1) | exact HB.out)⟩⟩
  case round =>
    clear H'
    try clear c1
    obtain ⟨x4_1, x5_1, rfl, HA, HK1, HO_4, HB⟩ := hrel
    cases gk with
    | zero => exact absurd HA.out (by simp [impl_ofHex.l0])
    | succ k1 =>
      have H := HA.out
      clear HA
      simp only [impl_ofHex.l0] at H
      by_cases c2 : x5_1 < (a0.size : Int)
      · rw [if_pos c2] at H
        have c2b0 : decide (x5_1 < (a0.size : Int)) = true := decide_eq_true c2
        clear c2
        by_cases c3 : 0 ≤ x5_1
        · rw [if_pos c3] at H
          have c3b0 := eq_true c3
          have c3b1 : decide (0 ≤ x5_1) = true := decide_eq_true c3
          clear c3
          by_cases c4 : x5_1 ≤ (wrap64 (x5_1 + 2))
          · rw [if_pos c4] at H
            have c4b0 := eq_true c4
            have c4b1 : decide (x5_1 ≤ (wrap64 (x5_1 + 2))) = true := decide_eq_true c4
            by_cases c5 : (wrap64 (x5_1 + 2)) ≤ (a0.size : Int)
            · rw [if_pos c5] at H
              have c5b0 := eq_true c5
              have c5b1 : decide ((wrap64 (x5_1 + 2)) ≤ (a0.size : Int)) = true := decide_eq_true c5
              replace H := Option.bind_eq_some_iff.mp H
              obtain ⟨⟨t160, t161⟩, A60, H⟩ := H
              replace H : (if t161.isNone = true then (if x4_1.length < 140737488355328 then (impl_ofHex.l0 k1 a0 (x4_1 ++ [(t160) % 256]) (wrap64 (x5_1 + 2))) else (none)) else (some ((⟨#[]⟩ : ByteArray), false))) = some (r1, r2) := H
              have A6 := Aside0.mk A60
              clear A60
              rcases t161 with _ | q162
              · have H1 : (if x4_1.length < 140737488355328 then (impl_ofHex.l0 k1 a0 (x4_1 ++ [(t160) % 256]) (wrap64 (x5_1 + 2))) else (none)) = some (r1, r2) := by rw [if_pos (show (none : Option Int).isNone = true by rfl)] at H; exact H
                clear H
                have H := H1
                clear H1
                try simp only [errW_none, errW_some]
                by_cases c7 : x4_1.length < 140737488355328
                · rw [if_pos c7] at H
                  have LMc7 := Aside0.mk c7
                  clear c7
                  obtain ⟨y163, hy163⟩ : ∃ y_ : List Int, y_ = (x4_1 ++ [(t160) % 256]) := ⟨_, rfl⟩
                  replace H : (impl_ofHex.l0 k1 a0 y163 (wrap64 (x5_1 + 2))) = some (r1, r2) := by first | (rw [hy163]; with_reducible exact H) | (have H2_ := (Option.bind_some _ _).symm.trans H; rw [hy163]; with_reducible exact H2_) | (have H2_ := (Option.bind_some _ _).symm.trans H; with_reducible exact H2_) | with_reducible exact H | (rw [hy163]; exact H) | exact H
                  have Ny163 := Aside0.mk hy163
                  clear hy163
                  have H' := Aside0.mk H
                  clear H
                  go_wp2_with (first | ((with_reducible refine gate_callee (f := 152) rfl ?_); refine goesL_ (some 20) rfl rfl Tryd.func152 (by kernel_rfl) rfl #[.string (a0.extract (x5_1 : Int).toNat ((wrap64 (x5_1 + 2)) : Int).toNat), .int .i64 16, .int .i64 8] rfl (by (try simp only [List.map_toArray, List.map_cons, List.map_nil]); first | done | rfl | (simp only [List.length_drop, List.length_take]; rfl)) ?_; (with_reducible refine (strconv_ParseUint.calls (a0.extract (x5_1 : Int).toNat ((wrap64 (x5_1 + 2)) : Int).toNat) 16 8 t160 none _ ?side1 A6.out).mono ?_); (case side1 => exact Go.Proofs.YtgoedenbekedbaaDoor.TabsS.Tabs0.of_below TB.out (by repeat (first | (with_reducible first | exact HB.out | apply below_alloc | apply pw_below_drewN | apply below_drew1) | exact HB.out))); rintro e w8 ⟨rfl, hb⟩; refine ⟨_, rfl, ?_⟩; have n0_ := Aside0.mk (Kd.R_below (by (with_reducible repeat (first | apply Kd.R_alloc | apply Kd.R_drewN | apply Kd.R_drew)); exact HO_4.out) hb); have n1_ := Aside0.mk (below_step (by repeat (first | (with_reducible first | exact HB.out | apply below_alloc | apply pw_below_drewN | apply below_drew1) | exact HB.out)) hb); clear HO_4; clear HB; have HO_4 := n0_; have HB := n1_; clear n0_ n1_; (try clear hb); (try clear hb2); (try clear hk); (try clear hi); (try simp only [errW_none, errW_some])) | ((with_reducible refine gate_builtin (b := .append) (xs := #[.tmp 25, .tmp 28]) rfl ?_); at_builtin; refine Kd.R_append (Kd.int .u8) (w0 := w) w.heap.size rfl (.tmp 25) (.tmp 28) 45 5 (.int .u8 0) 1 rfl Tryd.underlying45 info5 rfl (by decide) (by omega) u4 x4_1 ((t160) % 256) [.int .u8 ((t160) % 256)] (fun _ => True) (fun _ => False) rfl rfl ?aP (fun _ hk => hk.elim) ?aF ?aO ?aB ?aS ?aL ?_; (case aP => exact rfl); (case aB => exact (by repeat (first | (with_reducible first | exact HB.out | apply below_alloc | apply pw_below_drewN | apply below_drew1) | exact HB.out))); (case aF => exact (fun _ _ => trivial)); (case aO => exact (by (with_reducible repeat (first | apply Kd.R_alloc | apply Kd.R_drewN | apply Kd.R_drew)); exact HO_4.out)); (case aS => exact (below_size (by repeat (first | (with_reducible first | exact HB.out | apply below_alloc | apply pw_below_drewN | apply below_drew1) | exact HB.out)))); (case aL => have := LMc7.out; omega); intro v164 w9 ho hb hg hat; rw [← Ny163.out] at ho; have n0_ := Aside0.mk (hb); have n1_ := Aside0.mk (ho); clear HB; clear HO_4; have HB := n0_; have HO165 := n1_; clear n0_ n1_; clear ho hb hg hat))
                  go_roundg k1
                  case measure => have := HK1.out; omega
                  case rel => exact ⟨(y163), (wrap64 (x5_1 + 2)), (by first | rfl | (simp; done) | (simp [*]; done)), H', ⟨by have := HK1.out; omega⟩, ⟨by (with_reducible repeat (first | apply Kd.R_alloc | apply Kd.R_drewN | apply Kd.R_drew)); exact HO165.out⟩, ⟨by repeat (first | (with_reducible first | exact HB.out | apply below_alloc | apply pw_below_drewN | apply below_drew1) | exact HB.out)⟩⟩
                · rw [if_neg c7] at H
                  exact absurd H (by simp)
              · have H1 : (some ((⟨#[]⟩ : ByteArray), false)) = some (r1, r2) := by rw [if_neg (show ¬ (some q162).isNone = true by simp)] at H; exact H
                clear H
                have H := H1
                clear H1
                try simp only [errW_none, errW_some]
                simp only [Option.some.injEq, Prod.mk.injEq] at H
                obtain ⟨rfl, rfl⟩ := H
                go_wp2_with (first | ((with_reducible refine gate_callee (f := 152) rfl ?_); refine goesL_ (some 20) rfl rfl Tryd.func152 (by kernel_rfl) rfl #[.string (a0.extract (x5_1 : Int).toNat ((wrap64 (x5_1 + 2)) : Int).toNat), .int .i64 16, .int .i64 8] rfl (by (try simp only [List.map_toArray, List.map_cons, List.map_nil]); first | done | rfl | (simp only [List.length_drop, List.length_take]; rfl)) ?_; (with_reducible refine (strconv_ParseUint.calls (a0.extract (x5_1 : Int).toNat ((wrap64 (x5_1 + 2)) : Int).toNat) 16 8 t160 (some q162) _ ?side1 A6.out).mono ?_); (case side1 => exact Go.Proofs.YtgoedenbekedbaaDoor.TabsS.Tabs0.of_below TB.out (by repeat (first | (with_reducible first | exact HB.out | apply below_alloc | apply pw_below_drewN | apply below_drew1) | exact HB.out))); rintro e w10 ⟨⟨tq_, pq_, rfl⟩, hb⟩; refine ⟨_, rfl, ?_⟩; have n0_ := Aside0.mk (Kd.R_below (by (with_reducible repeat (first | apply Kd.R_alloc | apply Kd.R_drewN | apply Kd.R_drew)); exact HO_4.out) hb); have n1_ := Aside0.mk (below_step (by repeat (first | (with_reducible first | exact HB.out | apply below_alloc | apply pw_below_drewN | apply below_drew1) | exact HB.out)) hb); clear HO_4; clear HB; have HO_4 := n0_; have HB := n1_; clear n0_ n1_; (try clear hb); (try clear hb2); (try clear hk); (try clear hi); (try simp only [errW_none, errW_some])))
                go_ret2
                exact ⟨by first | rfl | (simp [errW_none, errW_some] <;> rfl) | (simp [*, errW_none, errW_some] <;> rfl), by repeat (first | (with_reducible first | exact HB.out | apply below_alloc | apply pw_below_drewN | apply below_drew1) | exact HB.out)⟩
            · rw [if_neg c5] at H
              exact absurd H (by simp)
          · rw [if_neg c4] at H
            exact absurd H (by simp)
        · rw [if_neg c3] at H
          exact absurd H (by simp)
      · rw [if_neg c2] at H
        have c2b0 : decide (x5_1 < (a0.size : Int)) = false := decide_eq_false c2
        clear c2
        replace H := Option.bind_eq_some_iff.mp H
        obtain ⟨t166, A110, H⟩ := H
        replace H : (if t166.toList = a0.toList then (some (strOfNums x4_1, true)) else (some ((⟨#[]⟩ : ByteArray), false))) = some (r1, r2) := H
        have A11 := Aside0.mk A110
        clear A110
        by_cases c12 : t166.toList = a0.toList
        · rw [if_pos c12] at H
          have c12b0 : (t166.toList == a0.toList) = true := beq_iff_eq.mpr c12
          have c12b1 : (t166.toList != a0.toList) = false := bne_eq_false_iff_eq.mpr c12
          clear c12
          simp only [Option.some.injEq, Prod.mk.injEq] at H
          obtain ⟨rfl, rfl⟩ := H
          have hcv13 := own_string (P := Tryd.prog) Tryd.underlying45 Tryd.underlying5 Tryd.underlying9 (Kd.own_of_R HO_4.out)
          go_wp2_with (first | ((with_reducible refine gate_callee (f := 117) rfl ?_); refine goesL_ (some 32) rfl rfl Tryd.func117 (by kernel_rfl) rfl #[.string (strOfNums x4_1)] rfl (by (try simp only [List.map_toArray, List.map_cons, List.map_nil]); first | done | rfl | (simp only [List.length_drop, List.length_take]; rfl)) ?_; (with_reducible refine (impl_hexOf.calls (strOfNums x4_1) t166 _ A11.out).mono ?_); rintro e w14 ⟨rfl, hb⟩; refine ⟨_, rfl, ?_⟩; have n0_ := Aside0.mk (Kd.R_below (by (with_reducible repeat (first | apply Kd.R_alloc | apply Kd.R_drewN | apply Kd.R_drew)); exact HO_4.out) hb); have n1_ := Aside0.mk (below_step (by repeat (first | (with_reducible first | exact HB.out | apply below_alloc | apply pw_below_drewN | apply below_drew1) | exact HB.out)) hb); clear HO_4; clear HB; have HO_4 := n0_; have HB := n1_; clear n0_ n1_; (try clear hb); (try clear hb2); (try clear hk); (try clear hi); have hcv15 := own_string (P := Tryd.prog) Tryd.underlying45 Tryd.underlying5 Tryd.underlying9 (Kd.own_of_R HO_4.out)))
          go_ret2
          exact ⟨by first | rfl | (simp [errW_none, errW_some] <;> rfl) | (simp [*, errW_none, errW_some] <;> rfl), by repeat (first | (with_reducible first | exact HB.out | apply below_alloc | apply pw_below_drewN | apply below_drew1) | exact HB.out)⟩
        · rw [if_neg c12] at H
          have c12b0 : (t166.toList == a0.toList) = false := beq_eq_false_iff_ne.mpr c12
          have c12b1 : (t166.toList != a0.toList) = true := bne_iff_ne.mpr c12
          simp only [Option.some.injEq, Prod.mk.injEq] at H
          obtain ⟨rfl, rfl⟩ := H
          have hcv16 := own_string (P := Tryd.prog) Tryd.underlying45 Tryd.underlying5 Tryd.underlying9 (Kd.own_of_R HO_4.out)
          go_wp2_with (first | ((with_reducible refine gate_callee (f := 117) rfl ?_); refine goesL_ (some 32) rfl rfl Tryd.func117 (by kernel_rfl) rfl #[.string (strOfNums x4_1)] rfl (by (try simp only [List.map_toArray, List.map_cons, List.map_nil]); first | done | rfl | (simp only [List.length_drop, List.length_take]; rfl)) ?_; (with_reducible refine (impl_hexOf.calls (strOfNums x4_1) t166 _ A11.out).mono ?_); rintro e w17 ⟨rfl, hb⟩; refine ⟨_, rfl, ?_⟩; have n0_ := Aside0.mk (Kd.R_below (by (with_reducible repeat (first | apply Kd.R_alloc | apply Kd.R_drewN | apply Kd.R_drew)); exact HO_4.out) hb); have n1_ := Aside0.mk (below_step (by repeat (first | (with_reducible first | exact HB.out | apply below_alloc | apply pw_below_drewN | apply below_drew1) | exact HB.out)) hb); clear HO_4; clear HB; have HO_4 := n0_; have HB := n1_; clear n0_ n1_; (try clear hb); (try clear hb2); (try clear hk); (try clear hi)))
          go_ret2
          exact ⟨by first | rfl | (simp [errW_none, errW_some] <;> rfl) | (simp [*, errW_none, errW_some] <;> rfl), by repeat (first | (with_reducible first | exact HB.out | apply below_alloc | apply pw_below_drewN | apply below_drew1) | exact HB.out)⟩

/-! ### impl_OfHex: function 58 -/
def impl_OfHex.f (k : Nat) (a0 : ByteArray) : Option (ByteArray × Bool) := if (a0.size : Int) > 1200 then (some ((⟨#[]⟩ : ByteArray), false)) else (if ((a0.size : Int) % 2) = 1 then (some ((⟨#[]⟩ : ByteArray), false)) else ((impl_ofHex.f k a0).bind fun bt167 => (some (bt167.1, bt167.2))))
theorem impl_OfHex.mono : ∀ a0 k, LeO (impl_OfHex.f k a0) (impl_OfHex.f (k + 1) a0) := by
  intro a0 k
  unfold impl_OfHex.f
  repeat' first
      | (with_reducible exact impl_ofHex.mono _ _)
      | (with_reducible exact LeO.refl _)
      | (with_reducible exact LeO.none _)
      | (with_reducible refine LeO.ite ?_ ?_)
      | (with_reducible refine LeO.bind ?_ (fun _ => ?_))
      | exact impl_ofHex.mono _ _
      | exact LeO.none _
      | refine LeO.ite ?_ ?_
      | refine LeO.bind ?_ (fun _ => ?_)
set_option maxHeartbeats 8000000 in
set_option maxRecDepth 100000 in
theorem impl_OfHex.calls (k : Nat) (a0 : ByteArray) (r1 : ByteArray) (r2 : Bool) (w : World) (tb : Go.Proofs.YtgoedenbekedbaaDoor.TabsS.Tabs0 w) (h : impl_OfHex.f k a0 = some (r1, r2)) :
    Calls Tryd.prog 58 #[.string a0] w fun e w' => e = .returned (.tuple #[.string r1, .bool r2]) ∧ Below w.heap.size w w' := by
  have TB := Aside0.mk tb
  clear tb
  have HB := Aside0.mk (Below.refl w.heap.size w)
  have H : (if (a0.size : Int) > 1200 then (some ((⟨#[]⟩ : ByteArray), false)) else (if ((a0.size : Int) % 2) = 1 then (some ((⟨#[]⟩ : ByteArray), false)) else ((impl_ofHex.f k a0).bind fun bt167 => (some (bt167.1, bt167.2))))) = some (r1, r2) := h
  clear h
  by_cases c2 : (a0.size : Int) > 1200
  · rw [if_pos c2] at H
    have c2b0 : decide (1200 < (a0.size : Int)) = true := decide_eq_true c2
    have c2b1 : decide (1200 < a0.size) = true := decide_eq_true (by omega)
    clear c2
    simp only [Option.some.injEq, Prod.mk.injEq] at H
    obtain ⟨rfl, rfl⟩ := H
    go_enter Tryd.func58, Tryd.ntmps58
    go_wp2
    go_ret2
    exact ⟨by first | rfl | (simp [errW_none, errW_some] <;> rfl) | (simp [*, errW_none, errW_some] <;> rfl), by repeat (first | (with_reducible first | exact HB.out | apply below_alloc | apply pw_below_drewN | apply below_drew1) | exact HB.out)⟩
  · rw [if_neg c2] at H
    have c2b0 : decide (1200 < (a0.size : Int)) = false := decide_eq_false c2
    have c2b1 : decide (1200 < a0.size) = false := decide_eq_false (by omega)
    clear c2
    by_cases c3 : ((a0.size : Int) % 2) = 1
    · rw [if_pos c3] at H
      have c3b0 : (((a0.size : Int) % 2) == 1) = true := beq_iff_eq.mpr c3
      have c3b1 : (((a0.size : Int) % 2) != 1) = false := bne_eq_false_iff_eq.mpr c3
      clear c3
      simp only [Option.some.injEq, Prod.mk.injEq] at H
      obtain ⟨rfl, rfl⟩ := H
      go_enter Tryd.func58, Tryd.ntmps58
      go_wp2
      go_ret2
      exact ⟨by first | rfl | (simp [errW_none, errW_some] <;> rfl) | (simp [*, errW_none, errW_some] <;> rfl), by repeat (first | (with_reducible first | exact HB.out | apply below_alloc | apply pw_below_drewN | apply below_drew1) | exact HB.out)⟩
    · rw [if_neg c3] at H
      have c3b0 : (((a0.size : Int) % 2) == 1) = false := beq_eq_false_iff_ne.mpr c3
      have c3b1 : (((a0.size : Int) % 2) != 1) = true := bne_iff_ne.mpr c3
      replace H := Option.bind_eq_some_iff.mp H
      obtain ⟨⟨t167, t168⟩, A40, H⟩ := H
      replace H : (some (t167, t168)) = some (r1, r2) := H
      have A4 := Aside0.mk A40
      clear A40
      simp only [Option.some.injEq, Prod.mk.injEq] at H
      obtain ⟨rfl, rfl⟩ := H
      go_enter Tryd.func58, Tryd.ntmps58
      go_wp2_with (first | ((with_reducible refine gate_callee (f := 118) rfl ?_); refine goesL_ (some 14) rfl rfl Tryd.func118 (by kernel_rfl) rfl #[.string a0] rfl (by (try simp only [List.map_toArray, List.map_cons, List.map_nil]); first | done | rfl | (simp only [List.length_drop, List.length_take]; rfl)) ?_; (with_reducible refine (impl_ofHex.calls k a0 t167 t168 _ ?side1 A4.out).mono ?_); (case side1 => exact Go.Proofs.YtgoedenbekedbaaDoor.TabsS.Tabs0.of_below TB.out (by repeat (first | (with_reducible first | exact HB.out | apply below_alloc | apply pw_below_drewN | apply below_drew1) | exact HB.out))); rintro e w5 ⟨rfl, hb⟩; refine ⟨_, rfl, ?_⟩; have n0_ := Aside0.mk (below_step (by repeat (first | (with_reducible first | exact HB.out | apply below_alloc | apply pw_below_drewN | apply below_drew1) | exact HB.out)) hb); clear HB; have HB := n0_; clear n0_; (try clear hb); (try clear hb2); (try clear hk); (try clear hi)))
      go_ret2
      exact ⟨by first | rfl | (simp [errW_none, errW_some] <;> rfl) | (simp [*, errW_none, errW_some] <;> rfl), by repeat (first | (with_reducible first | exact HB.out | apply below_alloc | apply pw_below_drewN | apply below_drew1) | exact HB.out)⟩

end
end Go.Proofs.YtgoedenbekedbaaDoor.PFnSigns
